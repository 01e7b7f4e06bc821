import PyProof.Rows.All
import Wide.All
import OpenK.AllK
import Wide.FinOn
import PyProof.EqAt
import PyProof.EqKinds
import PyProof.TupleCall
import KE.KLam
import KE.DataEq
import HandS.ForMost
import HandS.Exc
import HandS.Wide
import HandS.Lambda
import HandS.Deep
import HandS.TupAny
import HandS.SortInts
import HandS.SortOrd
import PyProof.ReprRoads
import HandS.TupMul
import HandS.Style
import KE.KTupSum
import KE.DatumOrd
import HandS.SortRule
import HandS.IsInst
import HandS.RaiseMore
import HandS.Conv
import HandS.NamedTupSort
import KE.SortData
import PyProof.ExcStr
import HandS.Comp
import HandS.Iter
import HandS.Zip
import HandS.Defaults
import HandS.SetFor
import HandS.Strs
import KE.KExcSuper
import HandS.ExcInit
import HandS.ExcValue
import KE.KExcIs
import HandS.Text
import KE.GoesMore
import PyProof.EnumMake
import HandS.Codes
import HandS.HeadHook1
import HandS.HeadWalk
import HandS.Head2
import HandS.EndTab
import HandS.FStrTup
import PyProof.StrLawsRepr
import PySem.Challenge.RW_comesouteven_k45_whole_ribs_that_flow_on
set_option Elab.async false
set_option linter.all false
set_option maxRecDepth 100000
set_option maxHeartbeats 4000000
/-! PM1: own layer: values that persist, a store for lists that change, the evaluator. -/
namespace PM
open PySem L2

structure LamI where
  qual : Str
  params : Arguments
  body : Expr
  scope : Scope
  N : List Str
/-- values: data by content; lists that change by a number in the store; errors; lambdas by their text and level of the frame that made them -/
inductive PV where
  | non | bl (b : Bool) | int (i : Int) | str (s : Str)
  | tup (xs : List PV) | lst (xs : List PV) | scr (ns : List Int)
  | dct (ks vs : List PV) | set (xs : List PV)
  | ref (n : Nat) | exc (c : Nat) (v : PV) | mkd (c : Nat) (n : Str) (v : PV) | clo (l : LamI) (lv : Nat)
instance : Inhabited PV := ⟨.non⟩

inductive Ob where
  | lst (xs : List PV) | dct (ks vs : List PV)
abbrev Store := List Ob
abbrev Env := List (Option PV)
inductive R (α : Type) where
  | ok (a : α) (st : Store) | exc (c : Nat) (v : PV) (st : Store) | bad
def bnd {α β : Type} (r : R α) (f : α → Store → R β) : R β := match r with
  | .ok a st => f a st | .exc c v st => .exc c v st | .bad => .bad
@[simp] theorem bnd_ok {α β : Type} (a : α) (st : Store) (f : α → Store → R β) : bnd (.ok a st) f = f a st := rfl
@[simp] theorem bnd_exc {α β : Type} (c : Nat) (v : PV) (st : Store) (f : α → Store → R β) : bnd (.exc c v st) f = .exc c v st := rfl
@[simp] theorem bnd_bad {α β : Type} (f : α → Store → R β) : bnd (.bad : R α) f = .bad := rfl
/-- a value, or nothing said -/
def giv {α : Type} (o : Option α) (st : Store) : R α := match o with | some a => .ok a st | none => .bad
@[simp] theorem giv_some {α : Type} (a : α) (st : Store) : giv (some a) st = .ok a st := rfl
@[simp] theorem giv_none {α : Type} (st : Store) : giv (none : Option α) st = .bad := rfl
def gv (ρ : Env) (i : Nat) : Option PV := (ρ[i]?).getD none

/-! ### data -/
mutual
def toD : PV → Option PyData
  | .non => some .none | .bl b => some (.bool b) | .int i => some (.int i) | .str s => some (.str s)
  | .tup xs => (toDs xs).map .tuple | .lst xs => (toDs xs).map .list
  | .scr _ => none | .dct _ _ => none | .set _ => none | .ref _ => none | .exc _ _ => none | .mkd _ _ _ => none | .clo _ _ => none
def toDs : List PV → Option (List PyData)
  | [] => some []
  | x :: xs => match toD x, toDs xs with | some d, some ds => some (d :: ds) | _, _ => none
end
/- no number of the store, no lambda within -/
mutual
def nor : PV → Bool
  | .tup xs => nors xs | .lst xs => nors xs | .set xs => nors xs
  | .dct ks vs => nors ks && nors vs
  | .ref _ => false | .clo _ _ => false | .exc _ v => nor v | .mkd _ _ v => nor v
  | .non => true | .bl _ => true | .int _ => true | .str _ => true | .scr _ => true
def nors : List PV → Bool
  | [] => true
  | x :: xs => nor x && nors xs
end
/- no number of the store -/
mutual
def nrf : PV → Bool
  | .tup xs => nrfs xs | .lst xs => nrfs xs | .set xs => nors xs
  | .dct ks vs => nors ks && nors vs
  | .ref _ => false | .clo _ _ => true | .exc _ v => nor v | .mkd _ _ v => nor v
  | .non => true | .bl _ => true | .int _ => true | .str _ => true | .scr _ => true
def nrfs : List PV → Bool
  | [] => true
  | x :: xs => nrf x && nrfs xs
end
/- a value whose numbers from n on are told by content -/
mutual
def frz (st : Store) (n : Nat) : PV → PV
  | .ref m => if m < n then .ref m else match st[m]? with | some (.lst xs) => .lst xs | some (.dct ks vs) => .dct ks vs | none => .ref m
  | .tup xs => .tup (frzs st n xs) | .lst xs => .lst (frzs st n xs)
  | .non => .non | .bl b => .bl b | .int i => .int i | .str s => .str s | .scr ns => .scr ns
  | .dct ks vs => .dct ks vs | .set xs => .set xs | .exc c v => .exc c v | .mkd c n v => .mkd c n v | .clo l lv => .clo l lv
def frzs (st : Store) (n : Nat) : List PV → List PV
  | [] => []
  | x :: xs => frz st n x :: frzs st n xs
end
/- closed at level lv: no lambda of that level or above, no number from n on -/
mutual
def cls (n lv : Nat) : PV → Bool
  | .tup xs => clss n lv xs | .lst xs => clss n lv xs | .set xs => nors xs
  | .dct ks vs => nors ks && nors vs
  | .ref m => decide (m < n) | .clo _ l => decide (l < lv) | .exc _ v => nor v | .mkd _ _ v => nor v
  | .non => true | .bl _ => true | .int _ => true | .str _ => true | .scr _ => true
def clss (n lv : Nat) : List PV → Bool
  | [] => true
  | x :: xs => cls n lv x && clss n lv xs
end

/-- a list or dict of the store, told by content -/
def view (st : Store) (v : PV) : PV := match v with
  | .ref n => match st[n]? with | some (.lst xs) => .lst xs | some (.dct ks vs) => .dct ks vs | none => v
  | _ => v

/-! ### operators -/
def SZ : Nat := 16777216
/-- ints below 2 ^ 5000 -/
def sz (i : Int) : Bool := decide (i.natAbs < 2 ^ 5000)
inductive Bop where | add | sub | mul | fdiv | mod | pow
  deriving DecidableEq
inductive Cop where | eq | ne | lt | le | gt | ge | isN | notN | isin | notin
  deriving DecidableEq
def binV (o : Bop) (x y : PV) : Option PV := match o with
  | .add => match x, y with
    | .int i, .int j => some (.int (i + j))
    | .str a, .str b => if a.length + b.length ≤ SZ then some (.str (a ++ b)) else none
    | .tup a, .tup b => if a.length + b.length ≤ SZ then some (.tup (a ++ b)) else none
    | .lst a, .lst b => if a.length + b.length ≤ SZ then some (.lst (a ++ b)) else none
    | _, _ => none
  | .sub => match x, y with
    | .int i, .int j => some (.int (i - j))
    | _, _ => none
  | .mul => match x, y with
    | .int i, .int j => if sz i && sz j then some (.int (i * j)) else none
    | .tup a, .int k => if a.length * k.toNat ≤ SZ ∧ -(2 ^ 62) ≤ k ∧ k < 2 ^ 62 then some (.tup (List.replicate k.toNat a).flatten) else none
    | .lst a, .int k => if a.length * k.toNat ≤ SZ ∧ -(2 ^ 62) ≤ k ∧ k < 2 ^ 62 then some (.lst (List.replicate k.toNat a).flatten) else none
    | _, _ => none
  | .fdiv => match x, y with
    | .int i, .int j => if decide (0 < j) && sz j then some (.int (i / j)) else none
    | _, _ => none
  | .mod => match x, y with
    | .int i, .int j => if 0 < j then some (.int (i % j)) else none
    | _, _ => none
  | .pow => match x, y with
    | .int i, .int j => if 0 ≤ j ∧ ((i.natAbs.log2 : Int) + 1) * j ≤ 2 ^ 27 then some (.int (i ^ j.toNat)) else none
    | _, _ => none
/-- == of data -/
def layD (d : PyData) : Bool := d.plain && decide (d.depth ≤ 64)
def eqD (x y : PV) : Option Bool := match toD x, toD y with
  | some d, some e => if layD d && layD e then some (PyData.eqv d e) else none
  | _, _ => none
def itemsD : PV → Option (List PyData)
  | .tup xs => toDs xs | .lst xs => toDs xs | _ => none
def inD (x y : PV) : Option Bool := match toD x, itemsD y with
  | some d, some ds => if layD d && layD (.list ds) then some (ds.any fun z => PyData.eqv z d) else none
  | _, _ => none
def ltInts : List PV → List PV → Option Bool
  | [], [] => some false | [], .int _ :: ys => match ltInts [] ys with | some _ => some true | none => none
  | .int _ :: xs, [] => match ltInts xs [] with | some _ => some false | none => none
  | .int i :: xs, .int j :: ys => match ltInts xs ys with | some b => some (if i = j then b else decide (i < j)) | none => none
  | _, _ => none
def ltV (x y : PV) : Option Bool := match x, y with
  | .int i, .int j => some (decide (i < j))
  | .tup xs, .tup ys => ltInts xs ys
  | _, _ => none
def leI (x y : PV) : Option Bool := match x, y with
  | .int i, .int j => some (decide (i ≤ j))
  | _, _ => none
def isNon : PV → Bool | .non => true | _ => false
def cmpV (o : Cop) (x y : PV) : Option Bool := match o with
  | .eq => eqD x y
  | .ne => (eqD x y).map (!·)
  | .lt => ltV x y
  | .le => leI x y
  | .gt => match x, y with | .int i, .int j => some (decide (j < i)) | _, _ => none
  | .ge => leI y x
  | .isN => match y with | .non => some (isNon x) | _ => none
  | .notN => match y with | .non => some (!isNon x) | _ => none
  | .isin => inD x y
  | .notin => (inD x y).map (!·)
def truV : PV → Option Bool
  | .non => some false | .bl b => some b | .int i => some (i != 0)
  | .str s => if s.length ≤ SZ then some ((s.length : Int) != 0) else none
  | .tup xs => some (!xs.isEmpty) | .lst xs => some (!xs.isEmpty)
  | _ => none
/-- an item at a place, from behind too -/
def ixV (x i : PV) : Option PV := match x, i with
  | .tup xs, .int k => atI xs k
  | .lst xs, .int k => atI xs k
  | .scr ns, .int k => (atI ns k).map .int
  | .str s, .int k => if s.length ≤ SZ then (atI s.cps.toList k).map (fun c => .str ⟨#[c]⟩) else none
  | _, _ => none
def cut {α : Type} (xs : List α) (lo hi : Option Int) : List α := (xs.drop (HT.sIx xs.length 0 lo)).take (HT.sIx xs.length xs.length hi - HT.sIx xs.length 0 lo)
def slV (x : PV) (l h : Option Int) : Option PV := match x with
  | .tup xs => some (.tup (cut xs l h))
  | .lst xs => some (.lst (cut xs l h))
  | .scr ns => some (.lst ((cut ns l h).map .int))
  | .str s => if s.length ≤ SZ then some (.str ⟨(cut s.cps.toList l h).toArray⟩) else none
  | _ => none
def revV : PV → Option PV
  | .tup xs => some (.tup xs.reverse) | .lst xs => some (.lst xs.reverse) | _ => none

/-! ### built-in functions and methods, by values (told by content) -/
inductive Bi where
  | len | abs | max2 | min2 | maxL | minL | sum | all | any | int1 | str1 | repr | tuple | tr1 | tr2
  deriving DecidableEq
inductive Bn where
  | list | sorted | lr1 | lr2 | sset
  deriving DecidableEq
inductive Cl where
  | ty (n : String) | ec (c : Nat) | ve
  deriving DecidableEq
def allI : List PV → Option (List Int)
  | [] => some []
  | .int i :: r => (allI r).map (i :: ·)
  | _ => none
def allB : List PV → Option (List Bool)
  | [] => some []
  | .bl i :: r => (allB r).map (i :: ·)
  | _ => none
def seqV : PV → Option (List PV)
  | .tup xs => some xs | .lst xs => some xs | .scr ns => some (ns.map .int) | _ => none
/-- sorting by a test -/
def ins {α : Type} (lt : α → α → Bool) (x : α) : List α → List α
  | [] => [x]
  | y :: r => if lt x y then x :: y :: r else y :: ins lt x r
def isort {α : Type} (lt : α → α → Bool) : List α → List α
  | [] => []
  | x :: r => ins lt x (isort lt r)
def intsOf : PV → Option (List Int)
  | .tup xs => allI xs | _ => none
def allT : List PV → Option (List (List Int))
  | [] => some []
  | x :: r => match intsOf x, allT r with | some a, some b => some (a :: b) | _, _ => none
def sortV (xs : List PV) : Option (List PV) := match allI xs with
  | some ns => some ((isort (fun a b => decide (a < b)) ns).map .int)
  | none => match allT xs with
    | some ts => if ts.all (fun t => t.length == 2) then some ((isort HT.lexLt ts).map fun t => .tup (t.map .int)) else none
    | none => none
def foldMax : List Int → Option Int
  | [] => none
  | x :: r => some (r.foldl (fun a b => if b > a then b else a) x)
def foldMin : List Int → Option Int
  | [] => none
  | x :: r => some (r.foldl (fun a b => if b < a then b else a) x)
def rangeL (lo : Int) (n : Nat) : List PV := (List.range n).map fun (i : Nat) => .int (lo + (i : Int))
def inR (i : Int) : Bool := decide (-(2 ^ 62) ≤ i) && decide (i < 2 ^ 62)
def bLen : List PV → Option PV
  | [.str s] => if s.length ≤ SZ then some (.int s.length) else none
  | [.tup xs] => some (.int xs.length)
  | [.lst xs] => some (.int xs.length)
  | [.scr ns] => some (.int ns.length)
  | _ => none
def bAbs : List PV → Option PV
  | [.int i] => some (.int (if i < 0 then -i else i))
  | _ => none
def bMax2 : List PV → Option PV
  | [.int i, .int j] => some (.int (if j > i then j else i))
  | _ => none
def bMin2 : List PV → Option PV
  | [.int i, .int j] => some (.int (if j < i then j else i))
  | _ => none
def seqI (x : PV) : Option (List Int) := (seqV x).bind allI
/-- pairs of ints -/
def prV (p : Int × Int) : PV := .tup [.int p.1, .int p.2]
def pairL : List PV → Option (List (Int × Int))
  | [] => some []
  | .tup [.int a, .int b] :: r => (pairL r).map ((a, b) :: ·)
  | _ => none
def ltP (p q : Int × Int) : Bool := if p.1 = q.1 then decide (p.2 < q.2) else decide (p.1 < q.1)
def minP : List (Int × Int) → Option (Int × Int)
  | [] => none
  | p :: ps => some (ps.foldl (fun a y => if ltP y a = true then y else a) p)
def maxP : List (Int × Int) → Option (Int × Int)
  | [] => none
  | p :: ps => some (ps.foldl (fun a y => if ltP a y = true then y else a) p)
def seqP (x : PV) : Option (List (Int × Int)) := (seqV x).bind pairL
def bMaxL : List PV → Option PV
  | [x] => match (seqI x).bind foldMax with
    | some m => some (.int m)
    | none => ((seqP x).bind maxP).map prV
  | _ => none
def bMinL : List PV → Option PV
  | [x] => match (seqI x).bind foldMin with
    | some m => some (.int m)
    | none => ((seqP x).bind minP).map prV
  | _ => none
def bSum : List PV → Option PV
  | [x] => (seqI x).map fun ns => .int ns.sum
  | _ => none
def bAll : List PV → Option PV
  | [.lst xs] => (allB xs).map fun bs => .bl (bs.all id)
  | _ => none
def bAny : List PV → Option PV
  | [.lst xs] => (allB xs).map fun bs => .bl (bs.any id)
  | _ => none
def bInt : List PV → Option PV
  | [.int i] => some (.int i)
  | [.bl b] => some (.int (if b then 1 else 0))
  | _ => none
def bStr : List PV → Option PV
  | [.int i] => if i.natAbs.log2 < 1920 then some (.str (toString i)) else none
  | [.str s] => some (.str s)
  | _ => none
def okShow (d : PyData) : Bool := d.showable && !d.hasDict && decide (d.depth ≤ 64) && decide (d.shown.length ≤ SZ)
/-- a dict of one text at most -/
def toDd : PV → Option PyData
  | .dct [] [] => some (.dict [])
  | .dct [.str k] [.int i] => some (.dict [(.str k, .int i)])
  | _ => none
def okShowD (d : PyData) : Bool := d.showable && decide (d.depth ≤ 64) && decide (d.shown.length ≤ SZ)
/-- the name that repr of an error tells -/
def nmS (x : Str) : Str := Str.ofString ((x.toString.cutAt '.').getLastD "")
def txtV (x : PV) : Option Str := match toDd x with
  | some d => if okShowD d then some d.shown else none
  | none => (toD x).bind fun d => if okShow d then some d.shown else none
def mkdS : PV → Option PV
  | .mkd _ n v => (txtV v).bind fun z => if (nmS n ++ "(" ++ z ++ ")").length ≤ SZ then some (.str (nmS n ++ "(" ++ z ++ ")")) else none
  | _ => none
def bRepr : List PV → Option PV
  | [x] => match toDd x with
    | some d => if okShowD d then some (.str d.shown) else none
    | none => match toD x with
      | some d => if okShow d then some (.str d.shown) else none
      | none => mkdS x
  | _ => none
def bTuple : List PV → Option PV
  | [.tup xs] => some (.tup xs)
  | [.lst xs] => some (.tup xs)
  | _ => none
def bList : List PV → Option (List PV)
  | [x] => seqV x
  | _ => none
def bSorted : List PV → Option (List PV)
  | [.lst xs] => match allI xs with
    | some ns => some ((isort (fun a b => decide (a < b)) ns).map .int)
    | none => (pairL xs).map fun ps => (isort ltP ps).map prV
  | _ => none
def bTr1 : List PV → Option PV
  | [.int j] => if inR j && decide (j.toNat ≤ SZ) then some (.tup (rangeL 0 j.toNat)) else none
  | _ => none
def bTr2 : List PV → Option PV
  | [.int i, .int j] => if inR i && inR j && decide ((j - i).toNat ≤ SZ) then some (.tup (rangeL i (j - i).toNat)) else none
  | _ => none
def bLr1 : List PV → Option (List PV)
  | [.int j] => if inR j && decide (j.toNat ≤ SZ) then some (rangeL 0 j.toNat) else none
  | _ => none
def bLr2 : List PV → Option (List PV)
  | [.int i, .int j] => if inR i && inR j && decide ((j - i).toNat ≤ SZ) then some (rangeL i (j - i).toNat) else none
  | _ => none
/-- sorted(set(xs)), ints -/
def dedup : List Int → List Int
  | [] => []
  | x :: r => if x ∈ r then dedup r else x :: dedup r
def bSset : List PV → Option (List PV)
  | [.lst xs] => (allI xs).bind fun ns => if ns.length < 4000 ∧ (dedup ns).length < 64 then some ((isort (fun a b => decide (a < b)) (dedup ns)).map .int) else none
  | _ => none
def biV : Bi → List PV → Option PV
  | .len => bLen | .abs => bAbs | .max2 => bMax2 | .min2 => bMin2 | .maxL => bMaxL | .minL => bMinL | .sum => bSum | .all => bAll | .any => bAny
  | .int1 => bInt | .str1 => bStr | .repr => bRepr | .tuple => bTuple | .tr1 => bTr1 | .tr2 => bTr2
def biN : Bn → List PV → Option (List PV)
  | .list => bList | .sorted => bSorted | .lr1 => bLr1 | .lr2 => bLr2 | .sset => bSset
def subE (c d : Nat) : Bool := c == d || d == 0
def isiV (x : PV) (c : Cl) : Option Bool := match x, c with
  | .non, .ty _ => some false
  | .bl _, .ty n => some (n == "bool" || n == "int")
  | .int _, .ty n => some (n == "int")
  | .str _, .ty n => some (n == "str")
  | .tup _, .ty n => some (n == "tuple")
  | .lst _, .ty n => some (n == "list")
  | .dct _ _, .ty n => some (n == "dict")
  | .exc c _, .ec d => some (subE c d)
  | .exc _ _, .ve => some true
  | .mkd c _ _, .ec d => some (subE c d)
  | .mkd _ _ _, .ve => some true
  | .non, .ec _ => some false
  | .non, .ve => some false
  | _, _ => none
inductive Mt where
  | append | extend | pop | popAt | index | count | upper
  deriving DecidableEq
def idxD (x y : PV) : Option Nat := match toD y, itemsD x with
  | some d, some ds => if layD d && layD (.list ds) then ds.findIdx? (fun z => PyData.eqv z d) else none
  | _, _ => none
def cntD (x y : PV) : Option Nat := match toD y, itemsD x with
  | some d, some ds => if layD d && layD (.list ds) then some (ds.countP fun z => PyData.eqv z d) else none
  | _, _ => none
/-! a method of the object v with arguments vs: the value, the store -/
def getL (st : Store) : PV → Option (Nat × List PV)
  | .ref n => match st[n]? with | some (.lst xs) => some (n, xs) | _ => none
  | _ => none
def mApp (nb : Nat) (st : Store) (v : PV) : List PV → Option (PV × Store)
  | [y] => (getL st v).bind fun p => if (nor y || (decide (nb ≤ p.1) && nrf y)) && decide (p.2.length < SZ) then some (.non, st.set p.1 (.lst (p.2 ++ [y]))) else none
  | _ => none
def mExt (st : Store) (v : PV) : List PV → Option (PV × Store)
  | [y] => (getL st v).bind fun p => match view st y with
    | .lst ys => if nors ys && decide (p.2.length + ys.length ≤ SZ) then some (.non, st.set p.1 (.lst (p.2 ++ ys))) else none
    | .tup ys => if nors ys && decide (p.2.length + ys.length ≤ SZ) then some (.non, st.set p.1 (.lst (p.2 ++ ys))) else none
    | _ => none
  | _ => none
def mPop (st : Store) (v : PV) : List PV → Option (PV × Store)
  | [] => (getL st v).bind fun p => (p.2[p.2.length - 1]?).map fun y => (y, st.set p.1 (.lst p.2.dropLast))
  | _ => none
def mPopAt (st : Store) (v : PV) : List PV → Option (PV × Store)
  | [.int i] => (getL st v).bind fun p => if inR i then (seqIndex? i p.2.length).bind fun k => (p.2[k]?).map fun y => (y, st.set p.1 (.lst (p.2.eraseIdx k))) else none
  | _ => none
def mUp (st : Store) (v : PV) : List PV → Option (PV × Store)
  | [] => match v with | .str s => if s.length ≤ 100000 then some (.str (PySem.Txt.upper s), st) else none | _ => none
  | _ => none
def mtV (nb : Nat) (m : Mt) (st : Store) (v : PV) (vs : List PV) : Option (PV × Store) := match m with
  | .append => mApp nb st v vs | .extend => mExt st v vs | .pop => mPop st v vs | .popAt => mPopAt st v vs | .upper => mUp st v vs
  | .index => none | .count => none
def okO (m : Mt) (st : Store) (x : PV) : Option Unit := match m with
  | .upper => (match x with | .str _ => some () | _ => none)
  | _ => match view st x with | .lst _ => some () | _ => none
def mtR (nb : Nat) (m : Mt) (st : Store) (v : PV) (vs : List PV) : R PV := match mtV nb m st v vs with
  | some (v, st') => .ok v st'
  | none => .bad
/-- o[i] = v -/
def setV (st : Store) (o i v : PV) : Option Store := match i with
  | .int k => (getL st o).bind fun p => if nor v then (ixN p.2.length k).map fun j => st.set p.1 (.lst (p.2.set j v)) else none
  | _ => none

/-! ### the form -/
inductive Tg where
  | n (i : Nat) | t (l : List Tg)
mutual
inductive E where
  | v (i : Nat) | k (c : PV)
  | bin (o : Bop) (a b : E) | neg (a : E)
  | cmp (o : Cop) (a b : E) | chain (o p : Cop) (a b c : E)
  | and (a b : E) | or (a b : E) | not (a : E) | ite (c a b : E)
  | tup (es : Es) | lst (es : Es) | mut (a : E)
  | ix (a b : E) | sl (a : E) (lo hi : Option E) | rev (a : E)
  | call (f : Nat) (es : Es) (p : List Nat) | callv (i : Nat) (es : Es)
  | bi (b : Bi) (es : Es) | bn (b : Bn) (es : Es) | mt (m : Mt) (a : E) (es : Es)
  | cm (t : Tg) (it : It) (c : Option E) (e : E)
  | at (a : E) | isi (a : E) (c : Cl) | lam (l : LamI) | mk (c : Nat) (n : Str) (a : E) | dc (ks : List Str) (vs : List PV)
inductive Es where
  | nil | cons (e : E) (es : Es)
inductive It where
  | seq (a : E) | rng1 (a : E) | rng2 (a b : E) | rng3 (a b s : E) | zip (a b : E) | enum (a : E)
end
def Es.len : Es → Nat | .nil => 0 | .cons _ r => r.len + 1
mutual
inductive S where
  | asg (t : Tg) (e : E) | aug (i : Nat) (o : Bop) (e : E)
  | seti (o i e : E) | ex (e : E) | ret (e : E) | retn
  | ite (c : E) (a b : Ss) | wh (c : E) (b : Ss) | fo (t : Tg) (it : It) (b : Ss)
  | brk | cnt | pass | rais (c : Nat) (e : E) | tryc (i : Nat) (e : E) (c err dst : Nat)
inductive Ss where
  | nil | cons (s : S) (r : Ss)
end
structure Fn where
  np : Nat
  nl : Nat
  body : Ss
  ret : Bool
structure Lm where
  np : Nat
  caps : List Nat
  body : E

/-! ### the evaluator -/
structure Cfg where
  cf : Nat → List PV → List Env → Store → R PV
  cl : LamI → List PV → Env → List Env → Store → R PV
  W : Nat
  Φ : Env → List Env
  lv : Nat
  nb : Nat
inductive ItV where
  | fix (xs : List PV) | dyn (n : Nat)
mutual
def asgT : Tg → PV → Env → Option Env
  | .n i, v, ρ => some (ρ.set i (some v))
  | .t l, v, ρ => match v with
    | .tup xs => asgTs l xs ρ
    | _ => none
def asgTs : List Tg → List PV → Env → Option Env
  | [], [], ρ => some ρ
  | t :: l, x :: xs, ρ => match asgT t x ρ with | some ρ => asgTs l xs ρ | none => none
  | _, _, _ => none
end
inductive Fl where
  | nx (ρ : Env) | rt (v : PV) | bk (ρ : Env) | ct (ρ : Env)
/-- what is raised within a comprehension is not told of -/
def nox {α : Type} (r : R α) : R α := match r with | .ok a st => .ok a st | _ => .bad
@[simp] theorem nox_ok {α : Type} (a : α) (st : Store) : nox (.ok a st) = .ok a st := rfl
def loopC (f : PV → Store → R (Option PV)) : List PV → Store → R (List PV)
  | [], st => .ok [] st
  | x :: xs, st => bnd (f x st) fun o st => bnd (loopC f xs st) fun ys st => .ok (match o with | some y => y :: ys | none => ys) st
def loopD (f : PV → Store → R (Option PV)) (n : Nat) : Nat → Nat → Store → R (List PV)
  | 0, _, _ => .bad
  | W + 1, i, st => match st[n]? with
    | some (.lst xs) => match xs[i]? with
      | none => .ok [] st
      | some x => bnd (f x st) fun o st => bnd (loopD f n W (i + 1) st) fun ys st => .ok (match o with | some y => y :: ys | none => ys) st
    | _ => .bad
def forL (f : PV → Env → Store → R Fl) : List PV → Env → Store → R Fl
  | [], ρ, st => .ok (.nx ρ) st
  | x :: xs, ρ, st => bnd (f x ρ st) fun fl st => match fl with
    | .nx ρ => forL f xs ρ st | .ct ρ => forL f xs ρ st | .bk ρ => .ok (.nx ρ) st | .rt v => .ok (.rt v) st
def forD (f : PV → Env → Store → R Fl) (n : Nat) : Nat → Nat → Env → Store → R Fl
  | 0, _, _, _ => .bad
  | W + 1, i, ρ, st => match st[n]? with
    | some (.lst xs) => match xs[i]? with
      | none => .ok (.nx ρ) st
      | some x => bnd (f x ρ st) fun fl st => match fl with
        | .nx ρ => forD f n W (i + 1) ρ st | .ct ρ => forD f n W (i + 1) ρ st | .bk ρ => .ok (.nx ρ) st | .rt v => .ok (.rt v) st
    | _ => .bad
def whl (t : Env → Store → R Bool) (b : Env → Store → R Fl) : Nat → Env → Store → R Fl
  | 0, _, _ => .bad
  | W + 1, ρ, st => bnd (t ρ st) fun c st => if c then bnd (b ρ st) fun fl st => (match fl with
    | .nx ρ => whl t b W ρ st | .ct ρ => whl t b W ρ st | .bk ρ => .ok (.nx ρ) st | .rt v => .ok (.rt v) st) else .ok (.nx ρ) st
structure Sm where
  v : Env → Store → R PV
  t : Env → Store → R Bool
def plain (f : Env → Store → R PV) : Sm := ⟨f, fun ρ st => bnd (f ρ st) fun x st => giv (truV (view st x)) st⟩
def toSeq (st : Store) : PV → Option ItV
  | .ref n => match st[n]? with | some (.lst _) => some (.dyn n) | _ => none
  | .tup xs => some (.fix xs) | .lst xs => some (.fix xs)
  | _ => none
def rng3 (i j s : Int) : Option (List PV) :=
  if s ≠ 0 ∧ s.natAbs < 1073741824 ∧ Builtin.Range.small i j s = true ∧ (Builtin.Range.rangeSize i j s).toNat ≤ SZ then some ((List.range (Builtin.Range.rangeSize i j s).toNat).map fun (k : Nat) => .int (i + (k : Int) * s)) else none
def enumL (xs : List PV) : List PV := List.zipWith (fun (i : Nat) x => .tup [.int i, x]) (List.range xs.length) xs
def zipL (xs ys : List PV) : List PV := List.zipWith (fun x y => .tup [x, y]) xs ys
def permA (p : List Nat) (xs : List PV) : List PV := if p.isEmpty then xs else p.map fun i => xs.getD i .non
def partR (r : R PV) : R (Option Int) := bnd r fun x st => match x with | .int i => .ok (some i) st | _ => .bad
mutual
def ev (c : Cfg) : E → Sm
  | .v i => plain fun ρ st => giv (gv ρ i) st
  | .k x => plain fun _ st => .ok x st
  | .bin o a b => plain fun ρ st => bnd ((ev c a).v ρ st) fun x st => bnd ((ev c b).v ρ st) fun y st => giv (binV o (view st x) (view st y)) st
  | .neg a => plain fun ρ st => bnd ((ev c a).v ρ st) fun x st => match x with | .int i => .ok (.int (-i)) st | _ => .bad
  | .cmp o a b => plain fun ρ st => bnd ((ev c a).v ρ st) fun x st => bnd ((ev c b).v ρ st) fun y st => bnd (giv (cmpV o (view st x) (view st y)) st) fun b st => .ok (.bl b) st
  | .chain o p a b d => plain fun ρ st => bnd ((ev c a).v ρ st) fun x st => bnd ((ev c b).v ρ st) fun y st => bnd (giv (cmpV o (view st x) (view st y)) st) fun k st =>
      if k then bnd ((ev c d).v ρ st) fun z st => bnd (giv (cmpV p (view st y) (view st z)) st) fun b st => .ok (.bl b) st else .ok (.bl false) st
  | .and a b => ⟨fun ρ st => bnd ((ev c a).v ρ st) fun x st => match x with | .bl true => (ev c b).v ρ st | .bl false => .ok (.bl false) st | _ => .bad,
      fun ρ st => bnd ((ev c a).t ρ st) fun p st => if p then (ev c b).t ρ st else .ok false st⟩
  | .or a b => ⟨fun ρ st => bnd ((ev c a).v ρ st) fun x st => match x with | .bl false => (ev c b).v ρ st | .bl true => .ok (.bl true) st | _ => .bad,
      fun ρ st => bnd ((ev c a).t ρ st) fun p st => if p then .ok true st else (ev c b).t ρ st⟩
  | .not a => ⟨fun ρ st => bnd ((ev c a).v ρ st) fun x st => match x with | .bl b => .ok (.bl (!b)) st | _ => .bad,
      fun ρ st => bnd ((ev c a).t ρ st) fun p st => .ok (!p) st⟩
  | .ite t a b => ⟨fun ρ st => bnd ((ev c t).t ρ st) fun p st => if p then (ev c a).v ρ st else (ev c b).v ρ st,
      fun ρ st => bnd ((ev c t).t ρ st) fun p st => if p then (ev c a).t ρ st else (ev c b).t ρ st⟩
  | .tup es => plain fun ρ st => bnd (evs c es ρ st) fun xs st => .ok (.tup xs) st
  | .lst es => plain fun ρ st => bnd (evs c es ρ st) fun xs st => .ok (.lst xs) st
  | .mut a => plain fun ρ st => bnd ((ev c a).v ρ st) fun x st => match x with
    | .lst xs => if nrfs xs then .ok (.ref st.length) (st ++ [.lst xs]) else .bad
    | _ => .bad
  | .ix a b => plain fun ρ st => bnd ((ev c a).v ρ st) fun x st => bnd ((ev c b).v ρ st) fun y st => giv (ixV (view st x) y) st
  | .sl a lo hi => plain fun ρ st => bnd ((ev c a).v ρ st) fun x st => bnd (match lo with | none => .ok none st | some e => partR ((ev c e).v ρ st)) fun l st =>
      bnd (match hi with | none => .ok none st | some e => partR ((ev c e).v ρ st)) fun h st => giv (slV (view st x) l h) st
  | .rev a => plain fun ρ st => bnd ((ev c a).v ρ st) fun x st => giv (revV (view st x)) st
  | .call f es p => plain fun ρ st => bnd (evs c es ρ st) fun xs st => c.cf f (permA p xs) (c.Φ ρ) st
  | .callv i es => plain fun ρ st => match gv ρ i with
    | some (.clo l lv) => bnd (evs c es ρ st) fun xs st => match (c.Φ ρ)[lv]? with
      | some ρc => c.cl l xs ρc (c.Φ ρ) st
      | none => .bad
    | _ => .bad
  | .bi b es => plain fun ρ st => bnd (evs c es ρ st) fun xs st => giv (biV b (xs.map (view st))) st
  | .bn b es => plain fun ρ st => bnd (evs c es ρ st) fun xs st => bnd (giv (biN b (xs.map (view st))) st) fun ps st => .ok (.lst ps) st
  | .mt m a es => plain fun ρ st => bnd ((ev c a).v ρ st) fun x st => bnd (giv (okO m st x) st) fun _ st => bnd (evs c es ρ st) fun xs st => mtR c.nb m st x xs
  | .cm t it cnd e => plain fun ρ st => bnd (evI c it ρ st) fun I st =>
      let f : PV → Store → R (Option PV) := fun x st => match asgT t x ρ with
        | none => .bad
        | some ρ' => bnd (match cnd with | none => .ok true st | some d => nox ((ev { c with Φ := fun _ => c.Φ ρ } d).t ρ' st)) fun b st =>
            if b then bnd (nox ((ev { c with Φ := fun _ => c.Φ ρ } e).v ρ' st)) fun y st => .ok (some y) st else .ok none st
      bnd (match I with | .fix xs => loopC f xs st | .dyn n => loopD f n c.W 0 st) fun ys st => .ok (.lst ys) st
  | .at a => plain fun ρ st => bnd ((ev c a).v ρ st) fun x st => match x with | .exc _ v => .ok v st | .mkd _ _ v => .ok v st | _ => .bad
  | .isi a d => plain fun ρ st => bnd ((ev c a).v ρ st) fun x st => bnd (giv (isiV (view st x) d) st) fun b st => .ok (.bl b) st
  | .lam l => plain fun _ st => .ok (.clo l c.lv) st
  | .dc ks vs => plain fun _ st => .ok (.dct (ks.map .str) vs) st
  | .mk d n a => plain fun ρ st => bnd ((ev c a).v ρ st) fun x st => if nor x then .ok (.mkd d n x) st else .bad
def evs (c : Cfg) : Es → Env → Store → R (List PV)
  | .nil, _, st => .ok [] st
  | .cons e es, ρ, st => bnd ((ev c e).v ρ st) fun x st => bnd (evs c es ρ st) fun xs st => .ok (x :: xs) st
def evI (c : Cfg) : It → Env → Store → R ItV
  | .seq a, ρ, st => bnd ((ev c a).v ρ st) fun x st => giv (toSeq st x) st
  | .rng1 a, ρ, st => bnd ((ev c a).v ρ st) fun x st => match x with
    | .int j => if inR j && decide (j.toNat ≤ SZ) then .ok (.fix (rangeL 0 j.toNat)) st else .bad
    | _ => .bad
  | .rng2 a b, ρ, st => bnd ((ev c a).v ρ st) fun x st => bnd ((ev c b).v ρ st) fun y st => match x, y with
    | .int i, .int j => if inR i && inR j && decide ((j - i).toNat ≤ SZ) then .ok (.fix (rangeL i (j - i).toNat)) st else .bad
    | _, _ => .bad
  | .rng3 a b e, ρ, st => bnd ((ev c a).v ρ st) fun x st => bnd ((ev c b).v ρ st) fun y st => bnd ((ev c e).v ρ st) fun z st => match x, y, z with
    | .int i, .int j, .int k => bnd (giv (rng3 i j k) st) fun xs st => .ok (.fix xs) st
    | _, _, _ => .bad
  | .zip a b, ρ, st => bnd ((ev c a).v ρ st) fun x st => bnd ((ev c b).v ρ st) fun y st => match x, y with
    | .lst xs, .lst ys => .ok (.fix (zipL xs ys)) st
    | .tup xs, .tup ys => .ok (.fix (zipL xs ys)) st
    | _, _ => .bad
  | .enum a, ρ, st => bnd ((ev c a).v ρ st) fun x st => match x with
    | .lst xs => .ok (.fix (enumL xs)) st
    | .tup xs => .ok (.fix (enumL xs)) st
    | _ => .bad
end
mutual
def exS (c : Cfg) : S → Env → Store → R Fl
  | .asg t e, ρ, st => bnd ((ev c e).v ρ st) fun x st => match asgT t x ρ with | some ρ => .ok (.nx ρ) st | none => .bad
  | .aug i o e, ρ, st => match gv ρ i with
    | some (.int x) => bnd ((ev c e).v ρ st) fun y st => match y, o with
      | .int j, .add => .ok (.nx (ρ.set i (some (.int (x + j))))) st
      | .int j, .sub => .ok (.nx (ρ.set i (some (.int (x - j))))) st
      | _, _ => .bad
    | _ => .bad
  | .seti o i e, ρ, st => bnd ((ev c e).v ρ st) fun x st => bnd ((ev c o).v ρ st) fun ov st => bnd ((ev c i).v ρ st) fun iv st => match setV st ov iv x with
    | some st => .ok (.nx ρ) st
    | none => .bad
  | .ex e, ρ, st => bnd ((ev c e).v ρ st) fun _ st => .ok (.nx ρ) st
  | .ret e, ρ, st => bnd ((ev c e).v ρ st) fun x st => .ok (.rt x) st
  | .retn, _, st => .ok (.rt .non) st
  | .ite t a b, ρ, st => bnd ((ev c t).t ρ st) fun p st => if p then exSs c a ρ st else exSs c b ρ st
  | .wh t b, ρ, st => whl (fun ρ st => (ev c t).t ρ st) (fun ρ st => exSs c b ρ st) c.W ρ st
  | .fo t it b, ρ, st => bnd (evI c it ρ st) fun I st =>
      let f : PV → Env → Store → R Fl := fun x ρ st => match asgT t x ρ with | some ρ => exSs c b ρ st | none => .bad
      match I with | .fix xs => forL f xs ρ st | .dyn n => forD f n c.W 0 ρ st
  | .brk, ρ, st => .ok (.bk ρ) st
  | .cnt, ρ, st => .ok (.ct ρ) st
  | .pass, ρ, st => .ok (.nx ρ) st
  | .rais d e, ρ, st => bnd ((ev c e).v ρ st) fun x st => if nor x then .exc d x st else .bad
  | .tryc i e d err dst, ρ, st => match (ev c e).v ρ st with
    | .ok v st => .ok (.nx (ρ.set i (some v))) st
    | .exc d' v st => if subE d' d then .ok (.nx ((ρ.set dst (some (.exc d' v))).set err none)) st else .exc d' v st
    | .bad => .bad
def exSs (c : Cfg) : Ss → Env → Store → R Fl
  | .nil, ρ, st => .ok (.nx ρ) st
  | .cons s r, ρ, st => bnd (exS c s ρ st) fun fl st => match fl with
    | .nx ρ => exSs c r ρ st
    | fl => .ok fl st
end
def obC (n lv : Nat) : Ob → Bool
  | .lst ps => clss n lv ps
  | .dct _ _ => true
/-- what a frame hands back: the store is as long as before, what it made is told by content -/
def fin (ret : Bool) (lv n : Nat) (r : R PV) : R PV := match r with
  | .ok v st => match ret, v with
    | true, .ref m => if m < n then .ok (.ref m) (st.take n) else match st[m]? with | some ob => (if obC n lv ob then .ok (.ref n) (st.take n ++ [ob]) else .bad) | none => .bad
    | _, v => let v' := frz st n v
      if cls n lv v' then .ok v' (st.take n) else .bad
  | .exc c v st => if nor v then .exc c v (st.take n) else .bad
  | .bad => .bad
def flV (r : R Fl) : R PV := match r with
  | .ok (.rt v) st => .ok v st
  | .ok (.nx _) st => .ok .non st
  | .ok _ _ => .bad
  | .exc c v st => .exc c v st
  | .bad => .bad
end PM
set_option Elab.async false
set_option linter.all false
set_option maxRecDepth 100000
set_option maxHeartbeats 4000000
/-! PM2: how values lie in the heap; steps of the heap. -/
namespace PM
open PySem PySem.Spec PyProof.Rows L2 LamX

/-- a lambda's names: captured ones, its own, globals -/
def lamB (sc scope : Scope) : Bool :=
  (match scope.kind with | .function => true | _ => false) && !scope.isCoroutine && !scope.isGenerator && scope.names.all fun y => (match y.2 with
    | .free => (match sc.names.lookup y.1 with | some .cell => true | some .free => true | _ => false)
    | _ => true)
structure Ct where
  K : PySem.W.Frag
  cA : Nat → Addr
  γ : List (List Str × Scope × List (Str × Addr))
  dead : List Addr
  lows : List (Nat × Nat)
/-- not of the store, not a list that is just made -/
def Out (C : Ct) (ι : List Addr) (a : Addr) : Prop := a ∉ ι ∧ a ∉ C.dead
def keyPV : Key → PV
  | .inl i => .int i
  | .inr s => .str s
def Im (C : Ct) (ι : List Addr) (H : Hp) (a : Addr) (u : HO) : Prop := Rd H a u ∧ Out C ι a
def KT (K : PySem.W.Frag) (a : Addr) (xs : List V) : Prop :=
  ∃ (o : Obj) (its : Array Value) (n : Nat), K.lookup a = some o ∧ o.cls = .type "tuple" ∧ o.data = .seq its n ∧ its.size ≤ sizeLine ∧ Vals xs its.toList
def KL (K : PySem.W.Frag) (a : Addr) (xs : List V) : Prop :=
  ∃ (o : Obj) (its : Array Value) (n : Nat), K.lookup a = some o ∧ o.cls = .type "list" ∧ o.dict = none ∧ o.data = .seq its n ∧ its.size ≤ sizeLine ∧ Vals xs its.toList
/-- an error's object at a, its own dict at d -/
def ExD (cls : Value) (d a : Addr) : HO := .ext fun h => ∃ (oe : Obj) (vs : Array Value), h.get? a = some oe ∧ Zc cls (some d) oe ∧ oe.data = .fields vs
/-- an error's object at a that was made here: its own dict at d, its args at t -/
def ExT (cls : Value) (d a t : Addr) : HO := .ext fun h => ∃ (oe : Obj) (vs : Array Value), h.get? a = some oe ∧ Zc cls (some d) oe ∧ oe.data = .fields vs ∧ vs[0]? = some (.ref t)
/-- what repr leans on, of an error's class -/
structure MkC (K : PySem.W.Frag) (C : Addr) (n : Str) : Prop where
  cl : ∃ cd, PySem.W.clsIn K C = some cd ∧ cd.name = n
  rp : PySem.W.findIn K (.ref C) "__repr__" = some (some (.builtin "BaseException.__repr__"))
  sub : PySem.W.subIn K (.ref C) (.type "BaseException") = some true
/-- a lambda's object at f -/
def CloO (f : Addr) (l : LamI) (cells : List (Str × Addr)) (c' : Addr) : HO := .ext fun h => ∃ pm ctv : Value,
  h.get? f = some (PySem.W.kla_obj "<lambda>" l.qual l.params l.body l.scope (cloFrom cells l.scope.names []) pm c' ctv)
mutual
inductive Rep (C : Ct) (ι : List Addr) (H : Hp) : V → PV → Prop
  | non : Rep C ι H .non .non
  | bl (b : Bool) : Rep C ι H (.bl b) (.bl b)
  | int (i : Int) : Rep C ι H (.int i) (.int i)
  | str (s : Str) : Rep C ι H (.str s) (.str s)
  | tup {a : Addr} {xs : List V} {ps : List PV} : (Im C ι H a (.tup xs) ∨ KT C.K a xs) → Reps C ι H xs ps → Rep C ι H (.ref a) (.tup ps)
  | lst {a : Addr} {xs : List V} {ps : List PV} : H a = some (.lst xs) → Out C ι a → Reps C ι H xs ps → Rep C ι H (.ref a) (.lst ps)
  | scr {a : Addr} {ns : List Int} : (Im C ι H a (.lst (ns.map V.int)) ∨ KL C.K a (ns.map V.int)) → Rep C ι H (.ref a) (.scr ns)
  | dct {a : Addr} {kvs : List (Key × V)} {vs : List PV} : H a = some (.dK kvs) → Out C ι a → Reps C ι H (kvs.map (·.2)) vs → Rep C ι H (.ref a) (.dct (kvs.map fun p => keyPV p.1) vs)
  | ref {a : Addr} {n : Nat} : ι[n]? = some a → Rep C ι H (.ref a) (.ref n)
  | exc {a d : Addr} {c : Nat} {x : V} {v : PV} : H a = some (ExD (.ref (C.cA c)) d a) → Out C ι a → H d = some (.xd [(("value" : Str), x)]) → Out C ι d → Rep C ι H x v → Rep C ι H (.ref a) (.exc c v)
  | mkd {a d t : Addr} {c : Nat} {n : Str} {x : V} {v : PV} : MkC C.K (C.cA c) n → H a = some (ExT (.ref (C.cA c)) d a t) → Out C ι a → H d = some (.xd [(("value" : Str), x)]) → Out C ι d → H t = some (.tup [x]) → Out C ι t → Rep C ι H x v → Rep C ι H (.ref a) (.mkd c n v)
  | clo {f c' : Addr} {l : LamI} {lv : Nat} {sc : Scope} {cells : List (Str × Addr)} : C.γ[lv]? = some (l.N, sc, cells) → lamB sc l.scope = true → H f = some (CloO f l cells c') → Out C ι f →
      H c' = some (CodeO c' l.qual) → Out C ι c' → Rep C ι H (.ref f) (.clo l lv)
inductive Reps (C : Ct) (ι : List Addr) (H : Hp) : List V → List PV → Prop
  | nil : Reps C ι H [] []
  | cons {x : V} {xs : List V} {p : PV} {ps : List PV} : Rep C ι H x p → Reps C ι H xs ps → Reps C ι H (x :: xs) (p :: ps)
end
structure Step (ι : List Addr) (H : Hp) (ι' : List Addr) (H' : Hp) : Prop where
  more : ∃ l, ι' = ι ++ l ∧ ∀ a ∈ l, H a = none
  keep : ∀ a o, H a = some o → a ∉ ι → (∀ ps, o ≠ .tbl ps) → H' a = some o
  there : ∀ a, H' a = none → H a = none
theorem Step.refl {ι : List Addr} {H : Hp} : Step ι H ι H := ⟨⟨[], by simp, by simp⟩, fun _ _ h _ _ => h, fun _ h => h⟩
theorem Step.trans {ι ι1 ι2 : List Addr} {H H1 H2 : Hp} (a : Step ι H ι1 H1) (b : Step ι1 H1 ι2 H2) : Step ι H ι2 H2 := by
  obtain ⟨l, e, f⟩ := a.more
  obtain ⟨l', e', f'⟩ := b.more
  refine ⟨⟨l ++ l', by rw [e', e, List.append_assoc], fun x hx => ?_⟩, fun x o h n t => ?_, fun x h => a.there x (b.there x h)⟩
  · rcases List.mem_append.mp hx with h | h
    · exact f x h
    · exact a.there x (f' x h)
  · refine b.keep x o (a.keep x o h n t) ?_ t
    rw [e]
    intro z
    rcases List.mem_append.mp z with z | z
    · exact n z
    · rw [f x z] at h; cases h
theorem Step.notin {ι ι' : List Addr} {H H' : Hp} (s : Step ι H ι' H') {a : Addr} {o : HO} (h : H a = some o) (n : a ∉ ι) : a ∉ ι' := by
  obtain ⟨l, e, f⟩ := s.more
  rw [e]
  intro z
  rcases List.mem_append.mp z with z | z
  · exact n z
  · rw [f a z] at h; cases h
theorem Step.out {C : Ct} {ι ι' : List Addr} {H H' : Hp} (s : Step ι H ι' H') {a : Addr} {o : HO} (h : H a = some o) (n : Out C ι a) : Out C ι' a := ⟨s.notin h n.1, n.2⟩
theorem Step.im {C : Ct} {ι ι' : List Addr} {H H' : Hp} (s : Step ι H ι' H') {a : Addr} {u : HO} (hu : ∀ ps, u ≠ .tbl ps) (h : Im C ι H a u) : Im C ι' H' a u := by
  obtain ⟨r, n⟩ := h
  rcases r with r | ⟨o, r⟩
  · exact ⟨.inl (s.keep _ _ r n.1 hu), s.out r n⟩
  · exact ⟨.inr ⟨o, s.keep _ _ r n.1 (fun ps z => by cases z)⟩, s.out r n⟩
section
variable {C : Ct} {ι ι' : List Addr} {H H' : Hp}
mutual
theorem Rep.mono (s : Step ι H ι' H') : ∀ {x : V} {p : PV}, Rep C ι H x p → Rep C ι' H' x p
  | _, _, .non => .non
  | _, _, .bl b => .bl b
  | _, _, .int i => .int i
  | _, _, .str z => .str z
  | _, _, .tup h r => .tup (h.imp (s.im fun ps z => by cases z) id) (Reps.mono s r)
  | _, _, .lst h n r => .lst (s.keep _ _ h n.1 fun ps z => by cases z) (s.out h n) (Reps.mono s r)
  | _, _, .scr h => .scr (h.imp (s.im fun ps z => by cases z) id)
  | _, _, .dct h n r => .dct (s.keep _ _ h n.1 fun ps z => by cases z) (s.out h n) (Reps.mono s r)
  | _, _, .ref h => .ref (by
      obtain ⟨l, e, _⟩ := s.more
      rw [e, List.getElem?_append_left (List.getElem?_eq_some_iff.mp h).1]
      exact h)
  | _, _, .exc h n hd nd r => .exc (s.keep _ _ h n.1 fun ps z => by unfold ExD at z; cases z) (s.out h n) (s.keep _ _ hd nd.1 fun ps z => by cases z) (s.out hd nd) (Rep.mono s r)
  | _, _, .mkd m h n hd nd ht nt r => .mkd m (s.keep _ _ h n.1 fun ps z => by unfold ExT at z; cases z) (s.out h n) (s.keep _ _ hd nd.1 fun ps z => by cases z) (s.out hd nd) (s.keep _ _ ht nt.1 fun ps z => by cases z) (s.out ht nt) (Rep.mono s r)
  | _, _, .clo b lb h n hc nc => .clo b lb (s.keep _ _ h n.1 fun ps z => by unfold CloO at z; cases z) (s.out h n) (s.keep _ _ hc nc.1 fun ps z => codeO_ne ps z) (s.out hc nc)
theorem Reps.mono (s : Step ι H ι' H') : ∀ {xs : List V} {ps : List PV}, Reps C ι H xs ps → Reps C ι' H' xs ps
  | _, _, .nil => .nil
  | _, _, .cons a r => .cons (Rep.mono s a) (Reps.mono s r)
end
theorem Reps.length : ∀ {xs : List V} {ps : List PV}, Reps C ι H xs ps → xs.length = ps.length
  | _, _, .nil => rfl
  | _, _, .cons _ r => by simp [Reps.length r]
theorem Reps.get : ∀ {xs : List V} {ps : List PV} {i : Nat} {p : PV}, Reps C ι H xs ps → ps[i]? = some p → ∃ x, xs[i]? = some x ∧ Rep C ι H x p
  | _, _, _, _, .nil, e => by simp at e
  | _, _, 0, _, .cons r _, e => by simp at e; subst e; exact ⟨_, rfl, r⟩
  | _, _, i + 1, p, .cons _ t, e => by
    obtain ⟨u, h1, h2⟩ := Reps.get (i := i) (p := p) t (by simpa using e)
    exact ⟨u, by simpa using h1, h2⟩
theorem Reps.get' : ∀ {xs : List V} {ps : List PV} {i : Nat} {x : V}, Reps C ι H xs ps → xs[i]? = some x → ∃ p, ps[i]? = some p ∧ Rep C ι H x p
  | _, _, _, _, .nil, e => by simp at e
  | _, _, 0, _, .cons r _, e => by simp at e; subst e; exact ⟨_, rfl, r⟩
  | _, _, i + 1, p, .cons _ t, e => by
    obtain ⟨u, h1, h2⟩ := Reps.get' (i := i) (x := p) t (by simpa using e)
    exact ⟨u, by simpa using h1, h2⟩
theorem Reps.append : ∀ {xs ys : List V} {ps qs : List PV}, Reps C ι H xs ps → Reps C ι H ys qs → Reps C ι H (xs ++ ys) (ps ++ qs)
  | _, _, _, _, .nil, s => s
  | _, _, _, _, .cons r t, s => .cons r (Reps.append t s)
theorem Reps.take : ∀ {xs : List V} {ps : List PV} (n : Nat), Reps C ι H xs ps → Reps C ι H (xs.take n) (ps.take n)
  | _, _, 0, _ => by simp; exact .nil
  | _, _, _ + 1, .nil => by simp; exact .nil
  | _, _, n + 1, .cons r t => .cons r (Reps.take n t)
theorem Reps.drop : ∀ {xs : List V} {ps : List PV} (n : Nat), Reps C ι H xs ps → Reps C ι H (xs.drop n) (ps.drop n)
  | _, _, 0, r => r
  | _, _, _ + 1, .nil => by simp; exact .nil
  | _, _, n + 1, .cons _ t => Reps.drop n t
theorem Reps.set {x : V} {p : PV} (r : Rep C ι H x p) : ∀ {xs : List V} {ps : List PV} (i : Nat), Reps C ι H xs ps → Reps C ι H (xs.set i x) (ps.set i p)
  | _, _, _, .nil => .nil
  | _, _, 0, .cons _ t => .cons r t
  | _, _, i + 1, .cons q t => .cons q (Reps.set r i t)
theorem Reps.reverse {xs : List V} {ps : List PV} (h : Reps C ι H xs ps) : Reps C ι H xs.reverse ps.reverse := by
  have go : ∀ {xs : List V} {ps : List PV}, Reps C ι H xs ps → Reps C ι H xs.reverse ps.reverse := by
    intro xs
    induction xs with
    | nil => intro ps h; cases h; exact .nil
    | cons x r ih =>
      intro ps h
      cases h with
      | cons a b => rw [List.reverse_cons, List.reverse_cons]; exact (ih b).append (.cons a .nil)
  exact go h
theorem Reps.dropLast {xs : List V} {ps : List PV} (h : Reps C ι H xs ps) : Reps C ι H xs.dropLast ps.dropLast := by
  rw [List.dropLast_eq_take, List.dropLast_eq_take, h.length]
  exact h.take _
theorem Reps.eraseIdx : ∀ {xs : List V} {ps : List PV} (i : Nat), Reps C ι H xs ps → Reps C ι H (xs.eraseIdx i) (ps.eraseIdx i)
  | _, _, _, .nil => .nil
  | _, _, 0, .cons _ t => t
  | _, _, i + 1, .cons q t => .cons q (Reps.eraseIdx i t)
theorem Reps.rep {xs : List V} {ps : List PV} (h : Reps C ι H xs ps) : ∀ k : Nat, Reps C ι H (List.replicate k xs).flatten (List.replicate k ps).flatten
  | 0 => by simp; exact .nil
  | k + 1 => by simp only [List.replicate_succ, List.flatten_cons]; exact h.append (Reps.rep h k)
theorem Reps.ints : ∀ {xs : List V} {ps : List PV} {ns : List Int}, Reps C ι H xs ps → allI ps = some ns → xs = ns.map V.int
  | _, _, ns, .nil, e => by simp [allI] at e; subst e; rfl
  | _, _, ns, .cons (p := p) (ps := ps) r t, e => by
    cases r with
    | int i =>
      simp only [allI, Option.map_eq_some_iff] at e
      obtain ⟨m, e1, e2⟩ := e
      subst e2
      rw [Reps.ints t e1]; rfl
    | _ => simp [allI] at e
theorem Reps.of_ints : ∀ ns : List Int, Reps C ι H (ns.map V.int) (ns.map PV.int)
  | [] => .nil
  | _ :: r => .cons (.int _) (Reps.of_ints r)
theorem Reps.bools : ∀ {xs : List V} {ps : List PV} {ns : List Bool}, Reps C ι H xs ps → allB ps = some ns → xs = ns.map V.bl
  | _, _, ns, .nil, e => by simp [allB] at e; subst e; rfl
  | _, _, ns, .cons (p := p) (ps := ps) r t, e => by
    cases r with
    | bl i =>
      simp only [allB, Option.map_eq_some_iff] at e
      obtain ⟨m, e1, e2⟩ := e
      subst e2
      rw [Reps.bools t e1]; rfl
    | _ => simp [allB] at e
/- levels of the lambdas within -/
mutual
def clow (lv : Nat) : PV → Bool
  | .tup xs => clows lv xs | .lst xs => clows lv xs | .set _ => true
  | .dct _ vs => clows lv vs
  | .ref _ => true | .clo _ l => decide (l < lv) | .exc _ v => clow lv v | .mkd _ _ v => clow lv v
  | .non => true | .bl _ => true | .int _ => true | .str _ => true | .scr _ => true
def clows (lv : Nat) : List PV → Bool
  | [] => true
  | x :: xs => clow lv x && clows lv xs
end
/- all lambdas told are of a level that is there -/
mutual
theorem Rep.low : ∀ {x : V} {p : PV}, Rep C ι H x p → clow C.γ.length p = true
  | _, _, .non => rfl
  | _, _, .bl b => rfl
  | _, _, .int i => rfl
  | _, _, .str z => rfl
  | _, _, .tup h r => by simpa [clow] using Reps.low r
  | _, _, .lst h n r => by simpa [clow] using Reps.low r
  | _, _, .scr h => rfl
  | _, _, .dct h n r => by simpa [clow] using Reps.low r
  | _, _, .ref h => rfl
  | _, _, .exc h n hd nd r => by simpa [clow] using Rep.low r
  | _, _, .mkd _ _ _ _ _ _ _ r => by simpa [clow] using Rep.low r
  | _, _, .clo b lb h n hc nc => by
    have := (List.getElem?_eq_some_iff.mp b).1
    simpa [clow] using this
theorem Reps.low : ∀ {xs : List V} {ps : List PV}, Reps C ι H xs ps → clows C.γ.length ps = true
  | _, _, .nil => rfl
  | _, _, .cons a r => by simp [clows, Rep.low a, Reps.low r]
end
/- told of another frame: the numbers that stay, the levels that stay, what is out -/
structure Mv (C C' : Ct) (ι ι' : List Addr) (H H' : Hp) (n lv : Nat) : Prop where
  K : C'.K = C.K
  cA : C'.cA = C.cA
  keep : ∀ a o, H a = some o → Out C ι a → (∀ ps, o ≠ .tbl ps) → H' a = some o
  out : ∀ a o, H a = some o → Out C ι a → Out C' ι' a
  ix : ∀ (m : Nat) (a : Addr), m < n → ι[m]? = some a → ι'[m]? = some a
  gam : ∀ (l : Nat) g, l < lv → C.γ[l]? = some g → C'.γ[l]? = some g
/- numbers below n, levels below lv -/
mutual
def cok (n lv : Nat) : PV → Bool
  | .tup xs => coks n lv xs | .lst xs => coks n lv xs | .set _ => true
  | .dct _ vs => coks n lv vs
  | .ref m => decide (m < n) | .clo _ l => decide (l < lv) | .exc _ v => cok n lv v | .mkd _ _ v => cok n lv v
  | .non => true | .bl _ => true | .int _ => true | .str _ => true | .scr _ => true
def coks (n lv : Nat) : List PV → Bool
  | [] => true
  | x :: xs => cok n lv x && coks n lv xs
end
mutual
theorem Rep.mv {C' : Ct} {n lv : Nat} (m : Mv C C' ι ι' H H' n lv) : ∀ {x : V} {p : PV}, Rep C ι H x p → cok n lv p = true → Rep C' ι' H' x p
  | _, _, .non, _ => .non
  | _, _, .bl b, _ => .bl b
  | _, _, .int i, _ => .int i
  | _, _, .str z, _ => .str z
  | _, _, .tup h r, e => .tup (h.imp (fun ⟨r, n⟩ => by
      rcases r with r | ⟨o, r⟩
      · exact ⟨.inl (m.keep _ _ r n (fun ps z => by cases z)), m.out _ _ r n⟩
      · exact ⟨.inr ⟨o, m.keep _ _ r n (fun ps z => by cases z)⟩, m.out _ _ r n⟩) (fun h => by rw [m.K]; exact h)) (Reps.mv m r (by simpa [cok] using e))
  | _, _, .lst h n r, e => .lst (m.keep _ _ h n (fun ps z => by cases z)) (m.out _ _ h n) (Reps.mv m r (by simpa [cok] using e))
  | _, _, .scr h, _ => .scr (h.imp (fun ⟨r, n⟩ => by
      rcases r with r | ⟨o, r⟩
      · exact ⟨.inl (m.keep _ _ r n (fun ps z => by cases z)), m.out _ _ r n⟩
      · exact ⟨.inr ⟨o, m.keep _ _ r n (fun ps z => by cases z)⟩, m.out _ _ r n⟩) (fun h => by rw [m.K]; exact h))
  | _, _, .dct h n r, e => .dct (m.keep _ _ h n (fun ps z => by cases z)) (m.out _ _ h n) (Reps.mv m r (by simpa [cok] using e))
  | _, _, .ref h, e => .ref (m.ix _ _ (by simpa [cok] using e) h)
  | _, _, .exc h n hd nd r, e => .exc (m.keep _ _ (by rw [m.cA]; exact h) n (fun ps z => by unfold ExD at z; cases z)) (m.out _ _ h n) (m.keep _ _ hd nd (fun ps z => by cases z)) (m.out _ _ hd nd) (Rep.mv m r (by simpa [cok] using e))
  | _, _, .mkd k h n hd nd ht nt r, e => .mkd (by rw [m.K, m.cA]; exact k) (m.keep _ _ (by rw [m.cA]; exact h) n (fun ps z => by unfold ExT at z; cases z)) (m.out _ _ h n) (m.keep _ _ hd nd (fun ps z => by cases z)) (m.out _ _ hd nd) (m.keep _ _ ht nt (fun ps z => by cases z)) (m.out _ _ ht nt) (Rep.mv m r (by simpa [cok] using e))
  | _, _, .clo b lb h n hc nc, e => .clo (m.gam _ _ (by simpa [cok] using e) b) lb (m.keep _ _ h n (fun ps z => by unfold CloO at z; cases z)) (m.out _ _ h n) (m.keep _ _ hc nc (fun ps z => codeO_ne ps z)) (m.out _ _ hc nc)
theorem Reps.mv {C' : Ct} {n lv : Nat} (m : Mv C C' ι ι' H H' n lv) : ∀ {xs : List V} {ps : List PV}, Reps C ι H xs ps → coks n lv ps = true → Reps C' ι' H' xs ps
  | _, _, .nil, _ => .nil
  | _, _, .cons a r, e => by
    simp only [coks, Bool.and_eq_true] at e
    exact .cons (Rep.mv m a e.1) (Reps.mv m r e.2)
end
mutual
theorem Rep.cokR : ∀ {x : V} {p : PV}, Rep C ι H x p → cok ι.length C.γ.length p = true
  | _, _, .non => rfl
  | _, _, .bl b => rfl
  | _, _, .int i => rfl
  | _, _, .str z => rfl
  | _, _, .tup h r => by simpa [cok] using Reps.cokR r
  | _, _, .lst h n r => by simpa [cok] using Reps.cokR r
  | _, _, .scr h => rfl
  | _, _, .dct h n r => by simpa [cok] using Reps.cokR r
  | _, _, .ref h => by
    have := (List.getElem?_eq_some_iff.mp h).1
    simpa [cok] using this
  | _, _, .exc h n hd nd r => by simpa [cok] using Rep.cokR r
  | _, _, .mkd _ _ _ _ _ _ _ r => by simpa [cok] using Rep.cokR r
  | _, _, .clo b lb h n hc nc => by
    have := (List.getElem?_eq_some_iff.mp b).1
    simpa [cok] using this
theorem Reps.cokR : ∀ {xs : List V} {ps : List PV}, Reps C ι H xs ps → coks ι.length C.γ.length ps = true
  | _, _, .nil => rfl
  | _, _, .cons a r => by simp [coks, Rep.cokR a, Reps.cokR r]
end
mutual
theorem cok_of {n lv : Nat} : ∀ {p : PV}, nrf p = true → clow lv p = true → cok n lv p = true
  | .tup xs, a, b => by simp only [nrf, clow, cok] at *; exact coks_of a b
  | .lst xs, a, b => by simp only [nrf, clow, cok] at *; exact coks_of a b
  | .dct ks vs, a, b => by simp only [nrf, clow, cok, Bool.and_eq_true] at *; exact coks_of (nrfs_of a.2) b
  | .exc c v, a, b => by simp only [nrf, clow, cok] at *; exact cok_of (nrf_of a) b
  | .mkd c m v, a, b => by simp only [nrf, clow, cok] at *; exact cok_of (nrf_of a) b
  | .ref m, a, b => by simp [nrf] at a
  | .clo l k, a, b => by simpa [cok, clow] using b
  | .set xs, _, _ => rfl
  | .non, _, _ => rfl
  | .bl _, _, _ => rfl
  | .int _, _, _ => rfl
  | .str _, _, _ => rfl
  | .scr _, _, _ => rfl
theorem coks_of {n lv : Nat} : ∀ {ps : List PV}, nrfs ps = true → clows lv ps = true → coks n lv ps = true
  | [], _, _ => rfl
  | x :: xs, a, b => by simp only [nrfs, clows, coks, Bool.and_eq_true] at *; exact ⟨cok_of a.1 b.1, coks_of a.2 b.2⟩
theorem nrf_of : ∀ {p : PV}, nor p = true → nrf p = true
  | .tup xs, a => by simp only [nor, nrf] at *; exact nrfs_of a
  | .lst xs, a => by simp only [nor, nrf] at *; exact nrfs_of a
  | .dct ks vs, a => by simpa [nor, nrf] using a
  | .exc c v, a => by simpa [nor, nrf] using a
  | .mkd c m v, a => by simpa [nor, nrf] using a
  | .ref m, a => by simp [nor] at a
  | .clo l k, a => by simp [nor] at a
  | .set xs, a => by simpa [nor, nrf] using a
  | .non, _ => rfl
  | .bl _, _ => rfl
  | .int _, _ => rfl
  | .str _, _ => rfl
  | .scr _, _ => rfl
theorem nrfs_of : ∀ {ps : List PV}, nors ps = true → nrfs ps = true
  | [], _ => rfl
  | x :: xs, a => by simp only [nors, nrfs, Bool.and_eq_true] at *; exact ⟨nrf_of a.1, nrfs_of a.2⟩
end
mutual
theorem clow_of {lv : Nat} : ∀ {p : PV}, nor p = true → clow lv p = true
  | .tup xs, a => by simp only [nor, clow] at *; exact clows_of a
  | .lst xs, a => by simp only [nor, clow] at *; exact clows_of a
  | .dct ks vs, a => by simp only [nor, clow, Bool.and_eq_true] at *; exact clows_of a.2
  | .exc c v, a => by simp only [nor, clow] at *; exact clow_of a
  | .mkd c m v, a => by simp only [nor, clow] at *; exact clow_of a
  | .ref m, a => by simp [nor] at a
  | .clo l k, a => by simp [nor] at a
  | .set xs, _ => rfl
  | .non, _ => rfl
  | .bl _, _ => rfl
  | .int _, _ => rfl
  | .str _, _ => rfl
  | .scr _, _ => rfl
theorem clows_of {lv : Nat} : ∀ {ps : List PV}, nors ps = true → clows lv ps = true
  | [], _ => rfl
  | x :: xs, a => by simp only [nors, clows, Bool.and_eq_true] at *; exact ⟨clow_of a.1, clows_of a.2⟩
end
end

/-! ### the store -/
def ObR (C : Ct) (ι : List Addr) (H : Hp) (a : Addr) : Ob → Prop
  | .lst ps => nrfs ps = true ∧ ∃ xs, H a = some (.lst xs) ∧ Reps C ι H xs ps
  | .dct ks vs => nors ks = true ∧ nors vs = true ∧ ∃ kvs : List (Key × V), H a = some (.dK kvs) ∧ ks = kvs.map (fun p => keyPV p.1) ∧ Reps C ι H (kvs.map (·.2)) vs
theorem ObR.mvs {C C' : Ct} {ι ι' : List Addr} {H : Hp} {a : Addr} {ob : Ob} (h : ObR C ι H a ob) (m : ∀ {xs ps}, Reps C ι H xs ps → Reps C' ι' H xs ps) : ObR C' ι' H a ob := by
  cases ob with
  | lst qs => obtain ⟨z, ys, e1, q⟩ := h; exact ⟨z, ys, e1, m q⟩
  | dct ks vs => obtain ⟨z, z2, kvs, e1, q1, q⟩ := h; exact ⟨z, z2, kvs, e1, q1, m q⟩
structure RSt (C : Ct) (ι : List Addr) (H : Hp) (st : Store) : Prop where
  nd : ι.Nodup
  len : ι.length = st.length
  ob : ∀ (n : Nat) (a : Addr) (ob : Ob), ι[n]? = some a → st[n]? = some ob → ObR C ι H a ob
theorem ObR.ex {C : Ct} {ι : List Addr} {H : Hp} {a : Addr} {ob : Ob} (h : ObR C ι H a ob) : ∃ o, H a = some o := by
  cases ob with
  | lst ps => obtain ⟨_, xs, e, _⟩ := h; exact ⟨_, e⟩
  | dct ks vs => obtain ⟨_, _, kvs, e, _⟩ := h; exact ⟨_, e⟩
theorem RSt.at {C : Ct} {ι : List Addr} {H : Hp} {st : Store} (r : RSt C ι H st) {n : Nat} {a : Addr} (e : ι[n]? = some a) : ∃ ob, st[n]? = some ob ∧ ObR C ι H a ob := by
  have h := (List.getElem?_eq_some_iff.mp e).1
  rw [r.len] at h
  exact ⟨st[n], by simp [h], r.ob n a _ e (by simp [h])⟩
theorem RSt.mem {C : Ct} {ι : List Addr} {H : Hp} {st : Store} (r : RSt C ι H st) {a : Addr} (e : a ∈ ι) : ∃ o, H a = some o := by
  obtain ⟨n, hn⟩ := List.getElem?_of_mem e
  obtain ⟨ob, _, h⟩ := r.at hn
  exact h.ex
def REnv (C : Ct) (ι : List Addr) (H : Hp) (σ : L2.St) (ρ : Env) : Prop := ∀ (i : Nat) (v : PV), ρ[i]? = some (some v) → ∃ x, σ[i]? = some (some x) ∧ Rep C ι H x v
theorem REnv.mono {C : Ct} {ι ι' : List Addr} {H H' : Hp} {σ : L2.St} {ρ : Env} (s : Step ι H ι' H') (r : REnv C ι H σ ρ) : REnv C ι' H' σ ρ := fun i v e =>
  let ⟨x, e1, e2⟩ := r i v e
  ⟨x, e1, e2.mono s⟩
theorem REnv.gv {C : Ct} {ι : List Addr} {H : Hp} {σ : L2.St} {ρ : Env} (r : REnv C ι H σ ρ) {i : Nat} {v : PV} (e : gv ρ i = some v) : ∃ x, σ[i]? = some (some x) ∧ Rep C ι H x v := by
  refine r i v ?_
  unfold PM.gv at e
  cases h : ρ[i]? with
  | none => rw [h] at e; simp at e
  | some o => rw [h] at e; simp at e; rw [e]
theorem REnv.set {C : Ct} {ι : List Addr} {H : Hp} {σ : L2.St} {ρ : Env} (r : REnv C ι H σ ρ) (hl : ρ.length = σ.length) {i : Nat} {x : V} {v : PV} (rx : Rep C ι H x v) : REnv C ι H (σ.set i (some x)) (ρ.set i (some v)) := fun j w e => by
  by_cases hj : i = j
  · subst hj
    by_cases hi : i < ρ.length
    · rw [List.getElem?_set_self hi] at e
      cases e
      exact ⟨x, by rw [List.getElem?_set_self (by omega)], rx⟩
    · rw [List.getElem?_eq_none (by simpa using hi)] at e; cases e
  · rw [List.getElem?_set_ne hj] at e ⊢
    exact r j w e
/-- the store's other objects through a step that leaves them -/
theorem RSt.mono {C : Ct} {ι : List Addr} {H H' : Hp} {st : Store} (r : RSt C ι H st) (s : Step ι H ι H') (k : ∀ a ∈ ι, H' a = H a) : RSt C ι H' st := by
  refine ⟨r.nd, r.len, fun n a ob e1 e2 => ?_⟩
  have h := r.ob n a ob e1 e2
  have ka := k a (List.mem_of_getElem? e1)
  cases ob with
  | lst ps => obtain ⟨z, xs, e, q⟩ := h; exact ⟨z, xs, by rw [ka]; exact e, q.mono s⟩
  | dct ks vs => obtain ⟨z, z2, kvs, e, q1, q⟩ := h; exact ⟨z, z2, kvs, by rw [ka]; exact e, q1, q.mono s⟩

/-! ### the state of a frame -/
def obLow (lv : Nat) : Ob → Prop
  | .lst ps => clows lv ps = true
  | .dct _ _ => True
structure Rel (C : Ct) (T : List (Addr × Str)) (ι0 : List Addr) (H0 : Hp) (ρ : Env) (st : Store) (ι : List Addr) (σ : L2.St) (H : Hp) : Prop where
  rst : RSt C ι H st
  env : REnv C ι H σ ρ
  tab : Tabs T H
  tni : ∀ p ∈ T, p.1 ∉ ι
  fr0 : Step ι0 H0 ι H
  len : ρ.length = σ.length
  ded : ∀ d ∈ C.dead, d ∉ ι ∧ ∃ xs, H d = some (.lst xs)
  low : ∀ q ∈ C.lows, ∀ n ob, n < q.1 → st[n]? = some ob → obLow q.2 ob
  lown : ∀ q ∈ C.lows, q.1 ≤ st.length
section
variable {C : Ct} {T : List (Addr × Str)} {ι0 ι ι' : List Addr} {H0 H H' : Hp} {ρ : Env} {st st' : Store} {σ : L2.St}
theorem step_new {p : Addr} {o : HO} (hp : H p = none) : Step ι H ι (upd H p o) :=
  ⟨⟨[], by simp, by simp⟩, fun a u h _ _ => by rw [upd_ne (ne_of_none h hp)]; exact h, fun a h => by
    by_cases e : a = p
    · rw [e, upd_same] at h; cases h
    · rw [upd_ne e] at h; exact h⟩
/-- a new object that isn't in the store -/
theorem Rel.new {p : Addr} {o : HO} (R : Rel C T ι0 H0 ρ st ι σ H) (hp : H p = none) : Rel C T ι0 H0 ρ st ι σ (upd H p o) := by
  have s : Step ι H ι (upd H p o) := step_new hp
  refine ⟨R.rst.mono s fun a ha => ?_, R.env.mono s, R.tab.ext fun b u h => by rw [upd_ne (ne_of_none h hp)]; exact h, R.tni, R.fr0.trans s, R.len, fun d hd => ⟨(R.ded d hd).1, ?_⟩, R.low, R.lown⟩
  · obtain ⟨u, h⟩ := R.rst.mem ha
    rw [upd_ne (ne_of_none h hp)]
  · obtain ⟨u, h⟩ := (R.ded d hd).2
    exact ⟨u, by rw [upd_ne (ne_of_none h hp)]; exact h⟩
theorem Rel.fresh (R : Rel C T ι0 H0 ρ st ι σ H) {p : Addr} (hp : H p = none) : Out C ι p := by
  refine ⟨fun z => ?_, fun z => ?_⟩
  · obtain ⟨u, h⟩ := R.rst.mem z
    rw [hp] at h; cases h
  · obtain ⟨u, h⟩ := (R.ded p z).2
    rw [hp] at h; cases h
theorem Rep.untold {a : Addr} {o : HO} (hd : a ∈ C.dead) {x : V} {p : PV} (h : Rep C ι H x p) : Rep C ι (upd H a o) x p :=
  h.mv (n := ι.length) (lv := C.γ.length) ⟨rfl, rfl, fun b u e n _ => by rw [upd_ne (fun z => n.2 (by rw [z]; exact hd))]; exact e, fun _ _ _ n => n, fun _ _ _ e => e, fun _ _ _ e => e⟩ h.cokR
theorem Reps.untold {a : Addr} {o : HO} (hd : a ∈ C.dead) {xs : List V} {ps : List PV} (h : Reps C ι H xs ps) : Reps C ι (upd H a o) xs ps :=
  h.mv (n := ι.length) (lv := C.γ.length) ⟨rfl, rfl, fun b u e n _ => by rw [upd_ne (fun z => n.2 (by rw [z]; exact hd))]; exact e, fun _ _ _ n => n, fun _ _ _ e => e, fun _ _ _ e => e⟩ h.cokR
/-- a list that is just made is written -/
theorem Rel.untold {a : Addr} {ys xs : List V} (R : Rel C T ι0 H0 ρ st ι σ H) (ha : H a = some (.lst xs)) (hd : a ∈ C.dead) (h0 : H0 a = none) : Rel C T ι0 H0 ρ st ι σ (upd H a (.lst ys)) := by
  have na : ∀ b ∈ ι, b ≠ a := fun b hb z => (R.ded a hd).1 (by rw [← z]; exact hb)
  refine ⟨⟨R.rst.nd, R.rst.len, fun n b ob e1 e2 => ?_⟩, fun i v e => ?_, fun p hp => ?_, R.tni, ⟨R.fr0.more, fun b v h n t => ?_, fun b h => ?_⟩, R.len, fun d hd' => ⟨(R.ded d hd').1, ?_⟩, R.low, R.lown⟩
  · have h := R.rst.ob n b ob e1 e2
    have nb := na b (List.mem_of_getElem? e1)
    cases ob with
    | lst qs => obtain ⟨z, ys, e, q⟩ := h; exact ⟨z, ys, by rw [upd_ne nb]; exact e, q.untold hd⟩
    | dct ks vs => obtain ⟨z, z2, kvs, e, q1, q⟩ := h; exact ⟨z, z2, kvs, by rw [upd_ne nb]; exact e, q1, q.untold hd⟩
  · obtain ⟨x, e1, e2⟩ := R.env i v e
    exact ⟨x, e1, e2.untold hd⟩
  · obtain ⟨ps', h1, h2, h3⟩ := R.tab p hp
    have n1 : p.1 ≠ a := fun z => by rw [z, ha] at h1; cases h1
    refine ⟨ps', by rw [upd_ne n1]; exact h1, h2, fun pos cv hcv => ?_⟩
    obtain ⟨c, e, q⟩ := h3 pos cv hcv
    have n2 : c ≠ a := fun z => by rw [z, ha] at q; unfold CodeO at q; cases q
    exact ⟨c, e, by rw [upd_ne n2]; exact q⟩
  · by_cases e : b = a
    · rw [e, h0] at h; cases h
    · rw [upd_ne e]; exact R.fr0.keep b v h n t
  · by_cases e : b = a
    · rw [e, upd_same] at h; cases h
    · rw [upd_ne e] at h; exact R.fr0.there b h
  · by_cases e : d = a
    · exact ⟨ys, by rw [e, upd_same]⟩
    · rw [upd_ne e]; exact (R.ded d hd').2
theorem ObR.congr {C : Ct} {ι ι' : List Addr} {H H' : Hp} {a : Addr} {ob : Ob} (h : ObR C ι H a ob) (e : H' a = H a) (m : ∀ {xs ps}, Reps C ι H xs ps → Reps C ι' H' xs ps) : ObR C ι' H' a ob := by
  cases ob with
  | lst qs => obtain ⟨z, ys, e1, q⟩ := h; exact ⟨z, ys, by rw [e]; exact e1, m q⟩
  | dct ks vs => obtain ⟨z, z2, kvs, e1, q1, q⟩ := h; exact ⟨z, z2, kvs, by rw [e]; exact e1, q1, m q⟩
/-- an object that is there becomes one of the store -/
theorem Rel.adopt {p : Addr} {xs : List V} {ps : List PV} (R : Rel { C with dead := p :: C.dead } T ι0 H0 ρ st ι σ H) (hp : H p = some (.lst xs)) (h0 : H0 p = none) (r : Reps { C with dead := p :: C.dead } ι H xs ps) (hn : nrfs ps = true) (nd : p ∉ C.dead) :
    Rel C T ι0 H0 ρ (st ++ [.lst ps]) (ι ++ [p]) σ H ∧ Rep C (ι ++ [p]) H (.ref p) (.ref st.length) := by
  have hf : p ∉ ι := (R.ded p List.mem_cons_self).1
  have mv : Mv { C with dead := p :: C.dead } C ι (ι ++ [p]) H H ι.length C.γ.length := ⟨rfl, rfl, fun a o h _ _ => h, fun a o h n => ⟨fun z => by
      rcases List.mem_append.mp z with z | z
      · exact n.1 z
      · exact n.2 (by rw [List.mem_singleton.mp z]; exact List.mem_cons_self), fun z => n.2 (List.mem_cons_of_mem _ z)⟩,
    fun m a hm e => by rw [List.getElem?_append_left hm]; exact e, fun l g _ e => e⟩
  have ck : ∀ {x q}, Rep { C with dead := p :: C.dead } ι H x q → Rep C (ι ++ [p]) H x q := by
    intro x q h
    have k := Rep.cokR h
    exact h.mv mv k
  have cks : ∀ {xs qs}, Reps { C with dead := p :: C.dead } ι H xs qs → Reps C (ι ++ [p]) H xs qs := fun {xs qs} h => by
    have k := Reps.cokR h
    exact h.mv mv k
  refine ⟨⟨⟨?_, by simp [R.rst.len], fun n a ob e1 e2 => ?_⟩, fun i v e => ?_, R.tab, fun q hq z => ?_, ⟨?_, fun b u h n t => R.fr0.keep b u h n t, R.fr0.there⟩, R.len, fun d hd => ⟨fun z => ?_, (R.ded d (List.mem_cons_of_mem _ hd)).2⟩, fun q hq n ob hn e => ?_, fun q hq => ?_⟩, .ref ?_⟩
  · rw [List.nodup_append]
    exact ⟨R.rst.nd, by simp, fun a ha b hb => by
      rw [List.mem_singleton.mp hb]
      exact fun z => hf (z ▸ ha)⟩
  · by_cases hlt : n < ι.length
    · rw [List.getElem?_append_left hlt] at e1
      rw [List.getElem?_append_left (by rw [← R.rst.len]; exact hlt)] at e2
      exact ObR.mvs (R.rst.ob n a ob e1 e2) cks
    · have hl := R.rst.len
      have hn2 : n = ι.length := by
        have := (List.getElem?_eq_some_iff.mp e1).1
        simp at this
        omega
      subst hn2
      rw [List.getElem?_append_right (by omega)] at e1 e2
      simp at e1
      rw [hl] at e2
      simp at e2
      subst e1 e2
      exact ⟨hn, xs, hp, cks r⟩
  · obtain ⟨x, e1, e2⟩ := R.env i v e
    exact ⟨x, e1, ck e2⟩
  · rcases List.mem_append.mp z with z | z
    · exact R.tni q hq z
    · obtain ⟨ps', h1, _⟩ := R.tab q hq
      rw [List.mem_singleton.mp z, hp] at h1; cases h1
  · obtain ⟨l, e, f⟩ := R.fr0.more
    refine ⟨l ++ [p], by rw [e, List.append_assoc], fun a ha => ?_⟩
    rcases List.mem_append.mp ha with h | h
    · exact f a h
    · rw [List.mem_singleton.mp h]; exact h0
  · rcases List.mem_append.mp z with z | z
    · exact (R.ded d (List.mem_cons_of_mem _ hd)).1 z
    · exact nd (by rw [← List.mem_singleton.mp z]; exact hd)
  · have := R.lown q hq
    rw [List.getElem?_append_left (by omega)] at e
    exact R.low q hq n ob hn e
  · have := R.lown q hq
    simp; omega
  · rw [← R.rst.len]
    simp
/-- an object of the store changed -/
theorem Rel.write {a : Addr} {n : Nat} {xs : List V} {ps : List PV} (R : Rel C T ι0 H0 ρ st ι σ H) (ha : ι[n]? = some a) (r : Reps C ι H xs ps) (hn : nrfs ps = true) (hl : ∀ q ∈ C.lows, n < q.1 → clows q.2 ps = true) :
    Step ι H ι (upd H a (.lst xs)) ∧ Rel C T ι0 H0 ρ (st.set n (.lst ps)) ι σ (upd H a (.lst xs)) := by
  have hm := List.mem_of_getElem? ha
  have s : Step ι H ι (upd H a (.lst xs)) := ⟨⟨[], by simp, by simp⟩, fun b u h nb _ => by rw [upd_ne (show b ≠ a from fun z => nb (by rw [z]; exact hm))]; exact h, fun b h => by
    by_cases e : b = a
    · rw [e, upd_same] at h; cases h
    · rw [upd_ne e] at h; exact h⟩
  refine ⟨s, ⟨⟨R.rst.nd, by simp [R.rst.len], fun m b ob e1 e2 => ?_⟩, R.env.mono s, fun p hp => ?_, R.tni, R.fr0.trans s, R.len, fun d hd => ⟨(R.ded d hd).1, ?_⟩, fun q hq m ob hm' e => ?_, fun q hq => by rw [List.length_set]; exact R.lown q hq⟩⟩
  · by_cases hmn : n = m
    · subst hmn
      rw [ha] at e1
      cases e1
      have hlt := (List.getElem?_eq_some_iff.mp ha).1
      rw [List.getElem?_set_self (by rw [← R.rst.len]; exact hlt)] at e2
      cases e2
      exact ⟨hn, xs, upd_same, r.mono s⟩
    · rw [List.getElem?_set_ne hmn] at e2
      have nb : b ≠ a := fun z => by
        subst z
        obtain ⟨h1, q1⟩ := List.getElem?_eq_some_iff.mp ha
        obtain ⟨h2, q2⟩ := List.getElem?_eq_some_iff.mp e1
        exact hmn ((List.getElem_inj R.rst.nd).mp (q1.trans q2.symm))
      exact (R.rst.ob m b ob e1 e2).congr (by rw [upd_ne nb]) fun q => q.mono s
  · obtain ⟨ps', h1, h2, h3⟩ := R.tab p hp
    have np : p.1 ≠ a := fun z => R.tni p hp (z ▸ hm)
    refine ⟨ps', by rw [upd_ne np]; exact h1, h2, fun pos cv hc => ?_⟩
    obtain ⟨c, e, q⟩ := h3 pos cv hc
    refine ⟨c, e, ?_⟩
    have nc : c ≠ a := fun z => by
      obtain ⟨ob, _, h⟩ := R.rst.at ha
      rw [z] at q
      cases ob with
      | lst qs => obtain ⟨_, ys, e, _⟩ := h; rw [e] at q; unfold CodeO at q; cases q
      | dct ks vs => obtain ⟨_, _, kvs, e, _⟩ := h; rw [e] at q; unfold CodeO at q; cases q
    rw [upd_ne nc]
    exact q
  · obtain ⟨u, h⟩ := (R.ded d hd).2
    rw [upd_ne (fun z => (R.ded d hd).1 (by rw [z]; exact hm))]
    exact ⟨u, h⟩
  · by_cases hmn : n = m
    · subst hmn
      have hlt := (List.getElem?_eq_some_iff.mp ha).1
      rw [List.getElem?_set_self (by rw [← R.rst.len]; exact hlt)] at e
      cases e
      exact hl q hq hm'
    · rw [List.getElem?_set_ne hmn] at e
      exact R.low q hq m ob hm' e
end
end PM
set_option Elab.async false
set_option linter.all false
set_option maxRecDepth 100000
set_option maxHeartbeats 4000000
/-! PM3: readings by the evaluator's results; operators. -/
namespace PM
open PySem PySem.Spec PyProof.Rows L2 LamX

theorem PE.weak {X : Cx} {e : Expr} {t t' : TE} (h : PE X e t) (w : ∀ σ H Q, t' σ H Q → t σ H Q) : PE X e t' := ⟨fun pins s σ H Q I q => h.run pins s σ H Q I (w σ H Q q)⟩
theorem PT.weak {X : Cx} {e : Expr} {t t' : TT} (h : PT X e t) (w : ∀ σ H Q, t' σ H Q → t σ H Q) : PT X e t' := ⟨fun pins s σ H Q I q => h.run pins s σ H Q I (w σ H Q q)⟩
theorem PW.weak {X : Cx} {e : Expr} {t t' : TT} (h : PW X e t) (w : ∀ σ H Q, t' σ H Q → t σ H Q) : PW X e t' := ⟨fun wh pins s σ H Q I q => h.run wh pins s σ H Q I (w σ H Q q)⟩
theorem PA.weak {X : Cx} {es : List Expr} {t t' : TA} (h : PA X es t) (w : ∀ σ H Q, t' σ H Q → t σ H Q) : PA X es t' := ⟨fun pos pins s σ H Q I q => h.run pos pins s σ H Q I (w σ H Q q)⟩
theorem PS.weak {X : Cx} {st : Stmt} {t t' : TS} (h : PS X st t) (w : ∀ D σ H, t' D σ H → t D σ H) : PS X st t' := ⟨fun pins s σ H D I q => h.run pins s σ H D I (w D σ H q)⟩
theorem PSs.weak {X : Cx} {st : List Stmt} {t t' : TS} (h : PSs X st t) (w : ∀ D σ H, t' D σ H → t D σ H) : PSs X st t' := ⟨fun pins s σ H D I q => h.run pins s σ H D I (w D σ H q)⟩

/-- what a frame (or a block) knows of itself, but for the state -/
structure Fm where
  C : Ct
  T : List (Addr × Str)
  ι0 : List Addr
  H0 : Hp
  W : WX
  Z0 : List L2.St
  Φ0 : List Env
abbrev Fm.Rl (F : Fm) (ρ : Env) (st : Store) (ι : List Addr) (σ : L2.St) (H : Hp) : Prop := Rel F.C F.T F.ι0 F.H0 ρ st ι σ H
/-- an error told behind -/
def ExcA (F : Fm) (ρ : Env) (ι : List Addr) (σ : L2.St) (H : Hp) (k : Nat) (v : PV) (st' : Store) : Prop :=
  ∀ (d : Addr) (x : V) (ι' : List Addr) (H' : Hp), Step ι H ι' H' → F.Rl ρ st' ι' σ H' → H' d = some (.xd [(("value" : Str), x)]) → d ∉ ι' → Rep F.C ι' H' x v → F.W (.ref (F.C.cA k)) (some d) σ H'
/-- what is wanted behind a result -/
def Aft (F : Fm) {α β : Type} (rp : List Addr → Hp → β → α → Prop) (ρ : Env) (ι : List Addr) (σ : L2.St) (H : Hp) (r : R α) (Q : β → Hp → Prop) : Prop := match r with
  | .ok a st' => ∀ (x : β) (ι' : List Addr) (H' : Hp), Step ι H ι' H' → F.Rl ρ st' ι' σ H' → rp ι' H' x a → Q x H'
  | .exc k v st' => ExcA F ρ ι σ H k v st'
  | .bad => False
theorem Aft.step {F : Fm} {α β : Type} {rp : List Addr → Hp → β → α → Prop} {ρ : Env} {ι ι1 : List Addr} {σ : L2.St} {H H1 : Hp} {r : R α} {Q : β → Hp → Prop} (h : Aft F rp ρ ι σ H r Q) (s : Step ι H ι1 H1) : Aft F rp ρ ι1 σ H1 r Q := by
  cases r with
  | ok a st' => exact fun x ι' H' s' R q => h x ι' H' (s.trans s') R q
  | exc k v st' => exact fun d x ι' H' s' R e n q => h d x ι' H' (s.trans s') R e n q
  | bad => exact h
abbrev rpV (F : Fm) : List Addr → Hp → V → PV → Prop := fun ι H x v => Rep F.C ι H x v
abbrev rpB : List Addr → Hp → Bool → Bool → Prop := fun _ _ x v => x = v
abbrev rpL (F : Fm) : List Addr → Hp → List V → List PV → Prop := fun ι H x v => Reps F.C ι H x v
/-- a reading by the evaluator -/
def tG (F : Fm) {α β : Type} (rp : List Addr → Hp → β → α → Prop) (m : Env → Store → R α) : L2.St → Hp → (β → Hp → Prop) → Prop := fun σ H Q =>
  ∃ (ρ : Env) (st : Store) (ι : List Addr), F.Rl ρ st ι σ H ∧ Aft F rp ρ ι σ H (m ρ st) Q
abbrev tE (F : Fm) (m : Env → Store → R PV) : TE := tG F (rpV F) m
abbrev tT (F : Fm) (m : Env → Store → R Bool) : TT := tG F rpB m
abbrev tA (F : Fm) (m : Env → Store → R (List PV)) : TA := tG F (rpL F) m
/-- one after another -/
theorem seq {F : Fm} {α β γ δ : Type} {rp : List Addr → Hp → β → α → Prop} {rq : List Addr → Hp → δ → γ → Prop} {m : Env → Store → R α} {f : Env → α → Store → R γ} {σ : L2.St} {H : Hp} {Q : δ → Hp → Prop} {K : β → Hp → Prop}
    (h : tG F rq (fun ρ st => bnd (m ρ st) (f ρ)) σ H Q)
    (k : ∀ (ρ : Env) (st1 : Store) (a : α) (x : β) (ι1 : List Addr) (H1 : Hp), F.Rl ρ st1 ι1 σ H1 → rp ι1 H1 x a → Aft F rq ρ ι1 σ H1 (f ρ a st1) Q → K x H1) : tG F rp m σ H K := by
  obtain ⟨ρ, st, ι, R, h⟩ := h
  refine ⟨ρ, st, ι, R, ?_⟩
  have h : Aft F rq ρ ι σ H (bnd (m ρ st) (f ρ)) Q := h
  revert h
  cases m ρ st with
  | ok a st1 => exact fun h x ι1 H1 s1 R1 r1 => k ρ st1 a x ι1 H1 R1 r1 (Aft.step h s1)
  | exc c v st1 => exact fun h => h
  | bad => exact fun h => h
/-- the same within -/
theorem seqA {F : Fm} {α β γ δ : Type} {rp : List Addr → Hp → β → α → Prop} {rq : List Addr → Hp → δ → γ → Prop} {m : Env → Store → R α} {f : α → Store → R γ} {ρ : Env} {st : Store} {ι : List Addr} {σ : L2.St} {H : Hp} {Q : δ → Hp → Prop} {K : β → Hp → Prop}
    (R : F.Rl ρ st ι σ H) (h : Aft F rq ρ ι σ H (bnd (m ρ st) f) Q)
    (k : ∀ st1 a x ι1 H1, Step ι H ι1 H1 → F.Rl ρ st1 ι1 σ H1 → rp ι1 H1 x a → Aft F rq ρ ι1 σ H1 (f a st1) Q → K x H1) : tG F rp m σ H K := by
  refine ⟨ρ, st, ι, R, ?_⟩
  revert h
  cases m ρ st with
  | ok a st1 => exact fun h x ι1 H1 s1 R1 r1 => k st1 a x ι1 H1 s1 R1 r1 (Aft.step h s1)
  | exc c v st1 => exact fun h => h
  | bad => exact fun h => h
/-- .. with the equation -/
theorem seqE {F : Fm} {α β γ δ : Type} {rp : List Addr → Hp → β → α → Prop} {rq : List Addr → Hp → δ → γ → Prop} {m : Env → Store → R α} {f : α → Store → R γ} {ρ : Env} {st : Store} {ι : List Addr} {σ : L2.St} {H : Hp} {Q : δ → Hp → Prop} {K : β → Hp → Prop}
    (R : F.Rl ρ st ι σ H) (h : Aft F rq ρ ι σ H (bnd (m ρ st) f) Q)
    (k : ∀ st1 a x ι1 H1, m ρ st = .ok a st1 → Step ι H ι1 H1 → F.Rl ρ st1 ι1 σ H1 → rp ι1 H1 x a → Aft F rq ρ ι1 σ H1 (f a st1) Q → K x H1) : tG F rp m σ H K := by
  refine ⟨ρ, st, ι, R, ?_⟩
  revert h
  cases e : m ρ st with
  | ok a st1 => exact fun h x ι1 H1 s1 R1 r1 => k st1 a x ι1 H1 e s1 R1 r1 (Aft.step h s1)
  | exc c v st1 => exact fun h => h
  | bad => exact fun h => h
theorem Aft.ok {F : Fm} {α β : Type} {rp : List Addr → Hp → β → α → Prop} {ρ : Env} {ι : List Addr} {σ : L2.St} {H : Hp} {a : α} {st : Store} {Q : β → Hp → Prop} (h : Aft F rp ρ ι σ H (.ok a st) Q) {x : β} (R : F.Rl ρ st ι σ H) (r : rp ι H x a) : Q x H :=
  h x ι H Step.refl R r
theorem Aft.giv {F : Fm} {α β : Type} {rp : List Addr → Hp → β → α → Prop} {ρ : Env} {ι : List Addr} {σ : L2.St} {H : Hp} {o : Option α} {st : Store} {Q : β → Hp → Prop} (h : Aft F rp ρ ι σ H (giv o st) Q) : ∃ a, o = some a ∧ Aft F rp ρ ι σ H (.ok a st) Q := by
  cases o with
  | none => exact h.elim
  | some a => exact ⟨a, rfl, h⟩

/-! ### values told by content -/
inductive RepV (C : Ct) (ι : List Addr) (H : Hp) : V → PV → Prop
  | of {x : V} {p : PV} : Rep C ι H x p → RepV C ι H x p
  | lst {a : Addr} {xs : List V} {ps : List PV} : H a = some (.lst xs) → Reps C ι H xs ps → RepV C ι H (.ref a) (.lst ps)
  | dct {a : Addr} {kvs : List (Key × V)} {vs : List PV} : H a = some (.dK kvs) → Reps C ι H (kvs.map (·.2)) vs → RepV C ι H (.ref a) (.dct (kvs.map fun p => keyPV p.1) vs)
section
variable {F : Fm} {C : Ct} {ι : List Addr} {H : Hp} {x : V}
theorem RSt.view {st : Store} (r : RSt C ι H st) {p : PV} (h : Rep C ι H x p) : RepV C ι H x (view st p) := by
  cases h with
  | @ref a n e =>
    obtain ⟨ob, e2, o⟩ := r.at e
    unfold PM.view
    cases ob with
    | lst ps => obtain ⟨_, xs, e3, q⟩ := o; simp only [e2]; exact .lst e3 q
    | dct ks vs => obtain ⟨_, _, kvs, e3, q, q2⟩ := o; simp only [e2]; subst q; exact .dct e3 q2
  | non => exact .of .non
  | bl b => exact .of (.bl b)
  | int i => exact .of (.int i)
  | str s => exact .of (.str s)
  | tup a b => exact .of (.tup a b)
  | lst a b c => exact .of (.lst a b c)
  | scr a => exact .of (.scr a)
  | dct a b c => exact .of (.dct a b c)
  | exc a b c d e => exact .of (.exc a b c d e)
  | mkd a b c d e f g h => exact .of (.mkd a b c d e f g h)
  | clo a b c d e f => exact .of (.clo a b c d e f)
theorem Rep.intI {i : Int} (h : Rep C ι H x (.int i)) : x = .int i := by cases h; rfl
theorem Rep.blI {i : Bool} (h : Rep C ι H x (.bl i)) : x = .bl i := by cases h; rfl
theorem Rep.strI {i : Str} (h : Rep C ι H x (.str i)) : x = .str i := by cases h; rfl
theorem Rep.nonI (h : Rep C ι H x .non) : x = .non := by cases h; rfl
theorem RepV.intI {i : Int} (h : RepV C ι H x (.int i)) : x = .int i := by cases h with | of h => exact h.intI
theorem RepV.blI {i : Bool} (h : RepV C ι H x (.bl i)) : x = .bl i := by cases h with | of h => exact h.blI
theorem RepV.strI {i : Str} (h : RepV C ι H x (.str i)) : x = .str i := by cases h with | of h => exact h.strI
theorem RepV.nonI (h : RepV C ι H x .non) : x = .non := by cases h with | of h => exact h.nonI
theorem RepV.lstI {ps : List PV} (h : RepV C ι H x (.lst ps)) : ∃ a xs, x = .ref a ∧ H a = some (.lst xs) ∧ Reps C ι H xs ps := by
  cases h with
  | of h => cases h with | lst a _ c => exact ⟨_, _, rfl, a, c⟩
  | lst a b => exact ⟨_, _, rfl, a, b⟩
theorem Rep.tupI {ps : List PV} (h : Rep C ι H x (.tup ps)) : ∃ a xs, x = .ref a ∧ SqT C.K H a xs ∧ Reps C ι H xs ps := by
  cases h with
  | tup a r =>
    refine ⟨_, _, rfl, ?_, r⟩
    rcases a with a | a
    · exact .inl a.1
    · exact .inr a
theorem RepV.tupI {ps : List PV} (h : RepV C ι H x (.tup ps)) : ∃ a xs, x = .ref a ∧ SqT C.K H a xs ∧ Reps C ι H xs ps := by
  cases h with
  | of h => exact h.tupI
theorem RepV.scrI {ns : List Int} (h : RepV C ι H x (.scr ns)) : ∃ a, x = .ref a ∧ SqL C.K H a (ns.map V.int) := by
  cases h with
  | of h =>
    cases h with
    | scr a =>
      refine ⟨_, rfl, ?_⟩
      rcases a with a | a
      · exact .inl a.1
      · exact .inr a
/-- a list or a tuple or the script as a sequence -/
theorem RepV.seqI {p : PV} {ps : List PV} (h : RepV C ι H x p) (e : seqV p = some ps) : ∃ a xs, x = .ref a ∧ (SqL C.K H a xs ∨ SqT C.K H a xs) ∧ Reps C ι H xs ps := by
  cases p with
  | tup qs => cases e; obtain ⟨a, xs, e1, e2, e3⟩ := h.tupI; exact ⟨a, xs, e1, .inr e2, e3⟩
  | lst qs => cases e; obtain ⟨a, xs, e1, e2, e3⟩ := h.lstI; exact ⟨a, xs, e1, .inl (SqL.of e2), e3⟩
  | scr ns => cases e; obtain ⟨a, e1, e2⟩ := h.scrI; exact ⟨a, _, e1, .inl e2, Reps.of_ints ns⟩
  | _ => cases e
/- data -/
mutual
theorem Rep.dp : ∀ {x : V} {p : PV} {d : PyData}, Rep C ι H x p → toD p = some d → Dp C.K H x d
  | _, _, _, .non, e => by cases e; exact .non
  | _, _, _, .bl b, e => by cases e; exact .bl b
  | _, _, _, .int i, e => by cases e; exact .int i
  | _, _, _, .str z, e => by cases e; exact .str z
  | _, _, _, .tup h r, e => by
    simp only [toD, Option.map_eq_some_iff] at e
    obtain ⟨ds, e1, e2⟩ := e
    subst e2
    exact .tup (h.elim (fun a => .inl a.1) .inr) (Reps.dp r e1)
  | _, _, _, .lst h n r, e => by
    simp only [toD, Option.map_eq_some_iff] at e
    obtain ⟨ds, e1, e2⟩ := e
    subst e2
    exact .lst (SqL.of h) (Reps.dp r e1)
  | _, _, _, .scr _, e => by cases e
  | _, _, _, .dct .., e => by cases e
  | _, _, _, .ref _, e => by cases e
  | _, _, _, .exc .., e => by cases e
  | _, _, _, .mkd .., e => by cases e
  | _, _, _, .clo .., e => by cases e
theorem Reps.dp : ∀ {xs : List V} {ps : List PV} {ds : List PyData}, Reps C ι H xs ps → toDs ps = some ds → DpAll C.K H xs ds
  | _, _, _, .nil, e => by cases e; exact .nil
  | _, _, _, .cons (p := p) (ps := ps) a r, e => by
    simp only [toDs] at e
    cases e1 : toD p with
    | none => rw [e1] at e; cases e
    | some d =>
      cases e2 : toDs ps with
      | none => rw [e1, e2] at e; cases e
      | some ds =>
        rw [e1, e2] at e
        cases e
        exact .cons (Rep.dp a e1) (Reps.dp r e2)
end
theorem RepV.dp {p : PV} {d : PyData} (h : RepV C ι H x p) (e : toD p = some d) : Dp C.K H x d := by
  cases h with
  | of h => exact h.dp e
  | lst a b =>
    simp only [toD, Option.map_eq_some_iff] at e
    obtain ⟨ds, e1, e2⟩ := e
    subst e2
    exact .lst (SqL.of a) (b.dp e1)
  | dct a b => cases e
end
end PM
set_option Elab.async false
set_option linter.all false
set_option maxRecDepth 100000
set_option maxHeartbeats 4000000
/-! PM4: operators by values. -/
namespace PM
open PySem PySem.Spec PyProof.Rows L2 LamX

def opOf : Bop → Operator
  | .add => .Add | .sub => .Sub | .mul => .Mult | .fdiv => .FloorDiv | .mod => .Mod | .pow => .Pow
theorem SZ_eq : SZ = sizeLine := by rw [sizeLine_eq]; rfl
theorem sz_log {i : Int} (h : sz i = true) : i.natAbs.log2 < 5000 := by
  have h := of_decide_eq_true h
  exact PySem.Flt.log2_lt_of (by decide) h
/-- a two-place operation that the evaluator tells -/
def rOp (F : Fm) (f : PV → PV → Option PV) : R2 := fun x y H Q => ∃ (ρ : Env) (st : Store) (ι : List Addr) (σ' : L2.St) (u v : PV),
  F.Rl ρ st ι σ' H ∧ RepV F.C ι H x u ∧ RepV F.C ι H y v ∧ Aft F (rpV F) ρ ι σ' H (giv (f u v) st) Q
section
variable {F : Fm} {X : Cx}
/-- a new tuple, a new list are told -/
theorem Rel.tupN {C : Ct} {T : List (Addr × Str)} {ι0 ι : List Addr} {H0 H : Hp} {ρ : Env} {st : Store} {σ : L2.St} {p : Addr} {xs : List V} {ps : List PV} (R : Rel C T ι0 H0 ρ st ι σ H) (hp : H p = none) (r : Reps C ι H xs ps) :
    Step ι H ι (upd H p (.tup xs)) ∧ Rel C T ι0 H0 ρ st ι σ (upd H p (.tup xs)) ∧ Rep C ι (upd H p (.tup xs)) (.ref p) (.tup ps) :=
  ⟨step_new hp, R.new hp, .tup (.inl ⟨.inl upd_same, R.fresh hp⟩) (r.mono (step_new hp))⟩
theorem Rel.lstN {C : Ct} {T : List (Addr × Str)} {ι0 ι : List Addr} {H0 H : Hp} {ρ : Env} {st : Store} {σ : L2.St} {p : Addr} {xs : List V} {ps : List PV} (R : Rel C T ι0 H0 ρ st ι σ H) (hp : H p = none) (r : Reps C ι H xs ps) :
    Step ι H ι (upd H p (.lst xs)) ∧ Rel C T ι0 H0 ρ st ι σ (upd H p (.lst xs)) ∧ Rep C ι (upd H p (.lst xs)) (.ref p) (.lst ps) :=
  ⟨step_new hp, R.new hp, .lst upd_same (R.fresh hp) (r.mono (step_new hp))⟩

theorem Rel.dctN {C : Ct} {T : List (Addr × Str)} {ι0 ι : List Addr} {H0 H : Hp} {ρ : Env} {st : Store} {σ : L2.St} {p : Addr} {kvs : List (Key × V)} {vs : List PV} (R : Rel C T ι0 H0 ρ st ι σ H) (hp : H p = none) (r : Reps C ι H (kvs.map (·.2)) vs) :
    Step ι H ι (upd H p (.dK kvs)) ∧ Rel C T ι0 H0 ρ st ι σ (upd H p (.dK kvs)) ∧ Rep C ι (upd H p (.dK kvs)) (.ref p) (.dct (kvs.map fun p => keyPV p.1) vs) :=
  ⟨step_new hp, R.new hp, .dct upd_same (R.fresh hp) (r.mono (step_new hp))⟩
theorem Rep.of_tup {C : Ct} {ι : List Addr} {H : Hp} {x : V} {ps : List PV} (h : RepV C ι H x (.tup ps)) : Rep C ι H x (.tup ps) := by cases h with | of h => exact h

/-! ### arithmetic -/
theorem op_powW : OpR X (binaryOp .Pow) (rI (fun i j => 0 ≤ j ∧ ((i.natAbs.log2 : Int) + 1) * j ≤ 2 ^ 27) fun i j => .int (i ^ j.toNat)) := opI fun i j _ _ _ _ _ hc q => by
  refine pow_int hc.1 (Int.le_trans (Int.mul_le_mul_of_nonneg_right ?_ hc.1) hc.2) q
  have : Builtin.Int.intBits i ≤ i.natAbs.log2 + 1 := by
    unfold Builtin.Int.intBits
    split <;> omega
  omega
theorem size_rep2 (its : List Value) (m : Nat) : (List.foldl (fun x1 x2 => x1 ++ x2) #[] (List.replicate m its.toArray)) = (List.replicate m its).flatten.toArray := size_rep its m

theorem tuple_mulS (l : Addr) (items : Array Value) (n : Nat) (dd : Option Addr) (sl : Array (Option Value)) (x : Int) (u : Tok) (c0 : (decide (x < -(2 ^ 63)) || decide (x ≥ 2 ^ 63)) = false) (c1 : (items.isEmpty || x == 1) = true) :
    Meets (Builtin.«tuple.__mul__» ⟨[.ref l, .int x u], []⟩) (fun _ R s => s.heap.get? l = some { cls := .type "tuple", dict := dd, data := .seq items n, slots := sl } ∧ R (.ok (.ret (Value.ref l))) s) :=
  .of_wp fun prog w A R s h => by
    obtain ⟨hp, g, d, tk, os⟩ := s
    obtain ⟨hl, h⟩ := h
    have f1 := AutoSeq1.idx_int
    wp_walk using wpAny_loadPart' hl
    repeat (first
      | (refine wpAny_ite_false (decide_eq_false (by rw [c0]; exact Bool.false_ne_true)) ?_; wp_walk using wpAny_loadPart' hl)
      | (refine wpAny_ite_true (decide_eq_true c1) ?_; wp_walk using wpAny_loadPart' hl))
    exact ⟨_, rfl, h⟩
theorem tuple_mulE (l : Addr) (items : Array Value) (n : Nat) (dd : Option Addr) (sl : Array (Option Value)) (x : Int) (u : Tok) (c0 : (decide (x < -(2 ^ 63)) || decide (x ≥ 2 ^ 63)) = false) (c1 : (items.isEmpty || x == 1) = false) (c2 : (decide (x ≤ 0) || items.isEmpty) = true) :
    Meets (Builtin.«tuple.__mul__» ⟨[.ref l, .int x u], []⟩) (fun _ R s => s.heap.get? l = some { cls := .type "tuple", dict := dd, data := .seq items n, slots := sl } ∧
      R (.ok (.ret (Value.ref s.heap.objs.size))) { s with heap := s.heap.push { cls := Value.type "tuple", data := Data.seq #[] }, toks := s.toks }) :=
  .of_wp fun prog w A R s h => by
    obtain ⟨hp, g, d, tk, os⟩ := s
    obtain ⟨hl, h⟩ := h
    have f1 := AutoSeq1.idx_int
    wp_walk using wpAny_loadPart' hl
    repeat (first
      | (refine wpAny_ite_false (decide_eq_false (by rw [c0]; exact Bool.false_ne_true)) ?_; wp_walk using wpAny_loadPart' hl)
      | (refine wpAny_ite_false (decide_eq_false (by rw [c1]; exact Bool.false_ne_true)) ?_; wp_walk using wpAny_loadPart' hl)
      | (refine wpAny_ite_true (decide_eq_true c2) ?_; wp_walk using wpAny_loadPart' hl))
    exact ⟨_, rfl, h⟩
end
section
variable {F : Fm} {X : Cx}
def rRepTA (K : PySem.W.Frag) : R2 := fun x y H Q => ∃ l k xs, x = .ref l ∧ y = .int k ∧ SqT K H l xs ∧ -(2 ^ 62) ≤ k ∧ k < 2 ^ 62 ∧ xs.length * k.toNat ≤ sizeLine ∧
  ((xs = [] ∨ k = 1) → Q (.ref l) H) ∧ (xs ≠ [] → k ≠ 1 → ∀ p, H p = none → Q (.ref p) (upd H p (.tup (List.replicate k.toNat xs).flatten)))
theorem op_repTA : OpR X (binaryOp .Mult) (rRepTA X.K) := by
  intro pins s σ H x y v u Q I rx ry h
  obtain ⟨l, k, xs, rfl, rfl, hT, h1, h2, hz, q1, q2⟩ := h
  cases rx
  obtain ⟨t, rfl⟩ := ry
  obtain ⟨its, r, ⟨⟨cls, dd, data, sl⟩, ho, hc, n, hd⟩, hs⟩ := I.tuple hT
  simp only at hc hd
  subst hc hd
  have hle : its.length = xs.length := r.length.symm
  have hsz0 : its.toArray.size = xs.length := by rw [List.size_toArray, hle]
  have c0 : (decide (k < -(2 ^ 63)) || decide (k ≥ 2 ^ 63)) = false := by
    rw [decide_eq_false (by omega), decide_eq_false (by omega)] <;> rfl
  have go : ∀ {R : Value → Shared → Prop}, wpAny (model X.prog X.w) X.A (call (.builtin "tuple.__mul__") [.ref l, .int k t]) R X.xe s → wpAny (model X.prog X.w) X.A (binaryOp .Mult (.ref l) (.int k t)) R X.xe s := fun {R} hq =>
    wpAny_binaryOp_repeat_ref (T := "tuple") (U := "int") (by decide) ⟨_, ho, rfl⟩ (fun s' => typeIs_int s' k t) noFill_tuple_mul F.fills_int_mul F.slot_int_rmul repeat_tuple F.slot_int_index.lookup
    (call_meets F.slot_int_rmul (typeIs_int s k t) F.entry_int_rmul (F.args_int_rmul_2 _ _) (int_rmul_tuple k t l its.toArray n dd sl) ⟨ho, rfl, ⟨_, ho, rfl⟩, hq⟩)
  by_cases e1 : xs = [] ∨ k = 1
  · refine go (call_meets F.slot_tuple_mul ⟨_, ho, rfl⟩ F.entry_tuple_mul (F.args_tuple_mul_2 _ _) (tuple_mulS l its.toArray n dd sl k t c0 ?_) ⟨ho, .ref l, H, I, rfl, q1 e1⟩)
    rcases e1 with e1 | e1
    · subst e1
      cases its with
      | nil => rfl
      | cons a b => simp at hle
    · subst e1; simp
  · have hne : xs ≠ [] := fun z => e1 (.inl z)
    have hk1 : k ≠ 1 := fun z => e1 (.inr z)
    have hi : its.toArray.isEmpty = false := by
      cases its with
      | nil => exact absurd (List.eq_nil_of_length_eq_zero hle.symm) hne
      | cons a b => rfl
    have c1 : (its.toArray.isEmpty || k == 1) = false := by
      rw [hi, Bool.false_or]
      exact beq_eq_false_iff_ne.mpr hk1
    have hn : H s.heap.objs.size = none := I.hok.fresh (Nat.le_refl _)
    have flen : (List.replicate k.toNat its).flatten.length ≤ sizeLine := by
      rw [PyProof.Rows.lm_len_rep_flat, hle, Nat.mul_comm]
      exact hz
    have fin : ∀ {tk : Nat}, EP X pins σ Q (.ref s.heap.objs.size) { s with heap := s.heap.push { cls := Value.type "tuple", data := Data.seq (List.replicate k.toNat its).flatten.toArray }, toks := tk } := fun {tk} => by
      refine ⟨.ref s.heap.objs.size, _, I.laid (t' := tk) (fun b o e => Heap.get?_push_of_some _ e) (Nat.le_refl _) ?_, rfl, q2 hne hk1 _ hn⟩
      refine ⟨?_, (List.replicate k.toNat its).flatten, Vals.rep r k.toNat, ⟨_, Heap.get?_push_size s.heap rfl, rfl, 0, rfl⟩⟩
      rw [PyProof.Rows.lm_len_rep_flat, Nat.mul_comm]
      exact hz
    by_cases hk : k ≤ 0
    · have c2 : (decide (k ≤ 0) || its.toArray.isEmpty) = true := by rw [decide_eq_true hk]; rfl
      refine go (call_meets F.slot_tuple_mul ⟨_, ho, rfl⟩ F.entry_tuple_mul (F.args_tuple_mul_2 _ _) (tuple_mulE l its.toArray n dd sl k t c0 c1 c2) ⟨ho, ?_⟩)
      have f := @fin s.toks
      have z : k.toNat = 0 := by omega
      rw [z] at f
      exact f
    · have c2 : (decide (k ≤ 0) || its.toArray.isEmpty) = false := by
        rw [hi, Bool.or_false]
        exact decide_eq_false hk
      have hm : ((its.toArray.size : Nat) : Int) * k ≤ 16777216 := by
        rw [hsz0]
        rw [sizeLine_eq] at hz
        have e : ((xs.length * k.toNat : Nat) : Int) ≤ 16777216 := by omega
        rw [Int.natCast_mul] at e
        have e2 : ((k.toNat : Nat) : Int) = k := by omega
        rwa [e2] at e
      have c4 : Builtin.Tuple.tupleTooMany (((its.toArray.size : Nat) : Int) * k) = false := by
        unfold Builtin.Tuple.tupleTooMany
        rw [sizeLine_eq]
        exact decide_eq_false (by omega)
      refine go (call_meets F.slot_tuple_mul ⟨_, ho, rfl⟩ F.entry_tuple_mul (F.args_tuple_mul_2 _ _) (tuple_mulW l its.toArray n dd sl k t c0 c1 c2 (by omega) c4 (by rw [size_rep, List.size_toArray]; exact flen)) ⟨ho, ?_⟩)
      rw [size_rep]
      exact fin
theorem allI_none_of {ps : List PV} : True := True.intro
theorem op_bin (hK : X.K = F.C.K) (o : Bop) : OpR X (binaryOp (opOf o)) (rOp F (binV o)) := by
  intro pins s σ H x y v u Q I rx ry ⟨ρ, st, ι, σ', p, q, R, rp, rq, h⟩
  obtain ⟨z, e, h⟩ := Aft.giv h
  have ok : ∀ {w : V}, Rep F.C ι H w z → Q w H := fun {w} r => Aft.ok h R r
  have okT : ∀ {l : Addr} {xs : List V} {ps : List PV}, z = .tup ps → Reps F.C ι H xs ps → H l = none → Q (.ref l) (upd H l (.tup xs)) := fun {l xs ps} ez r hl => by
    subst ez
    obtain ⟨s1, R1, r1⟩ := R.tupN hl r
    exact h _ _ _ s1 R1 r1
  have okL : ∀ {l : Addr} {xs : List V} {ps : List PV}, z = .lst ps → Reps F.C ι H xs ps → H l = none → Q (.ref l) (upd H l (.lst xs)) := fun {l xs ps} ez r hl => by
    subst ez
    obtain ⟨s1, R1, r1⟩ := R.lstN hl r
    exact h _ _ _ s1 R1 r1
  have zs : (SZ : Nat) = sizeLine := SZ_eq
  cases o with
  | add =>
    simp only [binV] at e
    split at e
    · rename_i i j
      cases e
      exact op_add pins s σ H x y v u Q I rx ry ⟨i, j, rp.intI, rq.intI, ok (.int _)⟩
    · rename_i a b
      split at e
      · rename_i hz
        cases e
        exact op_add_str pins s σ H x y v u Q I rx ry ⟨a, b, rp.strI, rq.strI, by rw [← zs]; exact hz, ok (.str _)⟩
      · cases e
    · rename_i a b
      split at e
      · rename_i hz
        cases e
        obtain ⟨l, xs, rfl, hx, r1⟩ := rp.tupI
        obtain ⟨m, ys, rfl, hy, r2⟩ := rq.tupI
        refine op_catA pins s σ H _ _ v u Q I rx ry ⟨l, m, xs, ys, rfl, rfl, by rw [hK]; exact hx, by rw [hK]; exact hy, by rw [r1.length, r2.length, ← zs]; exact hz, fun e => ?_, fun _ e => ?_, fun _ _ l' hl => okT rfl (r1.append r2) hl⟩
        · subst e
          cases r1
          exact ok (Rep.of_tup rq)
        · subst e
          cases r2
          exact ok (by rw [List.append_nil]; exact Rep.of_tup rp)
      · cases e
    · rename_i a b
      split at e
      · rename_i hz
        cases e
        obtain ⟨l, xs, rfl, hx, r1⟩ := rp.lstI
        obtain ⟨m, ys, rfl, hy, r2⟩ := rq.lstI
        exact op_cat pins s σ H _ _ v u Q I rx ry ⟨l, m, xs, ys, rfl, rfl, hx, hy, by rw [r1.length, r2.length, ← zs]; exact hz, fun l' hl => okL rfl (r1.append r2) hl⟩
      · cases e
    · cases e
  | sub =>
    simp only [binV] at e
    split at e
    · rename_i i j
      cases e
      exact op_sub pins s σ H x y v u Q I rx ry ⟨i, j, rp.intI, rq.intI, ok (.int _)⟩
    · cases e
  | mul =>
    simp only [binV] at e
    split at e
    · rename_i i j
      split at e
      · rename_i hz
        cases e
        simp only [Bool.and_eq_true] at hz
        exact op_mulW pins s σ H x y v u Q I rx ry ⟨i, j, rp.intI, rq.intI, by have := sz_log hz.1; have := sz_log hz.2; unfold CMulW; omega, ok (.int _)⟩
      · cases e
    · rename_i a k
      split at e
      · rename_i hz
        cases e
        obtain ⟨l, xs, rfl, hx, r1⟩ := rp.tupI
        refine op_repTA pins s σ H _ _ v u Q I rx ry ⟨l, k, xs, rfl, rq.intI, by rw [hK]; exact hx, hz.2.1, hz.2.2, by rw [r1.length, ← zs]; exact hz.1, fun e => ?_, fun _ _ l' hl => okT rfl (r1.rep _) hl⟩
        rcases e with e | e
        · subst e
          cases r1
          exact ok (by simpa using Rep.of_tup rp)
        · subst e
          exact ok (by simpa using Rep.of_tup rp)
      · cases e
    · rename_i a k
      split at e
      · rename_i hz
        cases e
        obtain ⟨l, xs, rfl, hx, r1⟩ := rp.lstI
        exact op_rep pins s σ H _ _ v u Q I rx ry ⟨l, k, xs, rfl, rq.intI, hx, by omega, by omega, by rw [r1.length, ← zs]; exact hz.1, fun l' hl => okL rfl (r1.rep _) hl⟩
      · cases e
    · cases e
  | fdiv =>
    simp only [binV] at e
    split at e
    · rename_i i j
      split at e
      · rename_i hz
        cases e
        simp only [Bool.and_eq_true, decide_eq_true_eq] at hz
        exact op_fdivW pins s σ H x y v u Q I rx ry ⟨i, j, rp.intI, rq.intI, ⟨hz.1, by have := sz_log hz.2; omega⟩, ok (.int _)⟩
      · cases e
    · cases e
  | mod =>
    simp only [binV] at e
    split at e
    · rename_i i j
      split at e
      · rename_i hz
        cases e
        exact op_mod pins s σ H x y v u Q I rx ry ⟨i, j, rp.intI, rq.intI, hz, ok (.int _)⟩
      · cases e
    · cases e
  | pow =>
    simp only [binV] at e
    split at e
    · rename_i i j
      split at e
      · rename_i hz
        cases e
        exact op_powW pins s σ H x y v u Q I rx ry ⟨i, j, rp.intI, rq.intI, hz, ok (.int _)⟩
      · cases e
    · cases e
end
end PM
set_option Elab.async false
set_option linter.all false
set_option maxRecDepth 100000
set_option maxHeartbeats 4000000
/-! PM5: comparisons, truth, items, slices by values. -/
namespace PM
open PySem PySem.Spec PyProof.Rows L2 LamX

def copOf : Cop → CmpOp
  | .eq => .Eq | .ne => .NotEq | .lt => .Lt | .le => .LtE | .gt => .Gt | .ge => .GtE | .isN => .Is | .notN => .IsNot | .isin => .In | .notin => .NotIn
theorem ltInts_eq : ∀ {xs ys : List PV} {b : Bool}, ltInts xs ys = some b → ∃ ns ms, allI xs = some ns ∧ allI ys = some ms ∧ HT.lexLt ns ms = b
  | [], [], b, h => by simp [ltInts] at h; subst h; exact ⟨[], [], rfl, rfl, rfl⟩
  | [], y :: ys, b, h => by
    cases y with
    | int j =>
      simp only [ltInts] at h
      cases e : ltInts [] ys with
      | none => rw [e] at h; cases h
      | some c =>
        rw [e] at h
        cases h
        obtain ⟨ns, ms, e1, e2, _⟩ := ltInts_eq e
        exact ⟨[], j :: ms, rfl, by simp [allI, e2], rfl⟩
    | _ => simp [ltInts] at h
  | x :: xs, [], b, h => by
    cases x with
    | int j =>
      simp only [ltInts] at h
      cases e : ltInts xs [] with
      | none => rw [e] at h; cases h
      | some c =>
        rw [e] at h
        cases h
        obtain ⟨ns, ms, e1, e2, _⟩ := ltInts_eq e
        exact ⟨j :: ns, [], by simp [allI, e1], rfl, rfl⟩
    | _ => simp [ltInts] at h
  | x :: xs, y :: ys, b, h => by
    cases x with
    | int i =>
      cases y with
      | int j =>
        simp only [ltInts] at h
        cases e : ltInts xs ys with
        | none => rw [e] at h; cases h
        | some c =>
          rw [e] at h
          cases h
          obtain ⟨ns, ms, e1, e2, e3⟩ := ltInts_eq e
          exact ⟨i :: ns, j :: ms, by simp [allI, e1], by simp [allI, e2], by rw [HT.lexLt_cons, e3]⟩
      | _ => simp [ltInts] at h
    | _ => cases y <;> simp [ltInts] at h
section
variable {F : Fm} {X : Cx}
theorem itemsD_dp {C : Ct} {ι : List Addr} {H : Hp} {x : V} {p : PV} {ds : List PyData} (h : RepV C ι H x p) (e : itemsD p = some ds) : Dp C.K H x (.list ds) ∨ Dp C.K H x (.tuple ds) := by
  cases p with
  | tup xs => exact .inr (h.dp (by simp [toD]; exact e))
  | lst xs => exact .inl (h.dp (by simp [toD]; exact e))
  | _ => cases e
theorem layD_plain {d : PyData} (h : layD d = true) : d.plain = true := (Bool.and_eq_true_iff.mp h).1
theorem layD_depth {d : PyData} (h : layD d = true) : d.depth ≤ 64 := of_decide_eq_true (Bool.and_eq_true_iff.mp h).2
theorem layD_room {A : Around} {xs : List PyData} {d : PyData} (hd : layD d = true) (hu : A.units + 65 < cLine) : A.units + 1 + min (PyData.depthAll xs) d.depth < cLine := by
  have h1 := layD_depth hd
  have h2 : min (PyData.depthAll xs) d.depth ≤ d.depth := Nat.min_le_right _ _
  omega
theorem layD_room2 {A : Around} {e d : PyData} (hd : layD d = true) (hu : A.units + 64 < cLine) : A.units + min d.depth e.depth < cLine := by
  have h1 := layD_depth hd
  have h2 : min d.depth e.depth ≤ d.depth := Nat.min_le_left _ _
  omega
theorem op_eqP (hu : X.A.units + 64 < cLine) : OpR X (compareOp .Eq) (fun x y H Q => ∃ d e, Dp X.K H x d ∧ Dp X.K H y e ∧ layD d = true ∧ layD e = true ∧ Q (.bl (PyData.eqv d e)) H) := by
  intro pins s σ H x y v u Q I rx ry h
  obtain ⟨d, e, hd, he, sd, se, q⟩ := h
  obtain ⟨as, r1⟩ := Dp.reads I d x v hd rx
  obtain ⟨bs, r2⟩ := Dp.reads I e y u he ry
  exact SeqAt.eq_plain r1 r2 (layD_plain sd) (layD_plain se) (layD_room2 sd hu) ⟨.bl _, H, I, rfl, q⟩
theorem op_neP (hu : X.A.units + 64 < cLine) : OpR X (compareOp .NotEq) (fun x y H Q => ∃ d e, Dp X.K H x d ∧ Dp X.K H y e ∧ layD d = true ∧ layD e = true ∧ Q (.bl (!PyData.eqv d e)) H) := by
  intro pins s σ H x y v u Q I rx ry h
  obtain ⟨d, e, hd, he, sd, se, q⟩ := h
  obtain ⟨as, r1⟩ := Dp.reads I d x v hd rx
  obtain ⟨bs, r2⟩ := Dp.reads I e y u he ry
  exact SeqAt.ne_plain r1 r2 (layD_plain sd) (layD_plain se) (layD_room2 sd hu) ⟨.bl _, H, I, rfl, q⟩
/-- x in y, y a list or a tuple of data -/
theorem op_isin (hK : X.K = F.C.K) (hu : X.A.units + 65 < cLine) : OpR X (compareOp .In) (rOp F fun u v => (inD u v).map .bl) := by
  intro pins s σ H x y v u Q I rx ry ⟨ρ, st, ι, σ', p, q, R, rp, rq, h⟩
  obtain ⟨z, e0, h⟩ := Aft.giv h
  obtain ⟨b, e, e2⟩ := Option.map_eq_some_iff.mp e0
  clear e0
  subst e2
  unfold inD at e
  split at e
  · rename_i d ds h1 h2
    split at e
    · rename_i hl
      cases e
      simp only [Bool.and_eq_true] at hl
      have hd := rp.dp h1
      rw [← hK] at hd
      obtain ⟨as, r1⟩ := Dp.reads I d x v hd rx
      have q' := Aft.ok h R (x := .bl _) (.bl _)
      have hr : X.A.units + 1 + min (PyData.depthAll ds) d.depth < cLine := layD_room hl.1 hu
      rcases itemsD_dp rq h2 with hy | hy <;> rw [← hK] at hy
      · obtain ⟨bs, r2⟩ := Dp.reads I (.list ds) y u hy ry
        exact SeqAt.in_list_data r2 r1 (layD_plain hl.2) (layD_plain hl.1) hr ⟨.bl _, H, I, rfl, q'⟩
      · obtain ⟨bs, r2⟩ := Dp.reads I (.tuple ds) y u hy ry
        exact SeqAt.in_tuple_data r2 r1 (layD_plain hl.2) (layD_plain hl.1) hr ⟨.bl _, H, I, rfl, q'⟩
    · cases e
  · cases e
theorem op_notinD (hK : X.K = F.C.K) (hu : X.A.units + 65 < cLine) : OpR X (compareOp .NotIn) (rOp F fun u v => ((inD u v).map (!·)).map .bl) := by
  intro pins s σ H x y v u Q I rx ry ⟨ρ, st, ι, σ', p, q, R, rp, rq, h⟩
  obtain ⟨z, e0, h⟩ := Aft.giv h
  obtain ⟨b, e1, e2⟩ := Option.map_eq_some_iff.mp e0
  obtain ⟨b', e, e3⟩ := Option.map_eq_some_iff.mp e1
  clear e0 e1
  subst e2 e3
  unfold inD at e
  split at e
  · rename_i d ds h1 h2
    split at e
    · rename_i hl
      cases e
      simp only [Bool.and_eq_true] at hl
      have hd := rp.dp h1
      rw [← hK] at hd
      obtain ⟨as, r1⟩ := Dp.reads I d x v hd rx
      have q' := Aft.ok h R (x := .bl _) (.bl _)
      have hr : X.A.units + 1 + min (PyData.depthAll ds) d.depth < cLine := layD_room hl.1 hu
      rcases itemsD_dp rq h2 with hy | hy <;> rw [← hK] at hy
      · obtain ⟨bs, r2⟩ := Dp.reads I (.list ds) y u hy ry
        exact SeqAt.notIn_list_data r2 r1 (layD_plain hl.2) (layD_plain hl.1) hr ⟨.bl _, H, I, rfl, q'⟩
      · obtain ⟨bs, r2⟩ := Dp.reads I (.tuple ds) y u hy ry
        exact SeqAt.notIn_tuple_data r2 r1 (layD_plain hl.2) (layD_plain hl.1) hr ⟨.bl _, H, I, rfl, q'⟩
    · cases e
  · cases e
theorem isNon_iff {C : Ct} {ι : List Addr} {H : Hp} {x : V} {p : PV} (h : RepV C ι H x p) : decide (x = .non) = isNon p := by
  cases h with
  | of h => cases h <;> simp [isNon]
  | lst _ _ => simp [isNon]
  | dct _ _ => simp [isNon]
theorem op_cmp (hK : X.K = F.C.K) (hr : X.A.units + 65 < cLine) (o : Cop) : OpR X (compareOp (copOf o)) (rOp F fun u v => (cmpV o u v).map .bl) := by
  by_cases hi : o = .isin
  · subst hi; exact op_isin hK hr
  by_cases hi2 : o = .notin
  · subst hi2; exact op_notinD hK hr
  intro pins s σ H x y v u Q I rx ry ⟨ρ, st, ι, σ', p, q, R, rp, rq, h⟩
  obtain ⟨z, e0, h⟩ := Aft.giv h
  obtain ⟨b, e, e2⟩ := Option.map_eq_some_iff.mp e0
  clear e0
  subst e2
  have ok : Q (.bl b) H := Aft.ok h R (.bl b)
  have hu : X.A.units + 64 < cLine := by omega
  have eqs : ∀ {c : Bool}, eqD p q = some c → ∃ d e, Dp X.K H x d ∧ Dp X.K H y e ∧ layD d = true ∧ layD e = true ∧ PyData.eqv d e = c := fun {c} e => by
    unfold eqD at e
    split at e
    · rename_i d1 d2 h1 h2
      split at e
      · rename_i hl
        cases e
        simp only [Bool.and_eq_true] at hl
        exact ⟨d1, d2, by rw [hK]; exact rp.dp h1, by rw [hK]; exact rq.dp h2, hl.1, hl.2, rfl⟩
      · cases e
    · cases e
  cases o with
  | eq =>
    obtain ⟨d, e', a1, a2, a3, a4, a5⟩ := eqs e
    exact op_eqP hu pins s σ H x y v u Q I rx ry ⟨d, e', a1, a2, a3, a4, by rw [a5]; exact ok⟩
  | ne =>
    obtain ⟨b', e4, e3⟩ := Option.map_eq_some_iff.mp (show (eqD p q).map (!·) = some b from e)
    clear e
    subst e3
    obtain ⟨d, e', a1, a2, a3, a4, a5⟩ := eqs e4
    exact op_neP hu pins s σ H x y v u Q I rx ry ⟨d, e', a1, a2, a3, a4, by rw [a5]; exact ok⟩
  | lt =>
    simp only [cmpV, ltV] at e
    split at e
    · rename_i i j
      cases e
      exact op_lt pins s σ H x y v u Q I rx ry ⟨i, j, rp.intI, rq.intI, ok⟩
    · obtain ⟨l, xs, rfl, hx, r1⟩ := rp.tupI
      obtain ⟨m, ys, rfl, hy, r2⟩ := rq.tupI
      obtain ⟨ns, ms, e1, e2, e3⟩ := ltInts_eq e
      rw [r1.ints e1] at hx
      rw [r2.ints e2] at hy
      exact op_ltT (by omega) pins s σ H _ _ v u Q I rx ry ⟨l, m, ns, ms, rfl, rfl, by rw [hK]; exact hx, by rw [hK]; exact hy, by rw [e3]; exact ok⟩
    · cases e
  | le =>
    simp only [cmpV, leI] at e
    split at e
    · rename_i i j
      cases e
      exact op_le pins s σ H x y v u Q I rx ry ⟨i, j, rp.intI, rq.intI, ok⟩
    · cases e
  | gt =>
    simp only [cmpV] at e
    split at e
    · rename_i i j
      cases e
      exact op_gt pins s σ H x y v u Q I rx ry ⟨i, j, rp.intI, rq.intI, ok⟩
    · cases e
  | ge =>
    simp only [cmpV, leI] at e
    split at e
    · rename_i i j
      cases e
      exact op_ge pins s σ H x y v u Q I rx ry ⟨_, _, rp.intI, rq.intI, ok⟩
    · cases e
  | isN =>
    simp only [cmpV] at e
    split at e
    · cases e
      exact op_isN pins s σ H x y v u Q I rx ry ⟨rq.nonI, by rw [isNon_iff rp]; exact ok⟩
    · cases e
  | notN =>
    simp only [cmpV] at e
    split at e
    · cases e
      exact op_notN pins s σ H x y v u Q I rx ry ⟨rq.nonI, by rw [isNon_iff rp]; exact ok⟩
    · cases e
  | isin => exact absurd rfl hi
  | notin => exact absurd rfl hi2
/-- truth -/
theorem tru_of {C : Ct} {ι : List Addr} {H : Hp} {x : V} {p : PV} {b : Bool} (h : RepV C ι H x p) (e : truV p = some b) : TruV C.K x H b := by
  have zs : (SZ : Nat) = sizeLine := SZ_eq
  cases p with
  | non => have := h.nonI; subst this; cases e; rfl
  | bl c => have := h.blI; subst this; cases e; rfl
  | int i => have := h.intI; subst this; cases e; rfl
  | str s =>
    have := h.strI
    subst this
    simp only [truV] at e
    split at e
    · rename_i hz
      cases e
      exact ⟨by rw [← zs]; exact hz, rfl⟩
    · cases e
  | tup ps =>
    obtain ⟨a, xs, rfl, hx, r⟩ := h.tupI
    cases e
    refine .inr (.inl ⟨xs, hx, ?_⟩)
    cases r <;> rfl
  | lst ps =>
    obtain ⟨a, xs, rfl, hx, r⟩ := h.lstI
    cases e
    refine .inl ⟨xs, SqL.of hx, ?_⟩
    cases r <;> rfl
  | _ => cases e
/-- items -/
theorem Reps.atI {C : Ct} {ι : List Addr} {H : Hp} {xs : List V} {ps : List PV} {k : Int} {p : PV} (r : Reps C ι H xs ps) (e : atI ps k = some p) : ∃ x, L2.atI xs k = some x ∧ Rep C ι H x p := by
  unfold L2.atI at e ⊢
  rw [r.length]
  cases h : ixN ps.length k with
  | none => rw [h] at e; cases e
  | some j =>
    rw [h] at e
    exact r.get e
theorem ix_ok (hK : X.K = F.C.K) : IxR X (rOp F ixV) := by
  intro value slice pins s σ H x y v u Q I rx ry ⟨ρ, st, ι, σ', p, q, R, rp, rq, h⟩ hs
  obtain ⟨z, e, h⟩ := Aft.giv h
  have ok : ∀ {w : V}, Rep F.C ι H w z → Q w H := fun {w} r => Aft.ok h R r
  have zs : (SZ : Nat) = sizeLine := SZ_eq
  unfold ixV at e
  split at e
  · obtain ⟨l, xs, rfl, hx, r1⟩ := rp.tupI
    obtain ⟨w, e1, r⟩ := r1.atI e
    exact ix_tup value slice pins s σ H _ y v u Q I rx ry ⟨l, xs, _, w, rfl, rq.intI, by rw [hK]; exact hx, e1, ok r⟩ hs
  · obtain ⟨l, xs, rfl, hx, r1⟩ := rp.lstI
    obtain ⟨w, e1, r⟩ := r1.atI e
    exact ix_list value slice pins s σ H _ y v u Q I rx ry ⟨l, xs, _, w, rfl, rq.intI, SqL.of hx, e1, ok r⟩ hs
  · rename_i ns k
    obtain ⟨n, e1, e2⟩ := Option.map_eq_some_iff.mp e
    subst e2
    obtain ⟨l, rfl, hx⟩ := rp.scrI
    refine ix_list value slice pins s σ H _ y v u Q I rx ry ⟨l, _, k, .int n, rfl, rq.intI, by rw [hK]; exact hx, ?_, ok (.int n)⟩ hs
    unfold L2.atI at e1 ⊢
    rw [List.length_map]
    cases h : ixN ns.length k with
    | none => rw [h] at e1; cases e1
    | some j =>
      rw [h] at e1
      have e1 : ns[j]? = some n := e1
      show (ns.map V.int)[j]? = _
      rw [List.getElem?_map, e1]; rfl
  · rename_i a k
    split at e
    · rename_i hz
      obtain ⟨c, e1, e2⟩ := Option.map_eq_some_iff.mp e
      subst e2
      exact ix_str value slice pins s σ H _ y v u Q I rx ry ⟨a, k, c, rp.strI, rq.intI, by rw [← zs]; exact hz, e1, ok (.str _)⟩ hs
    · cases e
  · cases e
end
end PM
set_option Elab.async false
set_option linter.all false
set_option maxRecDepth 100000
set_option maxHeartbeats 4000000
/-! PM6: slices, the other way about. -/
namespace PM
open PySem PySem.Spec PyProof.Rows L2 LamX HT
section
variable {prog : Program} {w : World} {A : Around} {E : Value → Shared → Prop} {s : Shared}
theorem adjust_rev (n : Nat) : Builtin.Slice.sliceAdjust none none (-1) (n : Int) = ((n : Int) - 1, -1) := by
  unfold Builtin.Slice.sliceAdjust
  simp
theorem places_rev (n : Nat) : Builtin.Slice.slicePlaces ((n : Int) - 1) (-1) (-1) = n := by
  unfold Builtin.Slice.slicePlaces
  have h1 : ¬ ((-1 : Int) > 0) := by omega
  have h2 : (- (-1 : Int)) = 1 := rfl
  simp only [h1, if_false, h2, Int.ediv_one]
  split <;> omega
theorem fm_of {α β : Type} (f : α → Option β) (g : α → β) : ∀ l : List α, (∀ m ∈ l, f m = some (g m)) → l.filterMap f = l.map g
  | [], _ => rfl
  | a :: l, h => by
    rw [List.filterMap_cons, h a List.mem_cons_self, List.map_cons, fm_of f g l fun m hm => h m (List.mem_cons_of_mem _ hm)]
theorem sliceApplied_rev {sl : Addr} {vs : Value} {n : Nat} {Q : Int × Int × Nat → Shared → Prop} (hs : s.heap.IsSliceOf sl .none .none vs) (ps : IsPart vs (some (-1)))
    (h : Q (((n : Int) - 1), -1, n) s) : wpAny (model prog w) A (Builtin.Slice.sliceApplied (.ref sl) (pure (n : Int))) Q E s := by
  obtain ⟨os, hos, hcs, hds⟩ := id hs
  unfold Builtin.Slice.sliceApplied Builtin.Slice.sliceFields
  refine wpAny_bind (wpAny_bind (wpAny_field hos hds (x := .none) rfl (wpAny_bind (wpAny_field hos hds (x := .none) rfl (wpAny_bind (wpAny_field hos hds (x := vs) rfl (wpAny_pure ?_)))))))
  refine wpAny_bind (slicePart_ ps ?_)
  show wpAny _ _ (if ((-1 : Int) == 0) = true then _ else _) _ _ s
  rw [if_neg (by decide)]
  refine wpAny_bind (slicePart_none (wpAny_bind (slicePart_none (wpAny_bind (wpAny_pure ?_)))))
  show wpAny _ _ (match Builtin.Slice.sliceAdjust none none (-1) (n : Int) with | (lo, hi) => pure (lo, (-1 : Int), Builtin.Slice.slicePlaces lo hi (-1))) _ _ s
  rw [adjust_rev n]
  show wpAny _ _ (pure ((n : Int) - 1, (-1 : Int), Builtin.Slice.slicePlaces ((n : Int) - 1) (-1) (-1))) _ _ s
  rw [places_rev]
  exact wpAny_pure h
theorem pick_rev (xs : Array Value) : ((List.range xs.size).filterMap fun (m : Nat) => xs[(((xs.size : Int) - 1) + (m : Int) * (-1)).toNat]?).toArray = xs.toList.reverse.toArray := by
  congr 1
  apply List.ext_getElem?
  intro i
  have e : (List.range xs.size).filterMap (fun (m : Nat) => xs[(((xs.size : Int) - 1) + (m : Int) * (-1)).toNat]?) = (List.range xs.size).map (fun (m : Nat) => xs.toList.reverse.getD m .none) := by
    apply fm_of
    intro m hm
    have hm : m < xs.size := List.mem_range.mp hm
    have e1 : (((xs.size : Int) - 1) + (m : Int) * (-1)).toNat = xs.size - 1 - m := by omega
    rw [e1]
    have e2 : xs[xs.size - 1 - m]? = some xs[xs.size - 1 - m] := by simp
    rw [e2]
    congr 1
    rw [List.getD_eq_getElem?_getD, List.getElem?_reverse (by simpa using hm)]
    simp only [Array.length_toList, Array.getElem?_toList]
    rw [e2]; rfl
  rw [e, List.getElem?_map]
  by_cases hi : i < xs.size
  · rw [List.getElem?_range hi]
    simp only [Option.map_some]
    rw [List.getD_eq_getElem?_getD]
    have : i < xs.toList.reverse.length := by simpa using hi
    rw [List.getElem?_eq_getElem this]
    rfl
  · rw [List.getElem?_eq_none (by simpa using hi), List.getElem?_eq_none (by simpa using hi)]
    rfl
theorem getItem_tuple_rev {t sl : Addr} {items : Array Value} {vs : Value} {Q : Value → Shared → Prop} (ht : IsTup s.heap t items) (hs : s.heap.IsSliceOf sl .none .none vs) (ps : IsPart vs (some (-1)))
    (h : Q (.ref s.heap.objs.size) { s with heap := s.heap.push { cls := .type "tuple", data := .seq items.toList.reverse.toArray } })
    (hsz : items.size ≤ sizeLine) : wpAny (model prog w) A (getItem (.ref t) (.ref sl)) Q E s := by
  have htake : sizeOk (.seq items.toList.reverse.toArray) := by
    show items.toList.reverse.toArray.size ≤ sizeLine
    simpa using hsz
  obtain ⟨os, hos, hcs, hds⟩ := id hs
  have hTs : s.TypeIs (.ref sl) "slice" := ⟨os, hos, hcs⟩
  unfold getItem
  try with_reducible refine wpAny_holding ?_
  first | refine wpAny_bind (wpAny_pure ?_) | skip
  refine wpAny_bind (wpAny_sequenceKey ht.typeIs (by decide) ?_)
  refine wpAny_bind (wpAny_callSpecial?_slot (name := Str.ofString "__getitem__") ht.typeIs PyProof.Rows.slot_tuple_getitem
    (wpAny_call_entry PyProof.Rows.slot_tuple_getitem ht.typeIs entry_tuple_getitem ?_ (args_tuple_getitem _ _)))
  show wpAny _ _ (Builtin.Tuple.tupleItemsOf (.ref t) >>= _) _ _ s
  refine wpAny_bind (tupleItemsOf_ ht ?_)
  refine wpAny_bind (wpAny_typeOf hTs ?_)
  rw [if_pos (by decide)]
  refine wpAny_bind (sliceApplied_rev hs ps ?_)
  have hno : ¬ ((((items.size : Int) - 1) == 0 && (-1 : Int) == 1 && items.size == items.size) = true) := by simp
  show wpAny _ _ (if (((items.size : Int) - 1) == 0 && (-1 : Int) == 1 && items.size == items.size) = true then _ else _) _ _ s
  rw [if_neg hno, pick_rev]
  first
    | exact wpAny_bind (m := Builtin.Tuple.tupleExact _) (wpAny_newObj_type (wpAny_pure ⟨_, rfl, wpAny_pure h⟩) htake)
    | exact wpAny_bind (m := Builtin.Tuple.tupleExact _) (wpAny_newObj_type (wpAny_bind (wpAny_pure (wpAny_pure ⟨_, rfl, wpAny_pure h⟩))) htake)
    | exact wpAny_bind (wpAny_bind (m := Builtin.Tuple.tupleExact _) (wpAny_newObj_type (wpAny_pure (wpAny_pure ⟨_, rfl, wpAny_pure h⟩)) htake))
    | exact wpAny_bind (wpAny_bind (m := Builtin.Tuple.tupleExact _) (wpAny_newObj_type (wpAny_pure ⟨_, rfl, wpAny_pure h⟩) htake))
end
section
variable {F : Fm} {X : Cx}
/-- xs[::-1], a list or a tuple -/
def tRevA (K : PySem.W.Frag) (te : TE) : TE := fun σ H Q => te σ H fun x H1 => (∃ a xs, x = .ref a ∧ SqL K H1 a xs ∧ ∀ p, H1 p = none → Q (.ref p) (upd H1 p (.lst xs.reverse))) ∨
  (∃ a xs, x = .ref a ∧ SqT K H1 a xs ∧ ∀ p, H1 p = none → Q (.ref p) (upd H1 p (.tup xs.reverse)))
theorem pe_revA {e : Expr} {te : TE} {k : Nat} {p1 p2 p3 pos : Pos} (he : PE X e te) : PE X (.Subscript e (.Slice none none (some (.UnaryOp .USub (.Constant (.int 1) k p1) p2)) p3) pos) (tRevA X.K te) := by
  refine ⟨fun pins s σ H Q I h => ?_⟩
  refine Subscript_ (thn (he.run pins s σ H _ I h) fun v s1 ⟨x, H1, I1, r1, q1⟩ => ?_)
  have hst : PO X (some (.UnaryOp .USub (.Constant (.int 1) k p1) p2)) (tPart (tUn (rU fun i => .int (-i)) (tC (.int 1)))) := po_some (pe_un un_neg pe_int)
  refine wpAny_Slice (thn (po_none.run pins s1 σ H1 (fun o H2 => o = none ∧ H2 = H1) I1 ⟨rfl, rfl⟩) fun vl s2 ⟨l, H2, I2, pl, el, e2⟩ => ?_)
  subst el e2
  refine thn (po_none.run pins s2 σ H2 (fun o H3 => o = none ∧ H3 = H2) I2 ⟨rfl, rfl⟩) fun vu s3 ⟨u, H3, I3, pu, eu, e3⟩ => ?_
  subst eu e3
  refine thn (hst.run pins s3 σ H3 (fun o H4 => o = some (-1) ∧ H4 = H3) I3 ⟨1, rfl, -1, rfl, rfl, rfl⟩) fun vs s4 ⟨o, H4, I4, ps, eo, e4⟩ => ?_
  subst eo e4
  have I5 : L2.Inv X pins σ H4 { s4 with heap := s4.heap.push { cls := .type "slice", data := .fields #[vl, vu, vs] } } := I4.kept (t' := s4.toks) fun b ob q => Heap.get?_push_of_some _ q
  rcases q1 with ⟨a, xs, ex, hx, q⟩ | ⟨a, xs, ex, hx, q⟩
  · subst ex
    cases r1
    obtain ⟨its, r, ht, hz⟩ := I5.list hx
    have hlen := r.length
    show wpAny (model X.prog X.w) X.A (subscriptTail e (.Slice none none (some (.UnaryOp .USub (.Constant (.int 1) k p1) p2)) p3) (.ref a) (.ref s4.heap.objs.size)) (EP X pins σ Q) X.xe { s4 with heap := s4.heap.push { cls := .type "slice", data := .fields #[vl, vu, vs] } }
    refine tail_any (ops := [.ref a, .ref s4.heap.objs.size]) ht.isList.typeIs (PySem.slot_list_getitem.lookup) ?_ (by with_unfolding_all rfl)
    refine wpAny_getItem_list_slice ht.isList (Heap.IsSliceOf.new _ vl vu vs) pl pu ps (by decide) ?_ (by rw [List.size_toArray]; omega)
    rw [PySem.W.krv_pick]
    refine ⟨.ref _, _, I5.laid (t' := s4.toks) (o := .lst xs.reverse) (fun b ob q => Heap.get?_push_of_some _ q) (Nat.le_refl _) ?_, rfl, q _ (I5.hok.fresh (Nat.le_refl _))⟩
    exact ⟨by rw [List.length_reverse]; exact hz, _, 0, r.reverse, Heap.get?_push_size _ rfl⟩
  · subst ex
    cases r1
    obtain ⟨its, r, ht, hz⟩ := I5.tuple hx
    have hlen := r.length
    obtain ⟨rfl⟩ : vl = .none := by cases pl; rfl
    obtain ⟨rfl⟩ : vu = .none := by cases pu; rfl
    show wpAny (model X.prog X.w) X.A (subscriptTail e (.Slice none none (some (.UnaryOp .USub (.Constant (.int 1) k p1) p2)) p3) (.ref a) (.ref s4.heap.objs.size)) (EP X pins σ Q) X.xe { s4 with heap := s4.heap.push { cls := .type "slice", data := .fields #[.none, .none, vs] } }
    refine tail_any (ops := [.ref a, .ref s4.heap.objs.size]) ht.typeIs (PyProof.Rows.slot_tuple_getitem.lookup) ?_ (by with_unfolding_all rfl)
    refine getItem_tuple_rev ht (Heap.IsSliceOf.new _ .none .none vs) ps ?_ (by rw [List.size_toArray]; omega)
    refine ⟨.ref _, _, I5.laid (t' := s4.toks) (o := .tup xs.reverse) (fun b ob q => Heap.get?_push_of_some _ q) (Nat.le_refl _) ?_, rfl, q _ (I5.hok.fresh (Nat.le_refl _))⟩
    exact ⟨by rw [List.length_reverse]; exact hz, its.reverse, r.reverse, ⟨_, Heap.get?_push_size _ rfl, rfl, 0, rfl⟩⟩
/-- slices by values -/
def rSl (F : Fm) : V → Option Int → Option Int → Hp → VK → Prop := fun x lo hi H Q => ∃ (ρ : Env) (st : Store) (ι : List Addr) (σ' : L2.St) (u : PV),
  F.Rl ρ st ι σ' H ∧ RepV F.C ι H x u ∧ Aft F (rpV F) ρ ι σ' H (giv (slV u lo hi) st) Q
theorem Reps.cut {C : Ct} {ι : List Addr} {H : Hp} {xs : List V} {ps : List PV} (r : Reps C ι H xs ps) (lo hi : Option Int) : Reps C ι H (cutV xs lo hi) (PM.cut ps lo hi) := by
  unfold cutV PM.cut
  rw [r.length]
  exact (r.drop _).take _
theorem sl_ok (hK : X.K = F.C.K) : SlR X (rSl F) := by
  intro pins s σ H x v vl vu lo hi sl Q I rx hs pl pu ⟨ρ, st, ι, σ', p, R, rp, h⟩
  obtain ⟨z, e, h⟩ := Aft.giv h
  have zs : (SZ : Nat) = sizeLine := SZ_eq
  unfold slV at e
  split at e
  · rename_i qs
    cases e
    obtain ⟨a, xs, rfl, hx, r⟩ := rp.tupI
    refine sl_tupA pins s σ H _ v vl vu lo hi sl Q I rx hs pl pu ⟨a, xs, rfl, by rw [hK]; exact hx, fun hw => ?_, fun _ p hp => ?_⟩
    · refine Aft.ok h R (Rep.of_tup ?_)
      have : PM.cut qs lo hi = qs := by
        unfold PM.cut
        rw [← r.length, hw.1, hw.2]
        simp only [Nat.sub_zero, List.drop_zero]
        rw [r.length]
        exact List.take_length
      rw [this]
      exact rp
    · obtain ⟨s1, R1, r1⟩ := R.tupN hp (r.cut lo hi)
      exact h _ _ _ s1 R1 r1
  · cases e
    obtain ⟨a, xs, rfl, hx, r⟩ := rp.lstI
    refine sl_list pins s σ H _ v vl vu lo hi sl Q I rx hs pl pu ⟨a, xs, rfl, SqL.of hx, fun p hp => ?_⟩
    obtain ⟨s1, R1, r1⟩ := R.lstN hp (r.cut lo hi)
    exact h _ _ _ s1 R1 r1
  · rename_i ns
    cases e
    obtain ⟨a, rfl, hx⟩ := rp.scrI
    refine sl_list pins s σ H _ v vl vu lo hi sl Q I rx hs pl pu ⟨a, ns.map V.int, rfl, by rw [hK]; exact hx, fun p hp => ?_⟩
    have r : Reps F.C ι H (cutV (ns.map V.int) lo hi) ((cut ns lo hi).map .int) := by
      have := (Reps.of_ints (C := F.C) (ι := ι) (H := H) ns).cut lo hi
      have e : cut (ns.map PV.int) lo hi = (cut ns lo hi).map PV.int := by
        unfold PM.cut
        rw [List.length_map, List.map_take, List.map_drop]
      rwa [e] at this
    obtain ⟨s1, R1, r1⟩ := R.lstN hp r
    exact h _ _ _ s1 R1 r1
  · rename_i a
    split at e
    · rename_i hz
      cases e
      have ex := rp.strI
      subst ex
      exact sl_str pins s σ H _ v vl vu lo hi sl Q I rx hs pl pu ⟨a, rfl, by rw [← zs]; exact hz, Aft.ok h R (.str _)⟩
    · cases e
  · cases e
end
end PM
set_option Elab.async false
set_option linter.all false
set_option maxRecDepth 100000
set_option maxHeartbeats 4000000
/-! PM7: lists that are just made; built-in functions by values. -/
namespace PM
open PySem PySem.Spec PyProof.Rows L2 LamX
abbrev Ct.kill (C : Ct) (D : Addr) : Ct := { C with dead := D :: C.dead }
section
variable {C : Ct} {T : List (Addr × Str)} {ι0 ι ι' : List Addr} {H0 H H' : Hp} {ρ : Env} {st st' : Store} {σ : L2.St}
theorem mv_kill {p : Addr} {o : HO} (hp : H p = none) : Mv C (C.kill p) ι ι H (upd H p o) ι.length C.γ.length :=
  ⟨rfl, rfl, fun a u h _ _ => by rw [upd_ne (ne_of_none h hp)]; exact h, fun a u h n => ⟨n.1, fun z => by
    rcases List.mem_cons.mp z with z | z
    · rw [z, hp] at h; cases h
    · exact n.2 z⟩, fun _ _ _ e => e, fun _ _ _ e => e⟩
theorem Rep.kill {p : Addr} {o : HO} {x : V} {v : PV} (hp : H p = none) (r : Rep C ι H x v) : Rep (C.kill p) ι (upd H p o) x v := r.mv (mv_kill hp) r.cokR
theorem Reps.kill {p : Addr} {o : HO} {x : List V} {v : List PV} (hp : H p = none) (r : Reps C ι H x v) : Reps (C.kill p) ι (upd H p o) x v := r.mv (mv_kill hp) r.cokR
theorem Rel.kill {p : Addr} {xs : List V} (R : Rel C T ι0 H0 ρ st ι σ H) (hp : H p = none) : Rel (C.kill p) T ι0 H0 ρ st ι σ (upd H p (.lst xs)) := by
  have N := R.new (o := .lst xs) hp
  refine ⟨⟨N.rst.nd, N.rst.len, fun n a ob e1 e2 => ?_⟩, fun i v e => ?_, N.tab, N.tni, N.fr0, N.len, fun d hd => ?_, R.low, R.lown⟩
  · have h := R.rst.ob n a ob e1 e2
    have na : a ≠ p := fun z => (R.fresh hp).1 (by rw [← z]; exact List.mem_of_getElem? e1)
    cases ob with
    | lst qs => obtain ⟨z, ys, e, q⟩ := h; exact ⟨z, ys, by rw [upd_ne na]; exact e, q.kill hp⟩
    | dct ks vs => obtain ⟨z, z2, kvs, e, q1, q⟩ := h; exact ⟨z, z2, kvs, by rw [upd_ne na]; exact e, q1, q.kill hp⟩
  · obtain ⟨x, e1, e2⟩ := R.env i v e
    exact ⟨x, e1, e2.kill hp⟩
  · rcases List.mem_cons.mp hd with z | z
    · rw [z]
      exact ⟨(R.fresh hp).1, xs, upd_same⟩
    · exact N.ded d z
theorem mv_live {p : Addr} : Mv (C.kill p) C ι ι H H ι.length C.γ.length :=
  ⟨rfl, rfl, fun a u h _ _ => h, fun a u h n => ⟨n.1, fun z => n.2 (List.mem_cons_of_mem _ z)⟩, fun _ _ _ e => e, fun _ _ _ e => e⟩
theorem Rep.live {p : Addr} {x : V} {v : PV} (r : Rep (C.kill p) ι H x v) : Rep C ι H x v := by
  have k := r.cokR
  exact r.mv mv_live k
theorem Reps.live {p : Addr} {x : List V} {v : List PV} (r : Reps (C.kill p) ι H x v) : Reps C ι H x v := by
  have k := r.cokR
  exact r.mv mv_live k
theorem Rel.live {p : Addr} (R : Rel (C.kill p) T ι0 H0 ρ st ι σ H) : Rel C T ι0 H0 ρ st ι σ H := by
  refine ⟨⟨R.rst.nd, R.rst.len, fun n a ob e1 e2 => (R.rst.ob n a ob e1 e2).mvs Reps.live⟩, fun i v e => ?_, R.tab, R.tni, R.fr0, R.len, fun d hd => R.ded d (List.mem_cons_of_mem _ hd), R.low, R.lown⟩
  obtain ⟨x, e1, e2⟩ := R.env i v e
  exact ⟨x, e1, e2.live⟩
end
/-- what is wanted behind a list that is just made -/
def AftN (F : Fm) (ρ : Env) (ι : List Addr) (σ : L2.St) (H : Hp) (r : R (List PV)) (Q : VK) : Prop := match r with
  | .ok ps st' => ∀ (D : Addr) (xs : List V) (ι' : List Addr) (H' : Hp), Step ι H ι' H' → Rel (F.C.kill D) F.T F.ι0 F.H0 ρ st' ι' σ H' → F.H0 D = none → H D = none → D ∉ F.C.dead → H' D = some (.lst xs) → Reps (F.C.kill D) ι' H' xs ps → Q (.ref D) H'
  | .exc k v st' => ExcA F ρ ι σ H k v st'
  | .bad => False
def tN (F : Fm) (m : Env → Store → R (List PV)) : TE := fun σ H Q =>
  ∃ (ρ : Env) (st : Store) (ι : List Addr), F.Rl ρ st ι σ H ∧ AftN F ρ ι σ H (m ρ st) Q
section
variable {F : Fm} {ρ : Env} {ι ι1 : List Addr} {σ : L2.St} {H H1 : Hp} {st : Store} {Q : VK}
theorem AftN.step {r : R (List PV)} (h : AftN F ρ ι σ H r Q) (s : Step ι H ι1 H1) : AftN F ρ ι1 σ H1 r Q := by
  cases r with
  | ok a st' => exact fun D xs ι' H' s' R e1 e2 e3 e4 r => h D xs ι' H' (s.trans s') R e1 (s.there _ e2) e3 e4 r
  | exc k v st' => exact fun d x ι' H' s' R e n q => h d x ι' H' (s.trans s') R e n q
  | bad => exact h
/-- a list at a new place -/
theorem AftN.new {ps : List PV} (h : AftN F ρ ι σ H (.ok ps st) Q) (R : F.Rl ρ st ι σ H) {p : Addr} (hp : H p = none) {xs : List V} (r : Reps F.C ι H xs ps) : Q (.ref p) (upd H p (.lst xs)) :=
  h p xs ι _ (step_new hp) (R.kill hp) (R.fr0.there p hp) hp (R.fresh hp).2 upd_same (r.kill hp)
/-- it is told by content -/
theorem Aft.ofN {r : R (List PV)} (h : Aft F (rpV F) ρ ι σ H (bnd r fun ps st => .ok (.lst ps) st) Q) : AftN F ρ ι σ H r Q := by
  cases r with
  | ok ps st' =>
    intro D xs ι' H' s R e1 e2 e3 e4 r
    exact h (.ref D) ι' H' s R.live (.lst e4 ⟨(R.ded D List.mem_cons_self).1, e3⟩ r.live)
  | exc k v st' => exact h
  | bad => exact h
/-- it becomes one of the store -/
theorem Aft.ofM {r : R (List PV)} (h : Aft F (rpV F) ρ ι σ H (bnd r fun ps st => if nrfs ps then .ok (.ref st.length) (st ++ [.lst ps]) else .bad) Q) : AftN F ρ ι σ H r Q := by
  cases r with
  | ok ps st' =>
    intro D xs ι' H' s R e1 e2 e3 e4 r
    have h : Aft F (rpV F) ρ ι σ H (if nrfs ps = true then .ok (.ref st'.length) (st' ++ [.lst ps]) else .bad) Q := h
    split at h
    · rename_i hn
      obtain ⟨R', r'⟩ := R.adopt e4 e1 r hn e3
      refine h (.ref D) (ι' ++ [D]) H' ⟨?_, fun b u hb n t => s.keep b u hb n t, s.there⟩ R' r'
      obtain ⟨l, e, f⟩ := s.more
      refine ⟨l ++ [D], by rw [e, List.append_assoc], fun a ha => ?_⟩
      rcases List.mem_append.mp ha with z | z
      · exact f a z
      · rw [List.mem_singleton.mp z]; exact e2
    · exact h.elim
  | exc k v st' => exact h
  | bad => exact h
theorem tN.lst {m : Env → Store → R (List PV)} (h : tE F (fun ρ st => bnd (m ρ st) fun ps st => .ok (.lst ps) st) σ H Q) : tN F m σ H Q := by
  obtain ⟨ρ, st, ι, R, h⟩ := h
  exact ⟨ρ, st, ι, R, Aft.ofN h⟩
theorem tN.mut {m : Env → Store → R (List PV)} (h : tE F (fun ρ st => bnd (m ρ st) fun ps st => if nrfs ps then .ok (.ref st.length) (st ++ [.lst ps]) else .bad) σ H Q) : tN F m σ H Q := by
  obtain ⟨ρ, st, ι, R, h⟩ := h
  exact ⟨ρ, st, ι, R, Aft.ofM h⟩
end
/-! ### built-in functions -/
inductive RepVs (C : Ct) (ι : List Addr) (H : Hp) : List V → List PV → Prop
  | nil : RepVs C ι H [] []
  | cons {x : V} {xs : List V} {p : PV} {ps : List PV} : RepV C ι H x p → RepVs C ι H xs ps → RepVs C ι H (x :: xs) (p :: ps)
theorem RSt.views {C : Ct} {ι : List Addr} {H : Hp} {st : Store} (r : RSt C ι H st) : ∀ {xs : List V} {ps : List PV}, Reps C ι H xs ps → RepVs C ι H xs (ps.map (PM.view st))
  | _, _, .nil => .nil
  | _, _, .cons a t => .cons (r.view a) (RSt.views r t)
/-- a call that the evaluator tells -/
def rF (F : Fm) (f : List PV → Option PV) : List V → Hp → VK → Prop := fun xs H Q => ∃ (ρ : Env) (st : Store) (ι : List Addr) (σ' : L2.St) (ps : List PV),
  F.Rl ρ st ι σ' H ∧ RepVs F.C ι H xs ps ∧ Aft F (rpV F) ρ ι σ' H (giv (f ps) st) Q
/-- .. a list that is just made -/
def rFN (F : Fm) (f : List PV → Option (List PV)) : List V → Hp → VK → Prop := fun xs H Q => ∃ (ρ : Env) (st : Store) (ι : List Addr) (σ' : L2.St) (ps : List PV),
  F.Rl ρ st ι σ' H ∧ RepVs F.C ι H xs ps ∧ AftN F ρ ι σ' H (giv (f ps) st) Q
theorem CallR.weak {X : Cx} {f : Value} {r r' : List V → Hp → VK → Prop} (h : CallR X f r) (w : ∀ xs H Q, r' xs H Q → r xs H Q) : CallR X f r' := fun pins s σ H xs us Q I rs q => h pins s σ H xs us Q I rs (w xs H Q q)
theorem AftN.giv {F : Fm} {ρ : Env} {ι : List Addr} {σ : L2.St} {H : Hp} {st : Store} {Q : VK} {o : Option (List PV)} (h : AftN F ρ ι σ H (giv o st) Q) : ∃ a, o = some a ∧ AftN F ρ ι σ H (.ok a st) Q := by
  cases o with
  | none => exact h.elim
  | some a => exact ⟨a, rfl, h⟩
section
variable {F : Fm} {X : Cx}
theorem zline : (SZ : Nat) = sizeLine := SZ_eq
theorem bi_len (hK : X.K = F.C.K) : CallR X (.builtin "len") (rF F bLen) := CallR.weak call_len fun xs H Q ⟨ρ, st, ι, σ', ps, R, r, h⟩ => by
  obtain ⟨z, e, h⟩ := Aft.giv h
  have ok : ∀ {w : V}, Rep F.C ι H w z → Q w H := fun {w} r => Aft.ok h R r
  have zs := zline
  unfold bLen at e
  split at e
  · split at e
    · rename_i hz
      cases e
      cases r with | cons r t => cases t; rw [r.strI]; exact ⟨_, _, rfl, ⟨by omega, rfl⟩, ok (.int _)⟩
    · cases e
  · cases e
    cases r with | cons r t => cases t; obtain ⟨a, ys, rfl, hx, r1⟩ := r.tupI; exact ⟨_, _, rfl, .inr ⟨ys, by rw [hK]; exact hx, rfl⟩, ok (by rw [r1.length]; exact .int _)⟩
  · cases e
    cases r with | cons r t => cases t; obtain ⟨a, ys, rfl, hx, r1⟩ := r.lstI; exact ⟨_, _, rfl, .inl ⟨ys, SqL.of hx, rfl⟩, ok (by rw [r1.length]; exact .int _)⟩
  · cases e
    cases r with | cons r t => cases t; obtain ⟨a, rfl, hx⟩ := r.scrI; exact ⟨_, _, rfl, .inl ⟨_, by rw [hK]; exact hx, rfl⟩, ok (by rw [List.length_map]; exact .int _)⟩
  · cases e
theorem bi_abs : CallR X (.builtin "abs") (rF F bAbs) := CallR.weak call_abs fun xs H Q ⟨ρ, st, ι, σ', ps, R, r, h⟩ => by
  obtain ⟨z, e, h⟩ := Aft.giv h
  unfold bAbs at e
  split at e
  · cases e
    cases r with | cons r t => cases t; rw [r.intI]; exact ⟨_, rfl, Aft.ok h R (.int _)⟩
  · cases e
theorem bi_max2 (hc : X.calm = true) : CallR X (.builtin "max") (rF F bMax2) := CallR.weak (call_max2 hc) fun xs H Q ⟨ρ, st, ι, σ', ps, R, r, h⟩ => by
  obtain ⟨z, e, h⟩ := Aft.giv h
  unfold bMax2 at e
  split at e
  · cases e
    cases r with | cons r t => cases t with | cons r2 t => cases t; rw [r.intI, r2.intI]; exact ⟨_, _, rfl, Aft.ok h R (.int _)⟩
  · cases e
theorem bi_min2 (hc : X.calm = true) : CallR X (.builtin "min") (rF F bMin2) := CallR.weak (call_min2 hc) fun xs H Q ⟨ρ, st, ι, σ', ps, R, r, h⟩ => by
  obtain ⟨z, e, h⟩ := Aft.giv h
  unfold bMin2 at e
  split at e
  · cases e
    cases r with | cons r t => cases t with | cons r2 t => cases t; rw [r.intI, r2.intI]; exact ⟨_, _, rfl, Aft.ok h R (.int _)⟩
  · cases e
theorem bi_int : CallR X (.type "int") (rF F bInt) := CallR.weak call_int1 fun xs H Q ⟨ρ, st, ι, σ', ps, R, r, h⟩ => by
  obtain ⟨z, e, h⟩ := Aft.giv h
  unfold bInt at e
  split at e
  · cases e
    cases r with | cons r t => cases t; rw [r.intI]; exact .inl ⟨_, rfl, Aft.ok h R (.int _)⟩
  · cases e
    cases r with | cons r t => cases t; rw [r.blI]; exact .inr ⟨_, rfl, Aft.ok h R (.int _)⟩
  · cases e
theorem bi_all (hK : X.K = F.C.K) (hc : X.calm = true) : CallR X (.builtin "all") (rF F bAll) := CallR.weak (cr_all hc) fun xs H Q ⟨ρ, st, ι, σ', ps, R, r, h⟩ => by
  obtain ⟨z, e, h⟩ := Aft.giv h
  unfold bAll at e
  split at e
  · obtain ⟨bs, e1, e2⟩ := Option.map_eq_some_iff.mp e
    subst e2
    cases r with | cons r t => cases t; obtain ⟨a, ys, rfl, hx, r1⟩ := r.lstI; exact ⟨a, bs, rfl, by rw [← r1.bools e1]; exact SqL.of hx, Aft.ok h R (.bl _)⟩
  · cases e
theorem bi_any (hK : X.K = F.C.K) (hc : X.calm = true) : CallR X (.builtin "any") (rF F bAny) := CallR.weak (cr_any hc) fun xs H Q ⟨ρ, st, ι, σ', ps, R, r, h⟩ => by
  obtain ⟨z, e, h⟩ := Aft.giv h
  unfold bAny at e
  split at e
  · obtain ⟨bs, e1, e2⟩ := Option.map_eq_some_iff.mp e
    subst e2
    cases r with | cons r t => cases t; obtain ⟨a, ys, rfl, hx, r1⟩ := r.lstI; exact ⟨a, bs, rfl, by rw [← r1.bools e1]; exact SqL.of hx, Aft.ok h R (.bl _)⟩
  · cases e
theorem bi_tuple (hK : X.K = F.C.K) : CallR X (.type "tuple") (rF F bTuple) := CallR.weak call_tuple_of fun xs H Q ⟨ρ, st, ι, σ', ps, R, r, h⟩ => by
  obtain ⟨z, e, h⟩ := Aft.giv h
  unfold bTuple at e
  split at e
  · cases e
    cases r with | cons r t => cases t; obtain ⟨a, ys, rfl, hx, r1⟩ := r.tupI; exact ⟨a, ys, rfl, .inr ⟨by rw [hK]; exact hx, Aft.ok h R (Rep.of_tup r)⟩⟩
  · cases e
    cases r with
    | cons r t =>
      cases t
      obtain ⟨a, ys, rfl, hx, r1⟩ := r.lstI
      refine ⟨a, ys, rfl, .inl ⟨SqL.of hx, fun l hl => ?_⟩⟩
      obtain ⟨s1, R1, r1⟩ := R.tupN hl r1
      exact h _ _ _ s1 R1 r1
  · cases e
theorem bi_list (hK : X.K = F.C.K) : CallR X (.type "list") (rFN F bList) := CallR.weak call_list_of fun xs H Q ⟨ρ, st, ι, σ', ps, R, r, h⟩ => by
  obtain ⟨z, e, hz⟩ := AftN.giv h
  unfold bList at e
  split at e
  · cases r with
    | cons r t =>
      cases t
      obtain ⟨a, ys, rfl, hx, r1⟩ := r.seqI e
      exact ⟨a, ys, rfl, by rw [hK]; exact hx, fun l hl => hz.new R hl r1⟩
  · cases e
/-- the ints of a list or a tuple -/
theorem RepV.seqI' {C : Ct} {ι : List Addr} {H : Hp} {x : V} {p : PV} {ns : List Int} (h : RepV C ι H x p) (e : PM.seqI p = some ns) : ∃ a, x = .ref a ∧ (SqL C.K H a (ns.map V.int) ∨ SqT C.K H a (ns.map V.int)) := by
  unfold PM.seqI at e
  cases e1 : seqV p with
  | none => rw [e1] at e; cases e
  | some qs =>
    rw [e1] at e
    obtain ⟨a, xs, rfl, hx, r⟩ := h.seqI e1
    have e3 := r.ints e
    subst e3
    exact ⟨a, rfl, hx⟩
theorem bi_sum (hK : X.K = F.C.K) (hc : X.calm = true) : CallR X (.builtin "sum") (rF F bSum) := by
  intro pins s σ H xs us Q I rs ⟨ρ, st, ι, σ', ps, R, r, h⟩
  obtain ⟨z, e, h⟩ := Aft.giv h
  unfold bSum at e
  split at e
  · obtain ⟨ns, e1, e2⟩ := Option.map_eq_some_iff.mp e
    subst e2
    cases r with
    | cons r t =>
      cases t
      obtain ⟨a, rfl, hx⟩ := r.seqI' e1
      have q : Q (.int ns.sum) H := Aft.ok h R (.int _)
      rw [← hK] at hx
      rcases hx with hx | hx
      · exact cr_sum hc pins s σ H _ us Q I rs ⟨a, ns, rfl, hx, q⟩
      · obtain ⟨its, rv, hl, _⟩ := I.tuple hx
        rw [Vals.ref1 rs]
        have hi := rv.ints
        obtain ⟨xs, e⟩ := hi.allInts.items
        have hn : PySem.numsOf (PySem.intItems xs).toList = ns := by rw [← e]; exact hi.numsOf
        rw [PySem.nums_intItems] at hn
        rw [e] at hl
        refine PySem.W.ktm_sumG (prog := X.prog) (w := X.w) (I.ok.hd hc) (show s.heap.IsTuple a (PySem.intItems xs) from hl) fun h' tk t' hk => ?_
        refine ⟨.int ns.sum, H, I.kept hk, ⟨t', ?_⟩, q⟩
        rw [PySem.preSum_eq, List.take_of_length_le (by simp), hn]
  · cases e
theorem foldMax_spec : ∀ {ns : List Int} {z : Int}, foldMax ns = some z → z ∈ ns ∧ ∀ y ∈ ns, y ≤ z := by
  have go : ∀ (r : List Int) (x : Int), (r.foldl (fun a b => if b > a then b else a) x) ∈ x :: r ∧ ∀ y ∈ x :: r, y ≤ r.foldl (fun a b => if b > a then b else a) x := by
    intro r
    induction r with
    | nil => intro x; simp
    | cons y r ih =>
      intro x
      rw [List.foldl_cons]
      obtain ⟨h1, h2⟩ := ih (if y > x then y else x)
      refine ⟨?_, fun w hw => ?_⟩
      · rcases List.mem_cons.mp h1 with e | h
        · rw [e]
          split <;> simp
        · simp [h]
      · have hb := h2 _ List.mem_cons_self
        have hz : (if y > x then y else x) ≥ x ∧ (if y > x then y else x) ≥ y := by split <;> omega
        rcases List.mem_cons.mp hw with e | hw
        · rw [e]; exact Int.le_trans hz.1 hb
        · rcases List.mem_cons.mp hw with e | hw
          · rw [e]; exact Int.le_trans hz.2 hb
          · exact h2 w (List.mem_cons_of_mem _ hw)
  intro ns z h
  cases ns with
  | nil => cases h
  | cons x r =>
    cases h
    exact go r x
theorem foldMin_spec : ∀ {ns : List Int} {z : Int}, foldMin ns = some z → z ∈ ns ∧ ∀ y ∈ ns, z ≤ y := by
  have go : ∀ (r : List Int) (x : Int), (r.foldl (fun a b => if b < a then b else a) x) ∈ x :: r ∧ ∀ y ∈ x :: r, r.foldl (fun a b => if b < a then b else a) x ≤ y := by
    intro r
    induction r with
    | nil => intro x; simp
    | cons y r ih =>
      intro x
      rw [List.foldl_cons]
      obtain ⟨h1, h2⟩ := ih (if y < x then y else x)
      refine ⟨?_, fun w hw => ?_⟩
      · rcases List.mem_cons.mp h1 with e | h
        · rw [e]
          split <;> simp
        · simp [h]
      · have hb := h2 _ List.mem_cons_self
        have hz : (if y < x then y else x) ≤ x ∧ (if y < x then y else x) ≤ y := by split <;> omega
        rcases List.mem_cons.mp hw with e | hw
        · rw [e]; exact Int.le_trans hb hz.1
        · rcases List.mem_cons.mp hw with e | hw
          · rw [e]; exact Int.le_trans hb hz.2
          · exact h2 w (List.mem_cons_of_mem _ hw)
  intro ns z h
  cases ns with
  | nil => cases h
  | cons x r =>
    cases h
    exact go r x
theorem intsDp {K : PySem.W.Frag} {H : Hp} : ∀ ns : List Int, DpAll K H (ns.map V.int) (ns.map PyData.int)
  | [] => .nil
  | n :: r => .cons (.int n) (intsDp r)
/-! ### pairs -/
theorem pair_at : ∀ {ps : List PV} {l : List (Int × Int)}, pairL ps = some l → ps = l.map prV
  | [], l, e => by cases e; rfl
  | .tup [.int a, .int b] :: r, l, e => by
    obtain ⟨l', e1, e2⟩ := Option.map_eq_some_iff.mp (show (pairL r).map ((a, b) :: ·) = some l from e)
    subst e2
    rw [pair_at e1]; rfl
def prD (p : Int × Int) : PyData := .tuple [.int p.1, .int p.2]
theorem toDs_pairs : ∀ l : List (Int × Int), toDs (l.map prV) = some (l.map prD)
  | [] => rfl
  | p :: l => by
    show (match toD (prV p), toDs (l.map prV) with | some d, some ds => some (d :: ds) | _, _ => none) = _
    rw [toDs_pairs l]; rfl
theorem prD_inj {p q : Int × Int} (h : prD p = prD q) : p = q := by
  unfold prD at h
  simp only [PyData.tuple.injEq, List.cons.injEq, PyData.int.injEq, and_true] at h
  exact Prod.ext h.1 h.2
theorem vals_at : ∀ {xs : List V} {us : List Value} {i : Nat} {u : Value}, Vals xs us → us[i]? = some u → ∃ x, xs[i]? = some x ∧ RelV x u
  | _, _, _, _, .nil, h => by simp at h
  | _, _, 0, _, .cons r _, h => by
    have h := Option.some.inj (show some _ = some _ from h)
    exact ⟨_, rfl, h ▸ r⟩
  | _, _, i + 1, _, .cons _ t, h => by
    obtain ⟨x, e, r⟩ := vals_at t (i := i) (by simpa using h)
    exact ⟨x, by simpa using e, r⟩
/-- what an item of a list of pairs reads as -/
theorem pair_item {C : Ct} {s : Shared} {ι : List Addr} {H : Hp} {ys : List V} {its : List Value} {l : List (Int × Int)} {m : Int × Int} {i : Nat} {v : Value} {h' : Heap} {as bs : List Addr} (rv : Vals ys its) (rr : Reps C ι H ys (l.map prV)) (ra : ReadsAll s.heap its (l.map prD) as)
    (hv : its.toArray[i]? = some v) (hm : Reads h' v (prD m) bs) (hk : ∀ b o, s.heap.get? b = some o → h'.get? b = some o) : ∃ y, RelV y v ∧ Rep C ι H y (prV m) := by
  have hv : its[i]? = some v := by simpa using hv
  obtain ⟨y, hy, r⟩ := vals_at rv hv
  obtain ⟨cs, r1, r2, _, _⟩ := PySem.W.readsAll_at ra i v hv
  obtain ⟨p, hp, rp⟩ := rr.get' hy
  rw [List.getElem?_map] at hp
  obtain ⟨q, hq, rfl⟩ := Option.map_eq_some_iff.mp hp
  have e0 : (l.map prD).getD i .none = prD q := by simp [List.getD, hq]
  rw [e0] at r1
  have e : prD q = prD m := (PySem.Reads.unique (PyProof.Rows.Reads.keeps hk r1) _ _ hm).1
  rw [prD_inj e] at rp
  exact ⟨y, r, rp⟩
section
variable {X : Cx} {F : Fm} {pins : List (Addr × Obj)} {s : Shared} {σ : L2.St} {ι : List Addr} {H : Hp} {x : V} {p : PV} {us : List Value} {ps : List PV} {l : List (Int × Int)} {m : Int × Int} {Q : VK}
theorem call_minP (hK : X.K = F.C.K) (hh : X.A.handled = none) (hu : X.A.units + 65 < cLine) (I : L2.Inv X pins σ H s) (r : RepV F.C ι H x p) (rs : Vals [x] us) (e5 : seqV p = some ps) (e6 : pairL ps = some l) (e4 : minP l = some m) (k : ∀ y, Rep F.C ι H y (prV m) → Q y H) :
    wpAny (model X.prog X.w) X.A (call (.builtin "min") us) (EP X pins σ Q) X.xe s := by
  obtain ⟨a, ys, rfl, hx, rr⟩ := r.seqI e5
  rw [pair_at e6] at rr
  rw [Vals.ref1 rs]
  cases l with
  | nil => cases e4
  | cons q0 qs =>
    have em : PySem.W.minOf q0 qs = m := Option.some.inj e4
    have dp : DpAll X.K H ys ((q0 :: qs).map prD) := by rw [hK]; exact Reps.dp rr (toDs_pairs _)
    rw [← hK] at hx
    rcases hx with hx | hx
    · obtain ⟨its, rv, hl, _⟩ := I.list hx
      obtain ⟨as, ra⟩ := Dp.readsAll I _ _ its dp rv
      refine PySem.W.min_list_datum (α := Int × Int) (x := q0) (xs := qs) hh hl.isList ⟨as, ra⟩ (by show X.A.units + 1 + 1 < cLine; omega) fun i v h' tk hv hh2 hk => ?_
      obtain ⟨bs, hr⟩ := hh2
      rw [em] at hr
      obtain ⟨y, ry, rp⟩ := pair_item rv rr ra hv hr hk
      exact ⟨y, H, I.kept hk, ry, k y rp⟩
    · obtain ⟨its, rv, hl, _⟩ := I.tuple hx
      obtain ⟨as, ra⟩ := Dp.readsAll I _ _ its dp rv
      refine PySem.W.min_tuple_datum (α := Int × Int) (x := q0) (xs := qs) hh (show s.heap.IsTuple a its.toArray from hl) ⟨as, ra⟩ (by show X.A.units + 1 + 1 < cLine; omega) fun i v h' tk hv hh2 hk => ?_
      obtain ⟨bs, hr⟩ := hh2
      rw [em] at hr
      obtain ⟨y, ry, rp⟩ := pair_item rv rr ra hv hr hk
      exact ⟨y, H, I.kept hk, ry, k y rp⟩
theorem call_maxP (hK : X.K = F.C.K) (hh : X.A.handled = none) (hu : X.A.units + 65 < cLine) (I : L2.Inv X pins σ H s) (r : RepV F.C ι H x p) (rs : Vals [x] us) (e5 : seqV p = some ps) (e6 : pairL ps = some l) (e4 : maxP l = some m) (k : ∀ y, Rep F.C ι H y (prV m) → Q y H) :
    wpAny (model X.prog X.w) X.A (call (.builtin "max") us) (EP X pins σ Q) X.xe s := by
  obtain ⟨a, ys, rfl, hx, rr⟩ := r.seqI e5
  rw [pair_at e6] at rr
  rw [Vals.ref1 rs]
  cases l with
  | nil => cases e4
  | cons q0 qs =>
    have em : PySem.W.maxOf q0 qs = m := Option.some.inj e4
    have dp : DpAll X.K H ys ((q0 :: qs).map prD) := by rw [hK]; exact Reps.dp rr (toDs_pairs _)
    rw [← hK] at hx
    rcases hx with hx | hx
    · obtain ⟨its, rv, hl, _⟩ := I.list hx
      obtain ⟨as, ra⟩ := Dp.readsAll I _ _ its dp rv
      refine PySem.W.max_list_datum (α := Int × Int) (x := q0) (xs := qs) hh hl.isList ⟨as, ra⟩ (by show X.A.units + 1 + 1 < cLine; omega) fun i v h' tk hv hh2 hk => ?_
      obtain ⟨bs, hr⟩ := hh2
      rw [em] at hr
      obtain ⟨y, ry, rp⟩ := pair_item rv rr ra hv hr hk
      exact ⟨y, H, I.kept hk, ry, k y rp⟩
    · obtain ⟨its, rv, hl, _⟩ := I.tuple hx
      obtain ⟨as, ra⟩ := Dp.readsAll I _ _ its dp rv
      refine PySem.W.max_tuple_datum (α := Int × Int) (x := q0) (xs := qs) hh (show s.heap.IsTuple a its.toArray from hl) ⟨as, ra⟩ (by show X.A.units + 1 + 1 < cLine; omega) fun i v h' tk hv hh2 hk => ?_
      obtain ⟨bs, hr⟩ := hh2
      rw [em] at hr
      obtain ⟨y, ry, rp⟩ := pair_item rv rr ra hv hr hk
      exact ⟨y, H, I.kept hk, ry, k y rp⟩
end
theorem bi_maxL (hK : X.K = F.C.K) (hc : X.calm = true) (hu : X.A.units + 65 < cLine) : CallR X (.builtin "max") (rF F bMaxL) := by
  intro pins s σ H xs us Q I rs ⟨ρ, st, ι, σ', ps, R, r, h⟩
  obtain ⟨z, e, h⟩ := Aft.giv h
  unfold bMaxL at e
  split at e
  · split at e
    rotate_left
    · obtain ⟨m, e1, e2⟩ := Option.map_eq_some_iff.mp e
      subst e2
      obtain ⟨l, e3, e4⟩ := Option.bind_eq_some_iff.mp e1
      obtain ⟨ps, e5, e6⟩ := Option.bind_eq_some_iff.mp e3
      cases r with
      | cons r t =>
        cases t
        exact call_maxP hK (I.ok.hd hc) hu I r rs e5 e6 e4 fun y rp => Aft.ok h R rp
    rename_i m e1
    cases e
    obtain ⟨ns, e3, e4⟩ := Option.bind_eq_some_iff.mp e1
    obtain ⟨k1, k2⟩ := foldMax_spec e4
    cases r with
    | cons r t =>
      cases t
      obtain ⟨a, rfl, hx⟩ := r.seqI' e3
      have q : Q (.int m) H := Aft.ok h R (.int _)
      rw [← hK] at hx
      rcases hx with hx | hx
      · refine cr_max hc pins s σ H _ us Q I rs ⟨a, ns, rfl, hx, ?_, fun m' h1 h2 => ?_⟩
        · cases ns with
          | nil => cases k1
          | cons _ _ => simp
        · have a1 := k2 m' h1
          have a2 := h2 m k1
          have : m' = m := by omega
          rw [this]; exact q
      · obtain ⟨its, rv, hl, _⟩ := I.tuple hx
        rw [Vals.ref1 rs]
        cases ns with
        | nil => cases k1
        | cons x xs =>
          obtain ⟨as, ra⟩ := Dp.readsAll I _ _ its (intsDp (x :: xs)) rv
          refine PySem.W.max_tuple_datum (α := Int) (x := x) (xs := xs) (I.ok.hd hc) (show s.heap.IsTuple a its.toArray from hl) ⟨as, ra⟩ (by show X.A.units + 1 + 0 < cLine; omega) fun i v h' tk hv hh hk => ?_
          obtain ⟨bs, hr⟩ := hh
          have e5 : PySem.W.maxOf x xs = m := by
            have : foldMax (x :: xs) = some (PySem.W.maxOf x xs) := by
              unfold foldMax PySem.W.maxOf
              show some (List.foldl (fun a b : Int => if b > a then b else a) x xs) = some (List.foldl (fun a b : Int => if decide (a < b) = true then b else a) x xs)
              congr 2
              funext a b
              by_cases hab : a < b
              · rw [if_pos hab, if_pos (decide_eq_true hab)]
              · rw [if_neg hab, if_neg (by simpa using hab)]
            rw [this] at e4
            exact Option.some.inj e4
          rw [e5] at hr
          cases hr
          exact ⟨.int m, H, I.kept hk, ⟨_, rfl⟩, q⟩
  · cases e
theorem bi_minL (hK : X.K = F.C.K) (hc : X.calm = true) (hu : X.A.units + 65 < cLine) : CallR X (.builtin "min") (rF F bMinL) := by
  intro pins s σ H xs us Q I rs ⟨ρ, st, ι, σ', ps, R, r, h⟩
  obtain ⟨z, e, h⟩ := Aft.giv h
  unfold bMinL at e
  split at e
  · split at e
    rotate_left
    · obtain ⟨m, e1, e2⟩ := Option.map_eq_some_iff.mp e
      subst e2
      obtain ⟨l, e3, e4⟩ := Option.bind_eq_some_iff.mp e1
      obtain ⟨ps, e5, e6⟩ := Option.bind_eq_some_iff.mp e3
      cases r with
      | cons r t =>
        cases t
        exact call_minP hK (I.ok.hd hc) hu I r rs e5 e6 e4 fun y rp => Aft.ok h R rp
    rename_i m e1
    cases e
    obtain ⟨ns, e3, e4⟩ := Option.bind_eq_some_iff.mp e1
    obtain ⟨k1, k2⟩ := foldMin_spec e4
    cases r with
    | cons r t =>
      cases t
      obtain ⟨a, rfl, hx⟩ := r.seqI' e3
      have q : Q (.int m) H := Aft.ok h R (.int _)
      rw [← hK] at hx
      rcases hx with hx | hx
      · refine cr_min hc pins s σ H _ us Q I rs ⟨a, ns, rfl, hx, ?_, fun m' h1 h2 => ?_⟩
        · cases ns with
          | nil => cases k1
          | cons _ _ => simp
        · have a1 := k2 m' h1
          have a2 := h2 m k1
          have : m' = m := by omega
          rw [this]; exact q
      · obtain ⟨its, rv, hl, _⟩ := I.tuple hx
        rw [Vals.ref1 rs]
        cases ns with
        | nil => cases k1
        | cons x xs =>
          obtain ⟨as, ra⟩ := Dp.readsAll I _ _ its (intsDp (x :: xs)) rv
          refine PySem.W.min_tuple_datum (α := Int) (x := x) (xs := xs) (I.ok.hd hc) (show s.heap.IsTuple a its.toArray from hl) ⟨as, ra⟩ (by show X.A.units + 1 + 0 < cLine; omega) fun i v h' tk hv hh hk => ?_
          obtain ⟨bs, hr⟩ := hh
          have e5 : PySem.W.minOf x xs = m := by
            have : foldMin (x :: xs) = some (PySem.W.minOf x xs) := by
              unfold foldMin PySem.W.minOf
              show some (List.foldl (fun a b : Int => if b < a then b else a) x xs) = some (List.foldl (fun a b : Int => if decide (b < a) = true then b else a) x xs)
              congr 2
              funext a b
              by_cases hab : b < a
              · rw [if_pos hab, if_pos (decide_eq_true hab)]
              · rw [if_neg hab, if_neg (by simpa using hab)]
            rw [this] at e4
            exact Option.some.inj e4
          rw [e5] at hr
          cases hr
          exact ⟨.int m, H, I.kept hk, ⟨_, rfl⟩, q⟩
  · cases e
theorem bi_str : CallR X (.type "str") (rF F bStr) := CallR.weak (CallR.or call_str_int SkE.call_str_str) fun xs H Q ⟨ρ, st, ι, σ', ps, R, r, h⟩ => by
  obtain ⟨z, e, h⟩ := Aft.giv h
  unfold bStr at e
  split at e
  · split at e
    · rename_i hz
      cases e
      cases r with | cons r t => cases t; rw [r.intI]; exact .inl ⟨_, rfl, hz, Aft.ok h R (.str _)⟩
    · cases e
  · cases e
    cases r with | cons r t => cases t; rw [r.strI]; exact .inr ⟨_, rfl, Aft.ok h R (.str _)⟩
  · cases e
theorem Reads.mixKey {h : Heap} {P : Program} {w : World} : ∀ (k : Key) (key : Value), (mixKind P w).is k key = true → Reads h key (match k with | .inl i => .int i | .inr x => .str x) [] := fun k key hk => by
  rcases keyIs_shape (k := k) (v := key) hk with ⟨i, t, rfl, rfl⟩ | ⟨x, t, rfl, rfl⟩
  · exact .int i t
  · exact .str x t
theorem dct_reads {X : Cx} {F : Fm} {pins : List (Addr × Obj)} {s : Shared} {σ : L2.St} {H : Hp} {ι : List Addr} {x : V} {p : PV} {d : PyData} {u : Value} (I : L2.Inv X pins σ H s) (r : RepV F.C ι H x p) (e : toDd p = some d) (ru : RelV x u) :
    ∃ a, u = .ref a ∧ Reads s.heap (.ref a) d [a] ∧ (a == sysModules) = false := by
  have ex : ∃ (a : Addr) (kvs : List (Key × V)), x = .ref a ∧ H a = some (.dK kvs) ∧ ((kvs = [] ∧ d = .dict []) ∨ ∃ k i, kvs = [(.inr k, .int i)] ∧ d = .dict [(.str k, .int i)]) := by
    have go : ∀ {a : Addr} {kvs : List (Key × V)} {vs : List PV}, H a = some (.dK kvs) → Reps F.C ι H (kvs.map (·.2)) vs → toDd (.dct (kvs.map fun p => keyPV p.1) vs) = some d → ∃ (a2 : Addr) (kvs' : List (Key × V)), V.ref a = .ref a2 ∧ H a2 = some (.dK kvs') ∧ ((kvs' = [] ∧ d = .dict []) ∨ ∃ k i, kvs' = [(.inr k, .int i)] ∧ d = .dict [(.str k, .int i)]) := by
      intro a kvs vs h rs e
      cases kvs with
      | nil =>
        cases rs
        cases e
        exact ⟨a, [], rfl, h, .inl ⟨rfl, rfl⟩⟩
      | cons kv r =>
        obtain ⟨k, v⟩ := kv
        cases r with
        | nil =>
          cases rs with
          | cons r1 t =>
            cases t
            cases k with
            | inl j => simp [keyPV, toDd] at e
            | inr y =>
              rename_i q
              cases q with
              | int i =>
                cases e
                cases r1
                exact ⟨a, _, rfl, h, .inr ⟨_, _, rfl, rfl⟩⟩
              | _ => simp [keyPV, toDd] at e
        | cons kv2 r =>
          cases vs with
          | nil => cases k <;> simp [keyPV, toDd] at e
          | cons v1 vs => cases k <;> (cases vs <;> simp [keyPV, toDd] at e)
    cases r with
    | of r => cases r with
      | dct h _ rs => exact go h rs e
      | _ => cases e
    | dct h rs => exact go h rs e
    | lst _ _ => cases e
  obtain ⟨a, kvs, rfl, ha, hk⟩ := ex
  obtain rfl : u = Value.ref a := ru
  obtain ⟨_, hs, vs, kv, dd⟩ := dk_of I.hok ha
  refine ⟨a, rfl, ?_, hs⟩
  rcases hk with ⟨rfl, rfl⟩ | ⟨k, i, rfl, rfl⟩
  · cases kv
    exact PyProof.V.reads_dictOf (enc := fun k => match k with | .inl i => .int i | .inr x => .str x) Reads.mixKey dd .nil
  · cases kv with
    | cons h1 t =>
      cases t
      rename_i q
      obtain ⟨q1, q2⟩ := q
      obtain ⟨h1, h2⟩ := h1
      simp only at h1 h2
      subst h1
      obtain ⟨t, rfl⟩ := h2
      exact PyProof.V.reads_dictOf (enc := fun k => match k with | .inl i => .int i | .inr x => .str x) Reads.mixKey dd (.cons (.int i t) .nil)
theorem name_whole {M : Model} {A : Around} {E : Value → Shared → Prop} {s : Shared} {Q : String → Shared → Prop} {K : PySem.W.Frag} {C x : Addr} {ox : Obj} {od : Option Obj} {cd : ClassData} (X : K.In s.heap) (I : PySem.W.InstAt s.heap x ox C od) (hcd : PySem.W.clsIn K C = some cd) (q : Q cd.name.toString s) : wpAny M A (typeNameOfWhole (.ref x)) Q E s := by
  unfold typeNameOfWhole shownTypeOf
  refine wpAny_bind (wpAny_bind (I.type.here ?_))
  rw [if_neg (show ¬ (Value.ref C == Value.type "builtin_function_or_method") = true by simp)]
  refine wpAny_pure ?_
  exact wpAny_bind ((PySem.W.looks_clsIn X hcd).here (wpAny_pure q))
/-- repr of an error that was made: its class's name, its one argument -/
theorem call_repr_mkd {prog : Program} {w : World} {A : Around} {E : Value → Shared → Prop} {s : Shared} {Q : Value → Shared → Prop} {K : PySem.W.Frag} {C x t : Addr} {ox : Obj} {od : Option Obj} {n : Str} {vs : Array Value} {u : Value} {bs : List Addr} {h₀ : Heap} {dp : Nat} {z : Str}
    (hu : A.units + 2 + dp < cLine) (hg : A.guards = some []) (X : K.In s.heap) (I : PySem.W.InstAt s.heap x ox C od) (hC : MkC K C n) (hd : ox.data = .fields vs) (h0 : vs[0]? = some (.ref t)) (ht : s.heap.TupAt t [u]) (hr : ReprK prog w bs h₀ dp u z) (hk0 : ∀ b o, h₀.get? b = some o → s.heap.get? b = some o)
    (hsz : (nmS n ++ "(" ++ z ++ ")").length ≤ sizeLine)
    (hq : ∀ h' tk v, (∀ b o, s.heap.get? b = some o → h'.get? b = some o) → Q (.str (nmS n ++ "(" ++ z ++ ")") v) { s with heap := h', toks := tk }) :
    wpAny (model prog w) A (call (.builtin "repr") [.ref x]) Q E s := by
  obtain ⟨cd, hcd, rfl⟩ := hC.cl
  have sp : ∀ {M : Model}, PySem.W.Looks M s.heap (specialOf (.ref x) (Str.ofString "__repr__")) (some (.builtin "BaseException.__repr__")) := I.type.andThen (PySem.W.looks_findIn X hC.rp)
  refine Calls.call_function_entry PySem.F.kind_repr PySem.F.plain_repr PySem.F.entry_repr (PySem.F.args_repr1 _) ?_
  unfold Builtin.«repr»
  refine wpAny_bind (m := oneArg "repr" _) (wpAny_pure ?_)
  refine wpAny_bind (m := cRoomFor _ _) (wpAny_cRoomFor (by show A.units + 1 < cLine; omega) ?_)
  refine wpAny_bind (sp.here ?_)
  have hb : bindSpecial (.builtin "BaseException.__repr__") (.ref x) = pure (.builtin "BaseException.__repr__", [.ref x]) := by rfl
  refine wpAny_bind (m := callSpecialIfBound? (.ref x) (Str.ofString "__repr__")) (NtL.csib sp hb ?_)
  refine wpAny_call (codeAny_call_builtin (by decide +kernel) PySem.F.entry_bexc_repr (@PySem.W.check_slot (model prog w) _ _ _ "BaseException.__repr__" "BaseException" "__repr__" (.ref x) [] [] _ (by decide +kernel) (by decide +kernel) (I.type.andThen (PySem.W.looks_subIn X hC.sub)) (PySem.F.args_bexc_repr _) ?_))
  unfold Builtin.«BaseException.__repr__» Builtin.bexcReprAt
  refine wpAny_bind (m := slotArgs "__repr__" 0 _) (wpAny_pure ?_)
  show wpAny _ _ (typeNameOfWhole (.ref x) >>= _) _ _ _
  refine wpAny_bind (name_whole X I hcd ?_)
  obtain ⟨ot, n, to1, to2, to3⟩ := ht
  have BA : ∀ {A : Around} {Q : Value × List Value → Shared → Prop} {E : Value → Shared → Prop}, Q (.ref t, [u]) s → wpAny (model prog w) A (Builtin.BaseException.bexcArgs (.ref x)) Q E s := fun q => by
    unfold Builtin.BaseException.bexcArgs
    exact wpAny_bind (wpAny_field I.at_ hd h0 (wpAny_bind (wpAny_seqItems to1 to3 (wpAny_pure q))))
  refine wpAny_bind (BA ?_)
  have hs1 : 0 + (((nmS cd.name).length + 1) + z.length) ≤ sizeLine := by
    have e1 : (Str.ofString "(").length = 1 := by rw [PySem.ofString_length]; rfl
    rw [strLen_append, strLen_append, strLen_append, e1] at hsz; omega
  refine wpAny_bind (wpAny_rule ?_)
  refine wpAny_bind (hr (0 + ((nmS cd.name).length + 1)) (by omega) A.in1.in1 [] _ s _ hg (fun b _ => Clear.nil b) (by show A.units + 1 + 1 + dp < cLine; omega) hk0 fun h' tk kk => ?_)
  show wpAny _ _ (retStr (nmS cd.name ++ "(" ++ z ++ ")")) _ _ _
  unfold retStr
  refine wpAny_bind (wpAny_mkStr ?_ hsz)
  refine wpAny_pure ?_
  show wpAny _ _ _ _ _ _
  refine wpAny_bind (wpAny_isInstance (T := "str") (b := true) rfl isSubtype_str_str ?_)
  exact wpAny_pure ⟨_, rfl, hq h' _ _ kk⟩
theorem bi_repr (hK : X.K = F.C.K) (hg : X.A.guards = some []) (hu : X.A.units + 66 < cLine) : CallR X (.builtin "repr") (rF F bRepr) := by
  intro pins s σ H xs us Q I rs ⟨ρ, st, ι, σ', ps, R, r, h⟩
  obtain ⟨z, e, h⟩ := Aft.giv h
  unfold bRepr at e
  split at e
  · split at e
    · rename_i d e1
      split at e
      · rename_i hs
        cases e
        unfold okShowD at hs
        simp only [Bool.and_eq_true, decide_eq_true_eq] at hs
        obtain ⟨⟨s1, s3⟩, s4⟩ := hs
        have q : Q (.str d.shown) H := Aft.ok h R (.str _)
        have hsz : d.shown.length ≤ sizeLine := by rw [sizeLine_eq]; unfold SZ at s4; omega
        cases r with
        | cons r t =>
          cases t
          obtain ⟨u, rfl, ru⟩ := vals1 rs
          obtain ⟨a, rfl, rd, hsm⟩ := dct_reads I r e1 ru
          refine PySem.repr_of_reads' rd s1 (fun _ z => ?_) hg (by omega) (fun _ _ e => e) (fun h' u tk hk => ⟨.str _, H, I.kept hk, ⟨_, rfl⟩, q⟩) hsz
          have : sysModules = a := by simpa using z
          rw [this] at hsm
          simp at hsm
      · cases e
    split at e
    rotate_left
    · unfold mkdS at e
      split at e
      · rename_i k m v _ _
        obtain ⟨zz, e1, e2⟩ := Option.bind_eq_some_iff.mp e
        split at e2
        · rename_i hs
          cases e2
          have q : Q (.str (nmS m ++ "(" ++ zz ++ ")")) H := Aft.ok h R (.str _)
          have hsz : (nmS m ++ "(" ++ zz ++ ")").length ≤ sizeLine := by rw [sizeLine_eq]; exact hs
          cases r with
          | cons r t =>
            cases t
            obtain ⟨u, rfl, ru⟩ := vals1 rs
            cases r with
            | of r =>
              cases r with
              | @mkd a dd t _ _ x _ hmk ha na hd nd ht nt rx =>
                cases ru
                obtain ⟨⟨oe, vs, g1, ⟨z1, z2⟩, g3, g4⟩, _, _⟩ := I.hok a _ ha
                obtain ⟨_, its, hv, ot, ho, ho1, n, ho2⟩ := I.hok t _ ht
                obtain ⟨mA, n0, r0⟩ := I.hok dd _ hd
                obtain ⟨od, h1, h2⟩ := lookIn_ns n0
                rw [← hK] at hmk
                obtain ⟨u, rfl, ru⟩ := vals1 hv
                have zl : zz.length ≤ sizeLine := by
                  rw [strLen_append, strLen_append, strLen_append] at hsz; omega
                have key : ∃ bs dp, dp ≤ 64 ∧ ReprK X.prog X.w bs s.heap dp u zz := by
                  unfold txtV at e1
                  split at e1
                  · rename_i d e3
                    split at e1
                    · rename_i hh
                      cases e1
                      unfold okShowD at hh
                      simp only [Bool.and_eq_true, decide_eq_true_eq] at hh
                      obtain ⟨⟨s1, s3⟩, s4⟩ := hh
                      obtain ⟨a2, rfl, rd, hsm⟩ := dct_reads I (.of rx) e3 ru
                      obtain ⟨bs, _, hk⟩ := ReprK.of_reads (prog := X.prog) (w := X.w) rd s1 (fun _ z => by
                        have : sysModules = a2 := by simpa using z
                        rw [this] at hsm
                        simp at hsm) zl
                      exact ⟨bs, _, s3, hk⟩
                    · cases e1
                  · obtain ⟨d, e3, e4⟩ := Option.bind_eq_some_iff.mp e1
                    split at e4
                    · rename_i hh
                      cases e4
                      unfold okShow at hh
                      simp only [Bool.and_eq_true, Bool.not_eq_true', decide_eq_true_eq] at hh
                      obtain ⟨⟨⟨s1, s2⟩, s3⟩, s4⟩ := hh
                      have dp := Rep.dp rx e3
                      rw [← hK] at dp
                      obtain ⟨as, rd⟩ := Dp.reads I _ _ u dp ru
                      obtain ⟨bs, _, hk⟩ := ReprK.of_reads (prog := X.prog) (w := X.w) rd s1 (fun z => by rw [s2] at z; cases z) zl
                      exact ⟨bs, _, s3, hk⟩
                    · cases e4
                obtain ⟨bs, dp, hdp, hk⟩ := key
                obtain ⟨oc, odd, dt, sl⟩ := oe
                simp only at z1 z2 g3
                subst z1
                subst z2
                subst g3
                exact call_repr_mkd (od := some od) (by omega) hg I.kIn ⟨g1, rfl, rfl, h1⟩ hmk rfl g4 ⟨ot, n, ho, ho1, ho2⟩ hk (fun _ _ e => e) hsz fun h' tk v hk2 => ⟨.str _, H, I.kept hk2, ⟨_, rfl⟩, q⟩
        · cases e2
      · cases e
    rename_i d e1
    split at e
    · rename_i hs
      cases e
      unfold okShow at hs
      simp only [Bool.and_eq_true, Bool.not_eq_true', decide_eq_true_eq] at hs
      obtain ⟨⟨⟨s1, s2⟩, s3⟩, s4⟩ := hs
      have q : Q (.str d.shown) H := Aft.ok h R (.str _)
      have hsz : d.shown.length ≤ sizeLine := by rw [sizeLine_eq]; unfold SZ at s4; omega
      cases r with
      | cons r t =>
        cases t
        obtain ⟨u, rfl, ru⟩ := vals1 rs
        have dp := r.dp e1
        rw [← hK] at dp
        cases dp with
        | non => cases ru; exact PySem.P.repr_of_none ⟨.str _, H, I.tok _, ⟨_, rfl⟩, q⟩
        | bl b => cases ru; exact PySem.P.repr_of_bool ⟨.str _, H, I.tok _, ⟨_, rfl⟩, q⟩
        | int i =>
          obtain ⟨t, rfl⟩ := ru
          exact PySem.P.repr_of_int (of_decide_eq_true s1) ⟨.str _, H, I.tok _, ⟨_, rfl⟩, q⟩
        | str x =>
          obtain ⟨t, rfl⟩ := ru
          exact PySem.P.repr_of_str ⟨.str _, H, I.tok _, ⟨_, rfl⟩, q⟩ hsz
        | lst a b =>
          have dp := r.dp e1
          rw [← hK] at dp
          obtain ⟨as, rd⟩ := Dp.reads I _ _ u dp ru
          cases ru
          exact PySem.repr_of_reads' rd s1 (fun z => by rw [s2] at z; cases z) hg (by omega) (fun _ _ e => e) (fun h' u tk hk => ⟨.str _, H, I.kept hk, ⟨_, rfl⟩, q⟩) hsz
        | tup a b =>
          have dp := r.dp e1
          rw [← hK] at dp
          obtain ⟨as, rd⟩ := Dp.reads I _ _ u dp ru
          cases ru
          exact PySem.repr_of_reads' rd s1 (fun z => by rw [s2] at z; cases z) hg (by omega) (fun _ _ e => e) (fun h' u tk hk => ⟨.str _, H, I.kept hk, ⟨_, rfl⟩, q⟩) hsz
    · cases e
  · cases e
/-! ### sorting -/
theorem ins_perm (x : Int) : ∀ l : List Int, (ins (fun a b => decide (a < b)) x l).Perm (x :: l)
  | [] => .refl _
  | y :: r => by
    unfold ins
    split
    · exact .refl _
    · exact ((ins_perm x r).cons y).trans (.swap x y r)
theorem isort_perm : ∀ l : List Int, (isort (fun a b => decide (a < b)) l).Perm l
  | [] => .refl _
  | x :: r => (ins_perm x _).trans ((isort_perm r).cons x)
theorem ins_sorted (x : Int) : ∀ l : List Int, l.Pairwise (· ≤ ·) → (ins (fun a b => decide (a < b)) x l).Pairwise (· ≤ ·)
  | [], _ => List.pairwise_singleton _ _
  | y :: r, h => by
    unfold ins
    split
    · rename_i hl
      have hl := of_decide_eq_true hl
      refine List.pairwise_cons.mpr ⟨fun z hz => ?_, h⟩
      rcases List.mem_cons.mp hz with e | hz
      · omega
      · have := (List.pairwise_cons.mp h).1 z hz
        omega
    · rename_i hl
      have hl : ¬ x < y := by simpa using hl
      refine List.pairwise_cons.mpr ⟨fun z hz => ?_, ins_sorted x r (List.pairwise_cons.mp h).2⟩
      rcases List.mem_cons.mp ((ins_perm x r).mem_iff.mp hz) with e | hz
      · omega
      · exact (List.pairwise_cons.mp h).1 z hz
theorem isort_sorted : ∀ l : List Int, (isort (fun a b => decide (a < b)) l).Pairwise (· ≤ ·)
  | [] => .nil
  | x :: r => ins_sorted x _ (isort_sorted r)
theorem sorted_uniq : ∀ {l m : List Int}, l.Perm m → l.Pairwise (· ≤ ·) → m.Pairwise (· ≤ ·) → l = m
  | [], m, p, _, _ => (List.Perm.nil_eq p)
  | x :: l, [], p, _, _ => (List.Perm.eq_nil p)
  | x :: l, y :: m, p, h1, h2 => by
    have a := List.pairwise_cons.mp h1
    have b := List.pairwise_cons.mp h2
    have e : x = y := by
      have h3 : y ∈ x :: l := p.mem_iff.mpr List.mem_cons_self
      have h4 : x ∈ y :: m := p.mem_iff.mp List.mem_cons_self
      rcases List.mem_cons.mp h3 with e | h3
      · exact e.symm
      · rcases List.mem_cons.mp h4 with e | h4
        · exact e
        · have := a.1 y h3
          have := b.1 x h4
          omega
    subst e
    rw [sorted_uniq p.cons_inv a.2 b.2]
/-! ### sorting pairs -/
theorem insG_perm {α : Type} (lt : α → α → Bool) (x : α) : ∀ l : List α, (ins lt x l).Perm (x :: l)
  | [] => List.Perm.refl _
  | y :: r => by
    unfold ins
    split
    · exact List.Perm.refl _
    · exact ((insG_perm lt x r).cons y).trans (List.Perm.swap x y r)
theorem isortG_perm {α : Type} (lt : α → α → Bool) : ∀ l : List α, (isort lt l).Perm l
  | [] => List.Perm.refl _
  | x :: r => by
    unfold isort
    exact (insG_perm lt x _).trans ((isortG_perm lt r).cons x)
def leP (p q : Int × Int) : Prop := p.1 < q.1 ∨ (p.1 = q.1 ∧ p.2 ≤ q.2)
instance (p q : Int × Int) : Decidable (leP p q) := by unfold leP; infer_instance
theorem ltP_iff {p q : Int × Int} : ltP p q = true ↔ ¬leP q p := by
  unfold ltP leP
  split <;> simp <;> omega
theorem leP_trans {p q r : Int × Int} (a : leP p q) (b : leP q r) : leP p r := by unfold leP at *; omega
theorem leP_anti {p q : Int × Int} (a : leP p q) (b : leP q p) : p = q := by
  unfold leP at *
  exact Prod.ext (by omega) (by omega)
theorem leP_total {p q : Int × Int} (a : ¬leP q p) : leP p q := by unfold leP at *; omega
theorem insP_sorted (x : Int × Int) : ∀ {l : List (Int × Int)}, l.Pairwise leP → (ins ltP x l).Pairwise leP
  | [], _ => by simp [ins]
  | y :: r, h => by
    have hc := List.pairwise_cons.mp h
    unfold ins
    split
    · rename_i hl
      have hxy := leP_total (ltP_iff.mp hl)
      refine List.pairwise_cons.mpr ⟨fun z hz => ?_, h⟩
      rcases List.mem_cons.mp hz with rfl | hz
      · exact hxy
      · exact leP_trans hxy (hc.1 z hz)
    · rename_i hl
      have hyx : leP y x := Classical.byContradiction fun hn => hl (ltP_iff.mpr hn)
      refine List.pairwise_cons.mpr ⟨fun z hz => ?_, insP_sorted x hc.2⟩
      rcases List.mem_cons.mp ((insG_perm ltP x r).mem_iff.mp hz) with rfl | hz
      · exact hyx
      · exact hc.1 z hz
theorem isortP_sorted : ∀ l : List (Int × Int), (isort ltP l).Pairwise leP
  | [] => by simp [isort]
  | x :: r => by unfold isort; exact insP_sorted x (isortP_sorted r)
theorem sortedP_uniq : ∀ {l m : List (Int × Int)}, l.Perm m → l.Pairwise leP → m.Pairwise leP → l = m
  | [], m, h, _, _ => (List.nil_perm.mp h).symm
  | x :: l, [], h, _, _ => by have := h.length_eq; simp at this
  | x :: l, y :: m, h, a, b => by
    have ha := List.pairwise_cons.mp a
    have hb := List.pairwise_cons.mp b
    have e : x = y := by
      have h1 : x ∈ y :: m := h.mem_iff.mp (List.mem_cons_self ..)
      have h2 : y ∈ x :: l := h.mem_iff.mpr (List.mem_cons_self ..)
      rcases List.mem_cons.mp h1 with h1 | h1
      · exact h1
      · rcases List.mem_cons.mp h2 with h2 | h2
        · exact h2.symm
        · exact leP_anti (ha.1 y h2) (hb.1 x h1)
    subst e
    rw [sortedP_uniq (List.Perm.cons_inv h) ha.2 hb.2]
theorem merge_isort (l : List (Int × Int)) : l.mergeSort (PySem.W.dataLe false prD) = isort ltP l := by
  have e : PySem.W.dataLe false prD = fun p q : Int × Int => decide (p.1 < q.1 ∨ (p.1 = q.1 ∧ p.2 ≤ q.2)) := PySem.W.dataLe_ii (fun p : Int × Int => p.1) (fun p => p.2)
  rw [e]
  refine sortedP_uniq ((List.mergeSort_perm ..).trans (isortG_perm ltP l).symm) ?_ (isortP_sorted l)
  refine (List.pairwise_mergeSort (fun a b c h1 h2 => ?_) (fun a b => ?_) l).imp fun h => of_decide_eq_true h
  · have h1 := of_decide_eq_true h1
    have h2 := of_decide_eq_true h2
    exact decide_eq_true (leP_trans h1 h2)
  · show (decide (leP a b) || decide (leP b a)) = true
    simp only [Bool.or_eq_true, decide_eq_true_eq]
    unfold leP
    omega
section
variable {C : Ct} {s : Shared} {ι : List Addr} {H : Hp}
def RIs (C : Ct) (ι : List Addr) (H : Hp) (v : Value) (p : Int × Int) : Prop := ∃ y, RelV y v ∧ Rep C ι H y (prV p)
theorem each_in : ∀ {ys : List V} {its : List Value} {l : List (Int × Int)}, Vals ys its → Reps C ι H ys (l.map prV) → PySem.W.EachIs (RIs C ι H) its l
  | _, _, [], .nil, _ => .nil
  | _, _, p :: l, .cons r t, h => by
    cases h with
    | cons a b => exact .cons ⟨_, r, a⟩ (each_in t b)
  | _, _, [], .cons _ _, h => by cases h
  | _, _, _ :: _, .nil, h => by cases h
theorem each_out : ∀ {out : List Value} {l : List (Int × Int)}, PySem.W.EachIs (RIs C ι H) out l → ∃ ys, Vals ys out ∧ Reps C ι H ys (l.map prV)
  | _, _, .nil => ⟨[], .nil, .nil⟩
  | _, _, .cons ⟨y, r, a⟩ t => by
    obtain ⟨ys, h1, h2⟩ := each_out t
    exact ⟨y :: ys, .cons r h1, .cons a h2⟩
theorem each_reads : ∀ {its : List Value} {l : List (Int × Int)} {as : List Addr}, ReadsAll s.heap its (l.map prD) as → PySem.W.EachIs (fun v b => ∃ as, Reads s.heap v (prD b) as) its l
  | _, [], _, h => by cases h; exact .nil
  | _, p :: l, _, h => by
    cases h with
    | cons a b => exact .cons ⟨_, a⟩ (each_reads b)
end
theorem call_sortedP {X : Cx} {F : Fm} {pins : List (Addr × Obj)} {s : Shared} {σ : L2.St} {ι : List Addr} {H : Hp} {a : Addr} {ys : List V} {us : List Value} {l : List (Int × Int)} {Q : VK} (hK : X.K = F.C.K) (hu : X.A.units + 65 < cLine) (I : L2.Inv X pins σ H s) (hx : SqL F.C.K H a ys) (rr : Reps F.C ι H ys (l.map prV)) (rs : Vals [.ref a] us)
    (k : ∀ (p : Addr) zs, H p = none → Reps F.C ι H zs ((isort ltP l).map prV) → Q (.ref p) (upd H p (.lst zs))) : wpAny (model X.prog X.w) X.A (call (.builtin "sorted") us) (EP X pins σ Q) X.xe s := by
  rw [Vals.ref1 rs]
  have dp : DpAll X.K H ys (l.map prD) := by rw [hK]; exact Reps.dp rr (toDs_pairs _)
  rw [← hK] at hx
  obtain ⟨its, rv, hl, hz⟩ := I.list hx
  obtain ⟨as, ra⟩ := Dp.readsAll I _ _ its dp rv
  have ll : l.length = ys.length := by rw [rr.length, List.length_map]
  refine PySem.W.sorted_data (β := Int × Int) (enc := prD) (R := RIs F.C ι H) hl.isList (each_in rv rr) (each_reads ra) ?_ (.inl ?_) (by omega) (fun b _ => by show X.A.units + 2 + 1 < cLine; omega) fun out ho he => ?_
  · intro d hd d' hd'
    obtain ⟨p, _, rfl⟩ := List.mem_map.mp hd
    obtain ⟨q, _, rfl⟩ := List.mem_map.mp hd'
    show PySem.W.alike (.tuple [.int p.1, .int p.2]) (.tuple [.int q.1, .int q.2]) = true
    simp [PySem.W.alike, PySem.W.alikeAll]
  · intro d hd
    obtain ⟨p, _, rfl⟩ := List.mem_map.mp hd
    exact ⟨_, _, rfl⟩
  rw [merge_isort] at he
  obtain ⟨zs, h1, h2⟩ := each_out he
  obtain ⟨ep, he'⟩ := PyProof.Rows.sortedAll_at s.heap its out.toArray
  exact ⟨.ref _, upd H (s.heap.objs.size + 1) (.lst zs), I.laid (t' := s.toks) (fun _ _ => PyProof.Rows.sortedAll_old) (Nat.le_succ _) ⟨by rw [h1.length, ho]; omega, out, ep, h1, he'⟩, rfl, k _ zs (I.hok.fresh (Nat.le_succ _)) h2⟩
theorem bi_sorted (hK : X.K = F.C.K) (hu : X.A.units + 65 < cLine) : CallR X (.builtin "sorted") (rFN F bSorted) := by
  intro pins s σ H xs us Q I rs ⟨ρ, st, ι, σ', ps, R, r, h⟩
  obtain ⟨z, e, hz⟩ := AftN.giv h
  unfold bSorted at e
  split at e
  · rename_i qs
    cases r with
    | cons r t =>
      cases t
      obtain ⟨a, ys, rfl, hx, r1⟩ := r.lstI
      split at e
      · rename_i ns e1
        cases e
        refine cr_sortedI pins s σ H _ us Q I rs ⟨a, ns, rfl, by rw [← r1.ints e1]; exact SqL.of hx, fun ns' p hp hs hn => ?_⟩
        have : ns' = isort (fun a b => decide (a < b)) ns := sorted_uniq (hp.trans (isort_perm ns).symm) hs (isort_sorted ns)
        rw [this]
        exact hz.new R hn (Reps.of_ints _)
      · obtain ⟨l, e1, e2⟩ := Option.map_eq_some_iff.mp e
        subst e2
        rw [pair_at e1] at r1
        exact call_sortedP hK hu I (SqL.of hx) r1 rs fun p zs hn hr => hz.new R hn hr
  · cases e
end
end PM
set_option Elab.async false
set_option linter.all false
set_option maxRecDepth 100000
set_option maxHeartbeats 4000000
/-! PM8: from the text to the form. -/
namespace PM
open PySem PySem.Spec PyProof.Rows L2 LamX

structure FnI where
  name : Str
  ps : List Str
  N : List Str
  params : Arguments
  body : List Stmt
  scope : Scope
  ret : Bool
  lam : Bool
  muts : List Str
/-- what is known of a program -/
structure SI where
  fns : List FnI
  gl : List (Str × PV)
  ec : List (Str × Nat)
  fr : List Str
  sh : List (Nat × Nat × List Str)
/-- what is known of a body -/
structure SS where
  N : List Str
  sc : Scope
  fn : Str → Bool
  own : Bool
  lam : Bool
  qual : Str
  ret : Bool
  muts : List Str
def gd {α : Type} (b : Bool) (x : Option α) : Option α := if b then x else none
theorem gd_some {α : Type} {b : Bool} {x : Option α} {a : α} : gd b x = some a ↔ b = true ∧ x = some a := by
  unfold gd
  cases b <;> simp
def okName (x : Str) : Bool := !(x == ("__debug__" : Str)) && !(x == ("__classdict__" : Str)) && !(x == ("__name__" : Str))
def visB (sc : Scope) (x : Str) : Bool := match sc.names.lookup x with | some .local => true | some .cell => true | some .free => true | _ => false
def locB (S : SS) (x : Str) : Bool := match S.sc.names.lookup x with | some .local => true | some .cell => S.fn x | _ => false
def glB (sc : Scope) (x : Str) : Bool := match sc.names.lookup x with | some .globalImplicit => true | _ => false
def slotGo (x : Str) : List Str → Nat → Option Nat
  | [], _ => none
  | y :: r, i => if y = x then some i else slotGo x r (i + 1)
def slot (N : List Str) (x : Str) : Option Nat := slotGo x N 0
def nostar : Expr → Bool | .Starred .. => false | _ => true
def nocomp : Expr → Bool | .ListComp .. => false | .SetComp .. => false | .DictComp .. => false | _ => true
def plainT : Expr → Bool
  | .UnaryOp .Not _ _ => false | .BoolOp .. => false | .IfExp .. => false | .Compare .. => false | _ => true
def noslice : Expr → Bool | .Slice .. => false | _ => true
def nocall : Expr → Bool | .Call .. => false | _ => true
def noset : Expr → Bool | .Set .. => false | _ => true
/-- a builtin's name, free in the module -/
def frB (G : SI) (S : SS) (x : Str) : Bool := okName x && glB S.sc x && decide (x ∈ G.fr)
def trOp : Operator → Option Bop
  | .Add => some .add | .Sub => some .sub | .Mult => some .mul | .FloorDiv => some .fdiv | .Mod => some .mod | .Pow => some .pow | _ => none
def trCop : CmpOp → Option Cop
  | .Eq => some .eq | .NotEq => some .ne | .Lt => some .lt | .LtE => some .le | .Gt => some .gt | .GtE => some .ge | .Is => some .isN | .IsNot => some .notN | .In => some .isin | .NotIn => some .notin
def trEs (f : Expr → Option E) : List Expr → Option Es
  | [] => some .nil
  | e :: r => gd (nostar e) ((f e).bind fun e' => (trEs f r).map (.cons e'))
def trKw (f : Expr → Option E) : List Keyword → Option Es
  | [] => some .nil
  | ⟨some _, e, _⟩ :: r => (f e).bind fun e' => (trKw f r).map (.cons e')
  | ⟨none, _, _⟩ :: _ => none
def kwNames : List Keyword → List Str
  | [] => []
  | ⟨some x, _, _⟩ :: r => x :: kwNames r
  | ⟨none, _, _⟩ :: r => kwNames r
def Es.app : Es → Es → Es
  | .nil, r => r
  | .cons e s, r => .cons e (s.app r)
def tgSlots : Tg → List Nat
  | .n i => [i]
  | .t l => go l
where go : List Tg → List Nat
  | [] => []
  | t :: l => tgSlots t ++ go l
def trTs (f : Expr → Option Tg) : List Expr → Option (List Tg)
  | [] => some []
  | e :: r => gd (nostar e) ((f e).bind fun e' => (trTs f r).map (e' :: ·))
def trT (S : SS) : Nat → Expr → Option Tg
  | 0, _ => none
  | n + 1, .Name x _ => gd (okName x && locB S x) ((slot S.N x).map .n)
  | n + 1, .Tuple es _ _ => (trTs (trT S n) es).map .t
  | n + 1, _ => none
def isRange (G : SI) (S : SS) : Expr → Option (List Expr)
  | .Call (.Name x _) as [] _ => gd (decide (x = "range") && frB G S x) (some as)
  | _ => none
def isSet (G : SI) (S : SS) : Expr → Option Expr
  | .Call (.Name x _) [a] [] _ => gd (decide (x = "set") && frB G S x) (some a)
  | _ => none
def stepC : Expr → Option Int
  | .Constant (.int i) _ _ => some i
  | .UnaryOp .USub (.Constant (.int i) _ _) _ => some (-i)
  | _ => none
def trIt (G : SI) (S : SS) (f : Expr → Option E) (tup : Bool) : Expr → Option It
  | .Call (.Name x p) as [] pos =>
    if decide (x = "range") && frB G S x then (match as with
      | [a] => gd (nostar a) ((f a).map .rng1)
      | [a, b] => gd (nostar a && nostar b) ((f a).bind fun a' => (f b).map fun b' => .rng2 a' b')
      | [a, b, s] => gd (nostar a && (nostar b && nostar s)) ((f a).bind fun a' => (f b).bind fun b' => (f s).map fun s' => .rng3 a' b' s')
      | _ => none)
    else if decide (x = "zip") && frB G S x then (match as with
      | [a, b] => gd (nostar a && nostar b && tup) ((f a).bind fun a' => (f b).map fun b' => .zip a' b')
      | _ => none)
    else if decide (x = "enumerate") && frB G S x then (match as with
      | [a] => gd (nostar a && tup) ((f a).map .enum)
      | _ => none)
    else (f (.Call (.Name x p) as [] pos)).map .seq
  | e => gd (noset e) ((f e).map .seq)
def isTup : Expr → Bool | .Tuple .. => true | _ => false
def bnames : List (Str × Nat × Bi) := [("len", 1, .len), ("abs", 1, .abs), ("max", 1, .maxL), ("max", 2, .max2), ("min", 1, .minL), ("min", 2, .min2), ("sum", 1, .sum), ("all", 1, .all), ("any", 1, .any), ("int", 1, .int1), ("str", 1, .str1), ("repr", 1, .repr), ("tuple", 1, .tuple)]
def nnames : List (Str × Bn) := [("list", .list), ("sorted", .sorted)]
def mnames : List (Str × Nat × Mt) := [("append", 1, .append), ("extend", 1, .extend), ("pop", 0, .pop), ("pop", 1, .popAt), ("upper", 0, .upper)]
def tnames : List String := ["int", "bool", "str", "tuple", "list", "float", "dict", "set"]
def find3 {α : Type} (x : Str) (n : Nat) : List (Str × Nat × α) → Option α
  | [] => none
  | (y, m, a) :: r => if x = y ∧ n = m then some a else find3 x n r
def find2 {α : Type} (x : Str) : List (Str × α) → Option α
  | [] => none
  | (y, a) :: r => if x = y then some a else find2 x r
def findT (x : Str) : List String → Option String
  | [] => none
  | t :: r => if x = Str.ofString t then some t else findT x r
def fnIx (x : Str) : List FnI → Nat → Option Nat
  | [], _ => none
  | f :: r, i => if f.name = x then some i else fnIx x r (i + 1)
/-- the places of the arguments in the parameters' order -/
def permOf (ps : List Str) (k : Nat) (ks : List Str) : List Nat := (List.range ps.length).map fun i => if i < k then i else k + (match slot ks (ps.getD i Str.empty) with | some j => j | none => 0)
def trCl (G : SI) (S : SS) : Expr → Option Cl
  | .Name x _ => if frB G S x then (if x = "ValueError" then some .ve else (findT x tnames).map .ty) else gd (okName x && glB S.sc x) ((find2 x G.ec).map .ec)
  | _ => none
def trCall (G : SI) (S : SS) (f : Expr → Option E) (x : Str) (as : List Expr) (kws : List Keyword) : Option E :=
  if visB S.sc x then (match kws with
    | [] => gd (okName x) ((slot S.N x).bind fun i => (trEs f as).map fun es => .callv i es)
    | _ :: _ => none)
  else gd (glB S.sc x && okName x) (match fnIx x G.fns 0 with
    | some i => gd (decide ((i, as.length, kwNames kws) ∈ G.sh)) (G.fns[i]?.bind fun fi => (trEs f as).bind fun es => (trKw f kws).map fun ks => .call i (es.app ks) (permOf fi.ps as.length (kwNames kws)))
    | none => match kws with
      | [] => match find2 x G.ec with
       | some c => (match as with
        | [a] => gd (nostar a) ((f a).map fun a' => .mk c x a')
        | _ => none)
       | none => gd (decide (x ∈ G.fr)) (match as with
        | [] => none
        | [a] => (match isRange G S a with
          | some rs => (if x = "list" then (match rs with
              | [b] => gd (nostar b) ((f b).map fun b' => .bn .lr1 (.cons b' .nil))
              | [b, c] => gd (nostar b && nostar c) ((f b).bind fun b' => (f c).map fun c' => .bn .lr2 (.cons b' (.cons c' .nil)))
              | _ => none)
            else if x = "tuple" then (match rs with
              | [b] => gd (nostar b) ((f b).map fun b' => .bi .tr1 (.cons b' .nil))
              | [b, c] => gd (nostar b && nostar c) ((f b).bind fun b' => (f c).map fun c' => .bi .tr2 (.cons b' (.cons c' .nil)))
              | _ => none)
            else none)
          | none => match isSet G S a with
            | some b => gd (decide (x = "sorted") && nostar b) ((f b).map fun b' => .bn .sset (.cons b' .nil))
            | none => gd (nostar a) ((f a).bind fun a' => match find3 x 1 bnames with
              | some b => some (.bi b (.cons a' .nil))
              | none => (find2 x nnames).map fun b => .bn b (.cons a' .nil)))
        | [a, b] => if x = "isinstance" then gd (nostar a && nostar b) ((f a).bind fun a' => (trCl G S b).map fun c => .isi a' c)
          else (trEs f [a, b]).bind fun es => (find3 x 2 bnames).map fun o => .bi o es
        | _ => none)
      | _ :: _ => none)
/-- .. of a comprehension's scope -/
def SS.blk (S : SS) (scope : Scope) : SS := { S with sc := relS scope S.sc, fn := fun x => scope.names.lookup x == some .cell, own := false, lam := false, muts := [] }
def ownOf (N : List Str) : List (Str × NameKind) → List (Str × Nat)
  | [] => []
  | (x, k) :: r => match k with
    | .local => (match slot N x with | some i => (x, i) :: ownOf N r | none => ownOf N r)
    | .cell => (match slot N x with | some i => (x, i) :: ownOf N r | none => ownOf N r)
    | _ => ownOf N r
def noDfl : Arguments → Bool
  | ⟨[], _, none, [], [], none, []⟩ => true
  | _ => false
def noPos : Arguments → Bool
  | ⟨_, _, _, _, [], _, []⟩ => true
  | _ => false
def trE (G : SI) : Nat → SS → Expr → Option E
  | 0, _, _ => none
  | n + 1, S, e => match e with
    | .Name x _ => gd (okName x) (if visB S.sc x then (slot S.N x).map .v else gd (glB S.sc x) ((find2 x G.gl).map .k))
    | .Constant c _ _ => (match c with
      | .none => some (.k .non) | .bool b => some (.k (.bl b)) | .int i => some (.k (.int i)) | .str s => some (.k (.str s)) | _ => none)
    | .BinOp a o b _ => (trOp o).bind fun o' => (trE G n S a).bind fun a' => (trE G n S b).map fun b' => .bin o' a' b'
    | .UnaryOp o a _ => (match o with
      | .USub => (trE G n S a).map .neg | .Not => (trE G n S a).map .not | _ => none)
    | .Compare a [o] [b] _ => gd (!behindInMarks o b) ((trCop o).bind fun o' => (trE G n S a).bind fun a' => (trE G n S b).map fun b' => .cmp o' a' b')
    | .Compare a [o, p] [b, c] _ => gd (!lastMarks [o, p] [b, c]) ((trCop o).bind fun o' => (trCop p).bind fun p' => (trE G n S a).bind fun a' => (trE G n S b).bind fun b' => (trE G n S c).map fun c' => .chain o' p' a' b' c')
    | .BoolOp o [a] _ => trE G n S a
    | .BoolOp o (a :: b :: r) pos => (trE G n S a).bind fun a' => (trE G n S (.BoolOp o (b :: r) pos)).map fun b' => (match o with | .And => .and a' b' | .Or => .or a' b')
    | .IfExp t a b _ => (trE G n S t).bind fun t' => (trE G n S a).bind fun a' => (trE G n S b).map fun b' => .ite t' a' b'
    | .Tuple es _ _ => gd (decide (es.length ≤ 1000)) ((trEs (trE G n S) es).map .tup)
    | .List es _ => gd (decide (es.length ≤ 1000)) ((trEs (trE G n S) es).map .lst)
    | .Subscript a (.Slice none none (some (.UnaryOp .USub (.Constant (.int 1) _ _) _)) _) _ => (trE G n S a).map .rev
    | .Subscript a (.Slice lo hi none _) _ => (trE G n S a).bind fun a' =>
      (match lo with | none => some none | some l => (trE G n S l).map some).bind fun l' => (match hi with | none => some none | some h => (trE G n S h).map some).map fun h' => .sl a' l' h'
    | .Subscript a i _ => gd (noslice i) ((trE G n S a).bind fun a' => (trE G n S i).map fun i' => .ix a' i')
    | .Attribute a x _ => gd (decide (x = "value") && nocall a) ((trE G n S a).map .at)
    | .Lambda params body scope _ => gd (S.own && S.lam && lamB S.sc scope && noPos params) (some (.lam ⟨S.qual ++ "<lambda>", params, body, scope, S.N⟩))
    | .ListComp elt [⟨tg, iter, ifs, 0⟩] scope _ => gd (blkC S.N S.sc scope (ownOf S.N scope.names) && noset iter) ((trT (S.blk scope) 9 tg).bind fun t =>
        gd (((ownOf S.N scope.names).all fun p => decide (p.2 ∈ tgSlots t)) && (tgSlots t).all fun i => decide (i ∈ (ownOf S.N scope.names).map (·.2))) ((trIt G S (trE G n S) (isTup tg) iter).bind fun it =>
        (match ifs with | [] => some none | [c] => (trE G n (S.blk scope) c).map some | _ => none).bind fun c' =>
        (trE G n (S.blk scope) elt).map fun e' => .cm t it c' e'))
    | .Dict [] [] _ => some (.dc [] [])
    | .Dict [some (.Constant (.str k) _ _)] [.Constant (.int i) _ _] _ => some (.dc [k] [.int i])
    | .Call (.Name x _) as kws _ => trCall G S (trE G n S) x as kws
    | .Call (.Attribute o m ap) as [] cp => gd (nocall o && decide (ap.endLine = cp.line)) ((trE G n S o).bind fun o' => (trEs (trE G n S) as).bind fun es => (find3 m as.length mnames).map fun k => .mt k o' es)
    | _ => none
end PM
set_option Elab.async false
set_option linter.all false
set_option maxRecDepth 100000
set_option maxHeartbeats 4000000
/-! PM9: expressions are sound. -/
namespace PM
open PySem PySem.Spec PyProof.Rows L2 LamX

/-- a program over its boot -/
structure PD where
  P : Program
  w : World
  K : PySem.W.Frag
  mg : Str → Option Value
  base : Heap
  G : SI
  cf : Nat → Nat → Nat → List PV → List Env → Store → R PV
  cl : Nat → Nat → LamI → List PV → Env → List Env → Store → R PV
  fa : Nat → Addr
  cA : Nat → Addr
  T : List (Addr × Str)
structure PD.Ok (D : PD) : Prop where
  gl : ∀ x v, find2 x D.G.gl = some v → ∃ (xv : V) (u : Value), D.mg x = some u ∧ RelV xv u ∧ ∀ (C : Ct) (ι : List Addr) (H : Hp), C.K = D.K → Rep C ι H xv v
  fr : ∀ x, x ∈ D.G.fr → D.mg x = none
  fn : ∀ i fi, D.G.fns[i]? = some fi → D.mg fi.name = some (.ref (D.fa i)) ∧ PySem.W.keepIn D.K (.ref (D.fa i)) = true
  ec : ∀ x c, find2 x D.G.ec = some c → D.mg x = some (.ref (D.cA c))
  isi : ∀ x c, find2 x D.G.ec = some c → ∀ t ∈ ["NoneType", "bool", "int", "str", "tuple", "list", "dict"], PySem.W.kitOne D.K (.type t) (.ref (D.cA c)) = some false
def CallS (D : PD) (X : Cx) (F : Fm) (c : Cfg) : Prop := ∀ (i : Nat) (fi : FnI) (k : Nat) (ks : List Str), D.G.fns[i]? = some fi → (i, k, ks) ∈ D.G.sh →
  ∀ (pins : List (Addr × Obj)) (s : Shared) (σ : L2.St) (H : Hp) (us ws : List Value) (vs zs : List V) (Q : VK) (ρ : Env) (st : Store) (ι : List Addr) (ps qs : List PV),
    L2.Inv X pins σ H s → F.Rl ρ st ι σ H → Vals vs us → Vals zs ws → us.length = k → ws.length = ks.length → Reps F.C ι H vs ps → Reps F.C ι H zs qs →
    Aft F (rpV F) ρ ι σ H (c.cf i (permA (permOf fi.ps k ks) (ps ++ qs)) (c.Φ ρ) st) Q → wpAny (model X.prog X.w) X.A (call (.ref (D.fa i)) us (ks.zip ws)) (EP X pins σ Q) X.xe s
def FnAt0 (f : Addr) (h : Heap) : Prop := PySem.W.FnAt f h
def CloS (D : PD) (X : Cx) (F : Fm) (c : Cfg) : Prop := ∀ (l : LamI) (lv : Nat) (ρc : Env) (f : Addr) (pins : List (Addr × Obj)) (s : Shared) (σ : L2.St) (H : Hp) (us : List Value) (vs : List V) (Q : VK) (ρ : Env) (st : Store) (ι : List Addr) (ps : List PV),
    L2.Inv X pins σ H s → F.Rl ρ st ι σ H → Rep F.C ι H (.ref f) (.clo l lv) → Vals vs us → Reps F.C ι H vs ps → (c.Φ ρ)[lv]? = some ρc →
    Aft F (rpV F) ρ ι σ H (c.cl l ps ρc (c.Φ ρ) st) Q → wpAny (model X.prog X.w) X.A (call (.ref f) us) (EP X pins σ Q) X.xe s
/-- the cells of a frame hold its values -/
def CellsV (N : List Str) (sc : Scope) (cells : List (Str × Addr)) (σ : L2.St) (ex : List Addr) (h : Heap) (H : Hp) : Prop := ∀ (i : Nat) (x : Str) (v : V), N[i]? = some x → (sc.names.lookup x = some .cell ∨ sc.names.lookup x = some .free) → σ[i]? = some (some v) →
  ∃ (a : Addr) (u : Value), cells.lookup x = some a ∧ RelV v u ∧ h.IsCell a (some u) ∧ H a = none ∧ a ∉ ex
structure LvOk (N : List Str) (sc : Scope) (cells : List (Str × Addr)) : Prop where
  has : ∀ x, (sc.names.lookup x = some .cell ∨ sc.names.lookup x = some .free) → ∃ a, cells.lookup x = some a
  inj : ∀ x y a, cells.lookup x = some a → cells.lookup y = some a → x = y
/-- the cells that are there, untracked -/
def CellsT (cells : List (Str × Addr)) (ex : List Addr) (h : Heap) (H : Hp) : Prop := ∀ x a, cells.lookup x = some a → (∃ v, h.IsCell a v) ∧ H a = none ∧ a ∉ ex
/-- a good context, at the depth d -/
structure Good (D : PD) (d : Nat) (S : SS) (X : Cx) (F : Fm) (c : Cfg) : Prop where
  prog : X.prog = D.P
  w : X.w = D.w
  K : X.K = D.K
  mg : X.mg = D.mg
  base : X.base = D.base
  calm : X.calm = true
  gds : X.A.guards = some []
  room : Room (d + 8) X.A
  N : X.N = S.N
  nd : S.N.Nodup
  sc : X.env.scope = S.sc
  fn : X.fn = S.fn
  Fk : F.C.K = D.K
  FcA : F.C.cA = D.cA
  FT : F.T = D.T
  tk : Takes X F.W
  nb : ∀ q ∈ F.C.lows, q.1 ≤ c.nb
  cf : c.cf = D.cf c.W d
  cl : c.cl = D.cl c.W d
  lv : S.own = true → c.lv = F.Φ0.length
  lZ : F.Z0.length = F.Φ0.length
  own : S.own = true → F.C.γ.length = F.Φ0.length + 1 ∧ F.C.γ[F.Φ0.length]? = some (X.N, X.env.scope, X.env.cells) ∧ ∀ ρ, c.Φ ρ = F.Φ0 ++ [ρ]
  blk : S.own = false → F.C.γ.length = F.Φ0.length ∧ ∀ ρ, c.Φ ρ = F.Φ0
  lev : ∀ (lv : Nat) (σl : L2.St) (ρl : Env), F.Z0[lv]? = some σl → F.Φ0[lv]? = some ρl → REnv F.C F.ι0 F.H0 σl ρl ∧ ρl.length = σl.length
  cells : ∀ (lv : Nat) (σl : L2.St) N sc cells, F.Z0[lv]? = some σl → F.C.γ[lv]? = some (N, sc, cells) → CellsV N sc cells σl X.ex X.s_0.heap X.H_0 ∧ CellsT cells X.ex X.s_0.heap X.H_0 ∧ σl.length = N.length
  lvok : ∀ (lv : Nat) N sc cells, F.C.γ[lv]? = some (N, sc, cells) → LvOk N sc cells
  lam : S.lam = true → X.env.qual = S.qual ∧ ∃ c P, TabB X.base X.mg c P ∧ X.env.code = .ref c ∧ (P, S.qual ++ "<lambda>") ∈ D.T ∧ ∀ p ∈ D.T, p.1 = P → p.2 = S.qual ++ "<lambda>"
theorem Good.un {D : PD} {d : Nat} {S : SS} {X : Cx} {F : Fm} {c : Cfg} (g : Good D d S X F c) : X.A.units + 200 < cLine := by have := g.room.un; omega
/-- calls are sound -/
def CallAll (D : PD) (d : Nat) : Prop := ∀ (S : SS) (X : Cx) (F : Fm) (c : Cfg), Good D d S X F c → CallS D X F c ∧ CloS D X F c
theorem slotGo_ok {x : Str} : ∀ {N : List Str} {i j : Nat}, slotGo x N i = some j → i ≤ j ∧ N[j - i]? = some x
  | [], _, _, h => by cases h
  | y :: r, i, j, h => by
    unfold slotGo at h
    split at h
    · rename_i e
      cases h
      subst e
      exact ⟨Nat.le_refl _, by simp⟩
    · obtain ⟨h1, h2⟩ := slotGo_ok h
      refine ⟨by omega, ?_⟩
      have : j - i = (j - (i + 1)) + 1 := by omega
      rw [this, List.getElem?_cons_succ]
      exact h2
theorem slot_ok {N : List Str} {x : Str} {i : Nat} (h : slot N x = some i) : N[i]? = some x := (slotGo_ok h).2
theorem okName_of {x : Str} (h : okName x = true) : (x == ("__debug__" : Str)) = false ∧ (x == ("__classdict__" : Str)) = false ∧ x ≠ "__name__" := by
  unfold okName at h
  simp only [Bool.and_eq_true, Bool.not_eq_true'] at h
  exact ⟨h.1.1, h.1.2, fun z => by rw [z] at h; exact absurd h.2 (by decide)⟩
theorem visB_of {sc : Scope} {x : Str} (h : visB sc x = true) : Vis sc x := by
  unfold visB at h
  split at h <;> first | cases h | skip
  · exact .inl (by assumption)
  · exact .inr (.inl (by assumption))
  · exact .inr (.inr (by assumption))
theorem glB_of {sc : Scope} {x : Str} (h : glB sc x = true) : sc.names.lookup x = some .globalImplicit := by
  unfold glB at h
  split at h <;> first | cases h | skip
  assumption
section
variable {D : PD} {d : Nat} {S : SS} {X : Cx} {F : Fm} {c : Cfg}
theorem Good.gl (g : Good D d S X F c) {x : Str} (h : glB S.sc x = true) : Gl X x := by
  show X.env.scope.names.lookup x = _
  rw [g.sc]
  exact glB_of h
theorem Good.vis (g : Good D d S X F c) {x : Str} (h : visB S.sc x = true) : Vis X.env.scope x := by
  rw [g.sc]
  exact visB_of h
theorem Good.loc (g : Good D d S X F c) {x : Str} (h : locB S x = true) : Loc X.env.scope x ∧ (X.fn x = true ∨ X.env.scope.names.lookup x = some .local) := by
  rw [g.sc, g.fn]
  unfold locB at h
  split at h <;> first | cases h | skip
  · exact ⟨.inl (by assumption), .inr (by assumption)⟩
  · exact ⟨.inr (by assumption), .inl h⟩
/-- a name -/
theorem e_var (g : Good D d S X F c) {x : Str} {i : Nat} {pos : Pos} (h1 : okName x = true) (h2 : visB S.sc x = true) (h3 : slot S.N x = some i) : PE X (.Name x pos) (tE F fun ρ st => giv (gv ρ i) st) := by
  obtain ⟨n1, n2, _⟩ := okName_of h1
  refine PE.weak (pe_var (i := i) (by rw [g.N]; exact slot_ok h3) (g.vis h2) n1 n2) fun σ H Q ⟨ρ, st, ι, R, h⟩ => ?_
  obtain ⟨v, e, h⟩ := Aft.giv h
  obtain ⟨xv, e1, r⟩ := R.env.gv e
  exact ⟨xv, e1, h.ok R r⟩
theorem e_gl (ok : D.Ok) (g : Good D d S X F c) {x : Str} {v : PV} {pos : Pos} (h1 : okName x = true) (h2 : glB S.sc x = true) (h3 : find2 x D.G.gl = some v) : PE X (.Name x pos) (tE F fun _ st => .ok v st) := by
  obtain ⟨n1, n2, _⟩ := okName_of h1
  obtain ⟨xv, u, e, r, rp⟩ := ok.gl x v h3
  exact PE.weak (pe_glob (g.gl h2) (by rw [g.mg]; exact e) r n1) fun σ H Q ⟨ρ, st, ι, R, h⟩ => h.ok R (rp F.C ι H g.Fk)
theorem e_const (v : V) (p : PV) (hr : ∀ C ι H, Rep C ι H v p) {e : Expr} (h : PE X e (tC v)) : PE X e (tE F fun _ st => .ok p st) :=
  PE.weak h fun σ H Q ⟨ρ, st, ι, R, h⟩ => h.ok R (hr _ _ _)
theorem e_bin (g : Good D d S X F c) {a b : Expr} {a' b' : E} {o : Bop} {pos : Pos} (ha : PE X a (tE F (ev c a').v)) (hb : PE X b (tE F (ev c b').v)) : PE X (.BinOp a (opOf o) b pos) (tE F (ev c (.bin o a' b')).v) := by
  refine PE.weak (pe_op (op_bin (F := F) (by rw [g.K, g.Fk]) o) ha hb) fun σ H Q ⟨ρ, st, ι, R, h⟩ => ?_
  refine seqA R h fun st1 x xv ι1 H1 s1 R1 r1 h1 => ?_
  refine seqA R1 h1 fun st2 y yv ι2 H2 s2 R2 r2 h2 => ?_
  exact ⟨ρ, st2, ι2, σ, _, _, R2, R2.rst.view (r1.mono s2), R2.rst.view r2, h2⟩
theorem e_neg (g : Good D d S X F c) {a : Expr} {a' : E} {pos : Pos} (ha : PE X a (tE F (ev c a').v)) : PE X (.UnaryOp .USub a pos) (tE F (ev c (.neg a')).v) := by
  refine PE.weak (pe_un un_neg ha) fun σ H Q ⟨ρ, st, ι, R, h⟩ => ?_
  refine seqA R h fun st1 x xv ι1 H1 s1 R1 r1 h1 => ?_
  cases x with
  | int i => exact ⟨i, r1.intI, h1.ok R1 (.int _)⟩
  | _ => exact h1.elim
theorem cmp_aft {F : Fm} {ρ : Env} {ι : List Addr} {σ : L2.St} {H : Hp} {o : Option Bool} {st : Store} {Q : VK} (h : Aft F (rpV F) ρ ι σ H (bnd (giv o st) fun b st => .ok (.bl b) st) Q) : Aft F (rpV F) ρ ι σ H (giv (o.map .bl) st) Q := by
  cases o with
  | none => exact h.elim
  | some b => exact h
theorem cmp_aftB {F : Fm} {ρ : Env} {ι : List Addr} {σ : L2.St} {H : Hp} {o : Option Bool} {st : Store} {Q : Bool → Hp → Prop} (h : Aft F rpB ρ ι σ H (bnd (giv o st) fun b st => .ok b st) Q) : Aft F (rpV F) ρ ι σ H (giv (o.map .bl) st) fun x H' => ∃ k, x = .bl k ∧ Q k H' := by
  cases o with
  | none => exact h.elim
  | some k => exact fun z ι' H' s' R' r' => ⟨k, r'.blI, h k ι' H' s' R' rfl⟩
theorem e_cmp (g : Good D d S X F c) {a b : Expr} {a' b' : E} {o : Cop} {pos : Pos} (hm : behindInMarks (copOf o) b = false) (ha : PE X a (tE F (ev c a').v)) (hb : PE X b (tE F (ev c b').v)) : PE X (.Compare a [copOf o] [b] pos) (tE F (ev c (.cmp o a' b')).v) := by
  refine PE.weak (pe_cmpR (op_cmp (F := F) (by rw [g.K, g.Fk]) (by have := g.un; omega) o) ha hb hm) fun σ H Q ⟨ρ, st, ι, R, h⟩ => ?_
  refine seqA R h fun st1 x xv ι1 H1 s1 R1 r1 h1 => ?_
  refine seqA R1 h1 fun st2 y yv ι2 H2 s2 R2 r2 h2 => ?_
  exact ⟨ρ, st2, ι2, σ, _, _, R2, R2.rst.view (r1.mono s2), R2.rst.view r2, cmp_aft h2⟩
/-- a test of a value that is a bool -/
theorem bnd_assoc {α β γ : Type} (r : R α) (f : α → Store → R β) (k : β → Store → R γ) : bnd (bnd r f) k = bnd r fun a st => bnd (f a st) k := by
  cases r <;> rfl
theorem t_cmp (g : Good D d S X F c) {a b : Expr} {a' b' : E} {o : Cop} {pos : Pos} (hm : behindInMarks (copOf o) b = false) (ha : PE X a (tE F (ev c a').v)) (hb : PE X b (tE F (ev c b').v)) : PT X (.Compare a [copOf o] [b] pos) (tT F (ev c (.cmp o a' b')).t) := by
  refine PT.weak (pt_cmpR (op_cmp (F := F) (by rw [g.K, g.Fk]) (by have := g.un; omega) o) ha hb hm) fun σ H Q ⟨ρ, st, ι, R, h⟩ => ?_
  have e : (ev c (.cmp o a' b')).t ρ st = (bnd ((ev c a').v ρ st) fun x st1 => bnd ((ev c b').v ρ st1) fun y st2 => bnd (giv (cmpV o (view st2 x) (view st2 y)) st2) fun k st => .ok k st) := by
    show bnd (bnd ((ev c a').v ρ st) _) _ = _
    rw [bnd_assoc]
    congr 1
    funext x st1
    rw [bnd_assoc]
    congr 1
    funext y st2
    rw [bnd_assoc]
    rfl
  have h : Aft F rpB ρ ι σ H ((ev c (.cmp o a' b')).t ρ st) Q := h
  rw [e] at h
  refine seqA R h fun st1 x xv ι1 H1 s1 R1 r1 h1 => ?_
  refine seqA R1 h1 fun st2 y yv ι2 H2 s2 R2 r2 h2 => ?_
  exact ⟨ρ, st2, ι2, σ, _, _, R2, R2.rst.view (r1.mono s2), R2.rst.view r2, cmp_aftB h2⟩
theorem chain_aft {F : Fm} {ρ : Env} {ι : List Addr} {σ : L2.St} {H : Hp} {o : Option Bool} {st : Store} {K : Bool → Hp → Prop} (h : ∃ k, o = some k ∧ ∀ ι' H', Step ι H ι' H' → F.Rl ρ st ι' σ H' → K k H') : Aft F (rpV F) ρ ι σ H (giv (o.map .bl) st) fun x H' => ∃ k, x = .bl k ∧ K k H' := by
  obtain ⟨k, rfl, h⟩ := h
  exact fun z ι' H' s' R' r' => ⟨k, r'.blI, h ι' H' s' R'⟩
theorem giv_bnd {α γ : Type} {F : Fm} {β : Type} {rp : List Addr → Hp → β → γ → Prop} {ρ : Env} {ι : List Addr} {σ : L2.St} {H : Hp} {o : Option α} {st : Store} {f : α → Store → R γ} {Q : β → Hp → Prop} (h : Aft F rp ρ ι σ H (bnd (giv o st) f) Q) : ∃ a, o = some a ∧ Aft F rp ρ ι σ H (f a st) Q := by
  cases o with
  | none => exact h.elim
  | some a => exact ⟨a, rfl, h⟩
theorem e_chain {n : Nat} (g : Good D n S X F c) {a b d : Expr} {a' b' d' : E} {o p : Cop} {pos : Pos} (hm : lastMarks [copOf o, copOf p] [b, d] = false) (ha : PE X a (tE F (ev c a').v)) (hb : PE X b (tE F (ev c b').v)) (hd : PE X d (tE F (ev c d').v)) :
    PE X (.Compare a [copOf o, copOf p] [b, d] pos) (tE F (ev c (.chain o p a' b' d')).v) := by
  have hc : ∀ o, OpR X (compareOp (copOf o)) (rOp F fun u v => (cmpV o u v).map .bl) := op_cmp (F := F) (by rw [g.K, g.Fk]) (by have := g.un; omega)
  refine PE.weak (pe_chain (hc o) (hc p) ha hb hd hm) fun σ H Q ⟨ρ, st, ι, R, h⟩ => ?_
  refine seqA R h fun st1 x xv ι1 H1 s1 R1 r1 h1 => ?_
  refine seqA R1 h1 fun st2 y yv ι2 H2 s2 R2 r2 h2 => ?_
  obtain ⟨k, e, h2⟩ := giv_bnd h2
  refine ⟨ρ, st2, ι2, σ, _, _, R2, R2.rst.view (r1.mono s2), R2.rst.view r2, chain_aft ⟨k, e, fun ι3 H3 s3 R3 => ?_⟩⟩
  have h3 := Aft.step h2 s3
  cases k with
  | false =>
    rw [if_neg Bool.false_ne_true]
    exact h3.ok R3 (.bl false)
  | true =>
    rw [if_pos rfl]
    refine seqA R3 h3 fun st4 z zv ι4 H4 s4 R4 r4 h4 => ?_
    exact ⟨ρ, st4, ι4, σ, _, _, R4, R4.rst.view ((r2.mono s3).mono s4), R4.rst.view r4, cmp_aft h4⟩
theorem t_chain {n : Nat} (g : Good D n S X F c) {a b d : Expr} {a' b' d' : E} {o p : Cop} {pos : Pos} (hm : lastMarks [copOf o, copOf p] [b, d] = false) (ha : PE X a (tE F (ev c a').v)) (hb : PE X b (tE F (ev c b').v)) (hd : PE X d (tE F (ev c d').v)) :
    PT X (.Compare a [copOf o, copOf p] [b, d] pos) (tT F (ev c (.chain o p a' b' d')).t) := by
  have hc : ∀ o, OpR X (compareOp (copOf o)) (rOp F fun u v => (cmpV o u v).map .bl) := op_cmp (F := F) (by rw [g.K, g.Fk]) (by have := g.un; omega)
  refine PT.weak (pt_chain (hc o) (hc p) ha hb hd hm) fun σ H Q ⟨ρ, st, ι, R, h⟩ => ?_
  have e : (ev c (.chain o p a' b' d')).t ρ st = (bnd ((ev c a').v ρ st) fun x st => bnd ((ev c b').v ρ st) fun y st => bnd (giv (cmpV o (view st x) (view st y)) st) fun k st =>
      if k then bnd ((ev c d').v ρ st) fun z st => bnd (giv (cmpV p (view st y) (view st z)) st) fun b st => .ok b st else .ok false st) := by
    show bnd (bnd ((ev c a').v ρ st) _) _ = _
    rw [bnd_assoc]
    congr 1
    funext x st1
    rw [bnd_assoc]
    congr 1
    funext y st2
    rw [bnd_assoc]
    congr 1
    funext k st3
    cases k with
    | false => rfl
    | true =>
      rw [if_pos rfl, if_pos rfl, bnd_assoc]
      congr 1
      funext z st4
      rw [bnd_assoc]
      rfl
  have h : Aft F rpB ρ ι σ H ((ev c (.chain o p a' b' d')).t ρ st) Q := h
  rw [e] at h
  refine seqA R h fun st1 x xv ι1 H1 s1 R1 r1 h1 => ?_
  refine seqA R1 h1 fun st2 y yv ι2 H2 s2 R2 r2 h2 => ?_
  obtain ⟨k, e, h2⟩ := giv_bnd h2
  refine ⟨ρ, st2, ι2, σ, _, _, R2, R2.rst.view (r1.mono s2), R2.rst.view r2, chain_aft ⟨k, e, fun ι3 H3 s3 R3 => ?_⟩⟩
  have h3 := Aft.step h2 s3
  cases k with
  | false =>
    rw [if_neg Bool.false_ne_true]
    exact ⟨false, rfl, h3.ok R3 rfl⟩
  | true =>
    rw [if_pos rfl]
    refine seqA R3 h3 fun st4 z zv ι4 H4 s4 R4 r4 h4 => ?_
    exact ⟨ρ, st4, ι4, σ, _, _, R4, R4.rst.view ((r2.mono s3).mono s4), R4.rst.view r4, cmp_aftB h4⟩
/-- a plain expression as a test -/
theorem t_plain (g : Good D d S X F c) {e : Expr} {e' : E} (hp : plainT e = true) (hm : ∀ ρ st, (ev c e').t ρ st = bnd ((ev c e').v ρ st) fun x st => giv (truV (view st x)) st) (h : PE X e (tE F (ev c e').v)) : PT X e (tT F (ev c e').t) := by
  have he : ∀ whole, isTrue e X.env whole = (do let v ← whole; standAt e.pos; holding [v] (truthy v)) := by
    intro whole
    cases e <;> first | rfl | cases hp | (rename_i op _ _; cases op <;> first | rfl | cases hp)
  refine PT.weak (pt_truth h he) fun σ H Q ⟨ρ, st, ι, R, h⟩ => ?_
  have h : Aft F rpB ρ ι σ H ((ev c e').t ρ st) Q := h
  rw [hm] at h
  refine seqA R h fun st1 x xv ι1 H1 s1 R1 r1 h1 => ?_
  obtain ⟨k, e, h1⟩ := Aft.giv h1
  refine ⟨k, ?_, h1.ok R1 rfl⟩
  rw [g.K, ← g.Fk]
  exact tru_of (R1.rst.view r1) e
theorem t_not (g : Good D d S X F c) {a : Expr} {a' : E} {pos : Pos} (ha : PT X a (tT F (ev c a').t)) : PT X (.UnaryOp .Not a pos) (tT F (ev c (.not a')).t) := by
  refine PT.weak (pt_not ha) fun σ H Q ⟨ρ, st, ι, R, h⟩ => ?_
  refine seqA R h fun st1 x xv ι1 H1 s1 R1 r1 h1 => ?_
  have r1 : xv = x := r1
  subst r1
  exact h1.ok R1 rfl
theorem e_not (g : Good D d S X F c) {a : Expr} {a' : E} {pos : Pos} (ha : PE X a (tE F (ev c a').v)) : PE X (.UnaryOp .Not a pos) (tE F (ev c (.not a')).v) := by
  refine PE.weak (pe_not ha) fun σ H Q ⟨ρ, st, ι, R, h⟩ => ?_
  refine seqA R h fun st1 x xv ι1 H1 s1 R1 r1 h1 => ?_
  cases x with
  | bl b => exact ⟨b, r1.blI, h1.ok R1 (.bl _)⟩
  | _ => exact h1.elim
theorem e_and (g : Good D d S X F c) {a b : Expr} {r : List Expr} {a' b' : E} {pos : Pos} (ha : PE X a (tE F (ev c a').v)) (hb : PE X (.BoolOp .And (b :: r) pos) (tE F (ev c b').v)) : PE X (.BoolOp .And (a :: b :: r) pos) (tE F (ev c (.and a' b')).v) := by
  refine PE.weak (pe_and ha hb) fun σ H Q ⟨ρ, st, ι, R, h⟩ => ?_
  refine seqA R h fun st1 x xv ι1 H1 s1 R1 r1 h1 => ?_
  cases x with
  | bl b =>
    refine ⟨b, r1.blI, ?_⟩
    cases b with
    | true => exact ⟨ρ, st1, ι1, R1, h1⟩
    | false => exact h1.ok R1 (.bl _)
  | _ => exact h1.elim
theorem e_or (g : Good D d S X F c) {a b : Expr} {r : List Expr} {a' b' : E} {pos : Pos} (ha : PE X a (tE F (ev c a').v)) (hb : PE X (.BoolOp .Or (b :: r) pos) (tE F (ev c b').v)) : PE X (.BoolOp .Or (a :: b :: r) pos) (tE F (ev c (.or a' b')).v) := by
  refine PE.weak (pe_or ha hb) fun σ H Q ⟨ρ, st, ι, R, h⟩ => ?_
  refine seqA R h fun st1 x xv ι1 H1 s1 R1 r1 h1 => ?_
  cases x with
  | bl b =>
    refine ⟨b, r1.blI, ?_⟩
    cases b with
    | true => exact h1.ok R1 (.bl _)
    | false => exact ⟨ρ, st1, ι1, R1, h1⟩
  | _ => exact h1.elim
theorem t_and (g : Good D d S X F c) {a b : Expr} {r : List Expr} {a' b' : E} {pos : Pos} (ha : PT X a (tT F (ev c a').t)) (hb : PW X (.BoolOp .And (b :: r) pos) (tT F (ev c b').t)) : PW X (.BoolOp .And (a :: b :: r) pos) (tT F (ev c (.and a' b')).t) := by
  refine PW.weak (pw_and ha hb) fun σ H Q ⟨ρ, st, ι, R, h⟩ => ?_
  refine seqA R h fun st1 x xv ι1 H1 s1 R1 r1 h1 => ?_
  have r1 : xv = x := r1
  subst r1
  cases xv with
  | true => exact ⟨ρ, st1, ι1, R1, h1⟩
  | false => exact h1.ok R1 rfl
theorem t_or (g : Good D d S X F c) {a b : Expr} {r : List Expr} {a' b' : E} {pos : Pos} (ha : PT X a (tT F (ev c a').t)) (hb : PW X (.BoolOp .Or (b :: r) pos) (tT F (ev c b').t)) : PW X (.BoolOp .Or (a :: b :: r) pos) (tT F (ev c (.or a' b')).t) := by
  refine PW.weak (pw_or ha hb) fun σ H Q ⟨ρ, st, ι, R, h⟩ => ?_
  refine seqA R h fun st1 x xv ι1 H1 s1 R1 r1 h1 => ?_
  have r1 : xv = x := r1
  subst r1
  cases xv with
  | true => exact h1.ok R1 rfl
  | false => exact ⟨ρ, st1, ι1, R1, h1⟩
theorem e_ite (g : Good D d S X F c) {t a b : Expr} {t' a' b' : E} {pos : Pos} (ht : PT X t (tT F (ev c t').t)) (ha : PE X a (tE F (ev c a').v)) (hb : PE X b (tE F (ev c b').v)) : PE X (.IfExp t a b pos) (tE F (ev c (.ite t' a' b')).v) := by
  refine PE.weak (pe_ifExp ht ha hb) fun σ H Q ⟨ρ, st, ι, R, h⟩ => ?_
  refine seqA R h fun st1 x xv ι1 H1 s1 R1 r1 h1 => ?_
  have r1 : xv = x := r1
  subst r1
  cases xv with
  | true => exact ⟨ρ, st1, ι1, R1, h1⟩
  | false => exact ⟨ρ, st1, ι1, R1, h1⟩
theorem pt_ite {t a b : Expr} {pos : Pos} {tt ta tb : TT} (ht : PT X t tt) (ha : PT X a ta) (hb : PT X b tb) : PT X (.IfExp t a b pos) (fun σ H Q => tt σ H fun k H1 => if k = true then ta σ H1 Q else tb σ H1 Q) := by
  refine ⟨fun pins s σ H Q I h => ?_⟩
  show wpAny _ _ (do if ← isTrue t X.env (eval t X.env) then isTrue a X.env (eval a X.env) else isTrue b X.env (eval b X.env)) _ _ s
  refine wpAny_bind (thn (ht.run pins s σ H _ I h) fun k s1 ⟨H1, I1, q1⟩ => ?_)
  cases k with
  | true => exact ha.run pins s1 σ H1 Q I1 q1
  | false => exact hb.run pins s1 σ H1 Q I1 q1
theorem t_ite (g : Good D d S X F c) {t a b : Expr} {t' a' b' : E} {pos : Pos} (ht : PT X t (tT F (ev c t').t)) (ha : PT X a (tT F (ev c a').t)) (hb : PT X b (tT F (ev c b').t)) : PT X (.IfExp t a b pos) (tT F (ev c (.ite t' a' b')).t) := by
  refine PT.weak (pt_ite ht ha hb) fun σ H Q ⟨ρ, st, ι, R, h⟩ => ?_
  refine seqA R h fun st1 x xv ι1 H1 s1 R1 r1 h1 => ?_
  have r1 : xv = x := r1
  subst r1
  cases xv with
  | true => exact ⟨ρ, st1, ι1, R1, h1⟩
  | false => exact ⟨ρ, st1, ι1, R1, h1⟩
/-! ### arguments -/
theorem star_cons {e : Expr} {es : List Expr} {env : PySem.Env} (h : nostar e = true) : starEach (e :: es) env = (false, eval e env) :: starEach es env := by
  cases e <;> first | rfl | cases h
theorem a_args {f : Expr → Option E} (hf : ∀ e e', f e = some e' → PE X e (tE F (ev c e').v)) : ∀ {as : List Expr} {es : Es}, trEs f as = some es → PA X as (tA F (evs c es)) ∧ (∀ pos, (backTo pos (starEach as X.env)).any (·.1) = false) ∧ (∀ pos, (backTo pos (starEach as X.env)).all (fun x => !x.1) = true)
  | [], es, h => by
    cases h
    exact ⟨PA.weak pa_nil fun σ H Q ⟨ρ, st, ι, R, h⟩ => h.ok R .nil, fun _ => rfl, fun _ => rfl⟩
  | e :: r, es, h => by
    unfold trEs at h
    obtain ⟨h0, h⟩ := gd_some.mp h
    obtain ⟨e', h1, h⟩ := Option.bind_eq_some_iff.mp h
    obtain ⟨es', h2, h⟩ := Option.map_eq_some_iff.mp h
    subst h
    obtain ⟨i1, i2, i3⟩ := a_args hf h2
    refine ⟨PA.weak (pa_cons (hf e e' h1) i1 (star_cons h0)) fun σ H Q ⟨ρ, st, ι, R, h⟩ => ?_, fun pos => ?_, fun pos => ?_⟩
    · refine seqA R h fun st1 x xv ι1 H1 s1 R1 r1 h1 => ?_
      refine seqA R1 h1 fun st2 y yv ι2 H2 s2 R2 r2 h2 => ?_
      exact h2.ok R2 (.cons (r1.mono s2) r2)
    · rw [star_cons h0]
      show (false || (backTo pos (starEach r X.env)).any (·.1)) = false
      rw [i2]; rfl
    · rw [star_cons h0]
      show (true && (backTo pos (starEach r X.env)).all (fun x => !x.1)) = true
      rw [i3]; rfl
theorem evs_len {c : Cfg} : ∀ {es : Es} {ρ : Env} {st st' : Store} {xs : List PV}, evs c es ρ st = .ok xs st' → xs.length = es.len
  | .nil, ρ, st, st', xs, h => by cases h; rfl
  | .cons e es, ρ, st, st', xs, h => by
    have h : bnd ((ev c e).v ρ st) (fun x st => bnd (evs c es ρ st) fun xs st => .ok (x :: xs) st) = .ok xs st' := h
    cases e1 : (ev c e).v ρ st with
    | ok a st1 =>
      rw [e1, bnd_ok] at h
      cases e2 : evs c es ρ st1 with
      | ok b st2 =>
        rw [e2, bnd_ok] at h
        cases h
        rw [List.length_cons, evs_len e2]; rfl
      | exc _ _ _ => rw [e2] at h; cases h
      | bad => rw [e2] at h; cases h
    | exc _ _ _ => rw [e1] at h; cases h
    | bad => rw [e1] at h; cases h
theorem trEs_len {f : Expr → Option E} : ∀ {as : List Expr} {es : Es}, trEs f as = some es → es.len = as.length
  | [], es, h => by cases h; rfl
  | e :: r, es, h => by
    unfold trEs at h
    obtain ⟨h0, h⟩ := gd_some.mp h
    obtain ⟨e', h1, h⟩ := Option.bind_eq_some_iff.mp h
    obtain ⟨es', h2, h⟩ := Option.map_eq_some_iff.mp h
    subst h
    rw [List.length_cons, ← trEs_len h2]; rfl
theorem e_tup (g : Good D d S X F c) {as : List Expr} {es : Es} {k : Nat} {pos : Pos} (hl : es.len ≤ 1000) (ha : PA X as (tA F (evs c es))) : PE X (.Tuple as k pos) (tE F (ev c (.tup es)).v) := by
  refine PE.weak (pe_tup ha) fun σ H Q ⟨ρ, st, ι, R, h⟩ => ?_
  refine seqE R h fun st1 x xv ι1 H1 e s1 R1 r1 h1 => ⟨?_, fun p hp => ?_⟩
  · rw [r1.length, evs_len e, sizeLine_eq]; omega
  · obtain ⟨s2, R2, r2⟩ := R1.tupN hp r1
    exact h1 _ _ _ s2 R2 r2
/-- a list that is just made, told by content or of the store -/
structure NewE (X : Cx) (F : Fm) (e : Expr) (m : Env → Store → R (List PV)) : Prop where
  n : PE X e (tN F m)
theorem NewE.v {e : Expr} {m : Env → Store → R (List PV)} (h : NewE X F e m) : PE X e (tE F fun ρ st => bnd (m ρ st) fun ps st => .ok (.lst ps) st) := PE.weak h.n fun σ H Q q => tN.lst q
theorem NewE.m {e : Expr} {m : Env → Store → R (List PV)} (h : NewE X F e m) : PE X e (tE F fun ρ st => bnd (m ρ st) fun ps st => if nrfs ps then .ok (.ref st.length) (st ++ [.lst ps]) else .bad) := PE.weak h.n fun σ H Q q => tN.mut q
theorem AftN.bnd {α β : Type} {rp : List Addr → Hp → β → α → Prop} {F : Fm} {σ : L2.St} {H : Hp} {m : Env → Store → R α} {f : Env → α → Store → R (List PV)} {Q : VK} {K : β → Hp → Prop} (h : tN F (fun ρ st => PM.bnd (m ρ st) (f ρ)) σ H Q)
    (k : ∀ ρ st st1 a x ι1 H1, m ρ st = .ok a st1 → F.Rl ρ st1 ι1 σ H1 → rp ι1 H1 x a → AftN F ρ ι1 σ H1 (f ρ a st1) Q → K x H1) : tG F rp m σ H K := by
  obtain ⟨ρ, st, ι, R, h⟩ := h
  refine ⟨ρ, st, ι, R, ?_⟩
  have h : AftN F ρ ι σ H (PM.bnd (m ρ st) (f ρ)) Q := h
  revert h
  cases e : m ρ st with
  | ok a st1 => exact fun h x ι1 H1 s1 R1 r1 => k ρ st st1 a x ι1 H1 e R1 r1 (AftN.step h s1)
  | exc c v st1 => exact fun h => h
  | bad => exact fun h => h
theorem n_lst (g : Good D d S X F c) {as : List Expr} {es : Es} {pos : Pos} (hl : es.len ≤ 1000) (ha : PA X as (tA F (evs c es))) : NewE X F (.List as pos) (evs c es) := by
  refine ⟨PE.weak (pe_lst ha) fun σ H Q h => ?_⟩
  obtain ⟨ρ, st, ι, R, h⟩ := h
  refine ⟨ρ, st, ι, R, ?_⟩
  revert h
  cases e : evs c es ρ st with
  | ok a st1 =>
    intro h x ι1 H1 s1 R1 r1
    refine ⟨?_, fun p hp => (AftN.step h s1).new R1 hp r1⟩
    rw [r1.length, evs_len e, sizeLine_eq]; omega
  | exc k v st1 => exact fun h => h
  | bad => exact fun h => h
/-! ### items, slices -/
theorem plainIx_of {b : Expr} (h : noslice b = true) : PlainIx b := fun o i => by cases b <;> first | rfl | cases h
theorem e_ix (g : Good D d S X F c) {a b : Expr} {a' b' : E} {pos : Pos} (hb : noslice b = true) (ha : PE X a (tE F (ev c a').v)) (hb' : PE X b (tE F (ev c b').v)) : PE X (.Subscript a b pos) (tE F (ev c (.ix a' b')).v) := by
  refine PE.weak (pe_ix (ix_ok (F := F) (by rw [g.K, g.Fk])) ha hb' (plainIx_of hb)) fun σ H Q ⟨ρ, st, ι, R, h⟩ => ?_
  refine seqA R h fun st1 x xv ι1 H1 s1 R1 r1 h1 => ?_
  refine seqA R1 h1 fun st2 y yv ι2 H2 s2 R2 r2 h2 => ?_
  exact ⟨ρ, st2, ι2, σ, _, _, R2, R2.rst.view (r1.mono s2), .of r2, h2⟩
theorem e_rev (g : Good D d S X F c) {a : Expr} {a' : E} {k : Nat} {p1 p2 p3 pos : Pos} (ha : PE X a (tE F (ev c a').v)) : PE X (.Subscript a (.Slice none none (some (.UnaryOp .USub (.Constant (.int 1) k p1) p2)) p3) pos) (tE F (ev c (.rev a')).v) := by
  refine PE.weak (pe_revA ha) fun σ H Q ⟨ρ, st, ι, R, h⟩ => ?_
  refine seqA R h fun st1 x xv ι1 H1 s1 R1 r1 h1 => ?_
  obtain ⟨z, e, h1⟩ := Aft.giv h1
  have rv := R1.rst.view r1
  unfold revV at e
  split at e
  · rename_i ps he
    cases e
    rw [he] at rv
    obtain ⟨l, xs, rfl, hx, r⟩ := rv.tupI
    refine .inr ⟨l, xs, rfl, by rw [g.K, ← g.Fk]; exact hx, fun p hp => ?_⟩
    obtain ⟨s2, R2, r2⟩ := R1.tupN hp r.reverse
    exact h1 _ _ _ s2 R2 r2
  · rename_i ps he
    cases e
    rw [he] at rv
    obtain ⟨l, xs, rfl, hx, r⟩ := rv.lstI
    refine .inl ⟨l, xs, rfl, SqL.of hx, fun p hp => ?_⟩
    obtain ⟨s2, R2, r2⟩ := R1.lstN hp r.reverse
    exact h1 _ _ _ s2 R2 r2
  · cases e
/-- a bound of a slice -/
def partE (F : Fm) (c : Cfg) (o : Option E) (ρ : Env) (st : Store) : R (Option Int) := match o with | none => .ok none st | some e => partR ((ev c e).v ρ st)
theorem part_some {F : Fm} {ρ : Env} {st : Store} {ι : List Addr} {σ : L2.St} {H : Hp} {e' : E} {f : Option Int → Store → R PV} {Q : VK} {K : Option Int → Hp → Prop} (R : F.Rl ρ st ι σ H) (h : Aft F (rpV F) ρ ι σ H (bnd (partR ((ev c e').v ρ st)) f) Q)
    (k : ∀ st1 o ι1 H1, Step ι H ι1 H1 → F.Rl ρ st1 ι1 σ H1 → Aft F (rpV F) ρ ι1 σ H1 (f o st1) Q → K o H1) : tPart (tE F (ev c e').v) σ H K := by
  unfold partR at h
  rw [bnd_assoc] at h
  refine seqA R h fun st1 x xv ι1 H1 s1 R1 r1 h1 => ?_
  cases x with
  | int i => exact ⟨i, r1.intI, k st1 (some i) ι1 H1 s1 R1 h1⟩
  | _ => exact h1.elim
theorem e_sl (g : Good D d S X F c) {a : Expr} {lo hi : Option Expr} {a' : E} {lo' hi' : Option E} {p2 pos : Pos} (ha : PE X a (tE F (ev c a').v))
    (hl : (lo = none ∧ lo' = none) ∨ ∃ e e', lo = some e ∧ lo' = some e' ∧ PE X e (tE F (ev c e').v)) (hh : (hi = none ∧ hi' = none) ∨ ∃ e e', hi = some e ∧ hi' = some e' ∧ PE X e (tE F (ev c e').v)) :
    PE X (.Subscript a (.Slice lo hi none p2) pos) (tE F (ev c (.sl a' lo' hi')).v) := by
  have hs : SlR X (rSl F) := sl_ok (by rw [g.K, g.Fk])
  have fin : ∀ {ρ : Env} {st3 : Store} {ι1 ι3 : List Addr} {σ : L2.St} {H1 H3 : Hp} {x : PV} {xv : V} {l h : Option Int} {Q : VK}, Step ι1 H1 ι3 H3 → F.Rl ρ st3 ι3 σ H3 → Rep F.C ι1 H1 xv x → Aft F (rpV F) ρ ι3 σ H3 (giv (slV (view st3 x) l h) st3) Q → rSl F xv l h H3 Q :=
    fun s R r h => ⟨_, _, _, _, _, R, R.rst.view (r.mono s), h⟩
  rcases hl with ⟨rfl, rfl⟩ | ⟨l, l', rfl, rfl, hl⟩
  · rcases hh with ⟨rfl, rfl⟩ | ⟨h, h', rfl, rfl, hh⟩
    · refine PE.weak (pe_slice hs ha po_none po_none) fun σ H Q ⟨ρ, st, ι, R, h⟩ => ?_
      refine seqA R h fun st1 x xv ι1 H1 s1 R1 r1 h1 => ?_
      exact fin Step.refl R1 r1 h1
    · refine PE.weak (pe_slice hs ha po_none (po_some hh)) fun σ H Q ⟨ρ, st, ι, R, h⟩ => ?_
      refine seqA R h fun st1 x xv ι1 H1 s1 R1 r1 h1 => ?_
      show tPart (tE F (ev c h').v) σ H1 fun u H3 => rSl F xv none u H3 Q
      refine part_some R1 h1 fun st2 o ι2 H2 s2 R2 h2 => ?_
      exact fin s2 R2 r1 h2
  · rcases hh with ⟨rfl, rfl⟩ | ⟨h, h', rfl, rfl, hh⟩
    · refine PE.weak (pe_slice hs ha (po_some hl) po_none) fun σ H Q ⟨ρ, st, ι, R, h⟩ => ?_
      refine seqA R h fun st1 x xv ι1 H1 s1 R1 r1 h1 => ?_
      refine part_some R1 h1 fun st2 o ι2 H2 s2 R2 h2 => ?_
      exact fin s2 R2 r1 h2
    · refine PE.weak (pe_slice hs ha (po_some hl) (po_some hh)) fun σ H Q ⟨ρ, st, ι, R, h⟩ => ?_
      refine seqA R h fun st1 x xv ι1 H1 s1 R1 r1 h1 => ?_
      refine part_some R1 h1 fun st2 o ι2 H2 s2 R2 h2 => ?_
      refine part_some R2 h2 fun st3 o ι3 H3 s3 R3 h3 => ?_
      exact fin (s2.trans s3) R3 r1 h3
end
end PM
set_option Elab.async false
set_option linter.all false
set_option maxRecDepth 100000
set_option maxHeartbeats 4000000
/-! PM10: calls of built-in functions and methods. -/
namespace PM
open PySem PySem.Spec PyProof.Rows L2 LamX
section
variable {D : PD} {d : Nat} {S : SS} {X : Cx} {F : Fm} {c : Cfg}
theorem bi_call (g : Good D d S X F c) {x : Str} {n : Nat} {b : Bi} (h : find3 x n bnames = some b) : ∃ v, bootBuiltins x = some v ∧ ((∃ id, v = .builtin id) ∨ ∃ T, v = .type T) ∧ CallR X v (rF F (biV b)) := by
  have hK : X.K = F.C.K := by rw [g.K, g.Fk]
  have hc := g.calm
  have hu := g.un
  unfold bnames at h
  unfold find3 at h
  split at h
  · rename_i z
    obtain ⟨rfl, rfl⟩ := z
    cases h
    exact ⟨_, boot_len, .inl ⟨_, rfl⟩, bi_len hK⟩
  unfold find3 at h
  split at h
  · rename_i z
    obtain ⟨rfl, rfl⟩ := z
    cases h
    exact ⟨_, boot_abs, .inl ⟨_, rfl⟩, bi_abs⟩
  unfold find3 at h
  split at h
  · rename_i z
    obtain ⟨rfl, rfl⟩ := z
    cases h
    exact ⟨_, boot_max, .inl ⟨_, rfl⟩, bi_maxL hK hc (by omega)⟩
  unfold find3 at h
  split at h
  · rename_i z
    obtain ⟨rfl, rfl⟩ := z
    cases h
    exact ⟨_, boot_max, .inl ⟨_, rfl⟩, bi_max2 hc⟩
  unfold find3 at h
  split at h
  · rename_i z
    obtain ⟨rfl, rfl⟩ := z
    cases h
    exact ⟨_, boot_min, .inl ⟨_, rfl⟩, bi_minL hK hc (by omega)⟩
  unfold find3 at h
  split at h
  · rename_i z
    obtain ⟨rfl, rfl⟩ := z
    cases h
    exact ⟨_, boot_min, .inl ⟨_, rfl⟩, bi_min2 hc⟩
  unfold find3 at h
  split at h
  · rename_i z
    obtain ⟨rfl, rfl⟩ := z
    cases h
    exact ⟨_, boot_sum, .inl ⟨_, rfl⟩, bi_sum hK hc⟩
  unfold find3 at h
  split at h
  · rename_i z
    obtain ⟨rfl, rfl⟩ := z
    cases h
    exact ⟨_, boot_all, .inl ⟨_, rfl⟩, bi_all hK hc⟩
  unfold find3 at h
  split at h
  · rename_i z
    obtain ⟨rfl, rfl⟩ := z
    cases h
    exact ⟨_, boot_any, .inl ⟨_, rfl⟩, bi_any hK hc⟩
  unfold find3 at h
  split at h
  · rename_i z
    obtain ⟨rfl, rfl⟩ := z
    cases h
    exact ⟨_, boot_int, .inr ⟨_, rfl⟩, bi_int⟩
  unfold find3 at h
  split at h
  · rename_i z
    obtain ⟨rfl, rfl⟩ := z
    cases h
    exact ⟨_, boot_str, .inr ⟨_, rfl⟩, bi_str⟩
  unfold find3 at h
  split at h
  · rename_i z
    obtain ⟨rfl, rfl⟩ := z
    cases h
    exact ⟨_, boot_repr, .inl ⟨_, rfl⟩, bi_repr hK g.gds (by omega)⟩
  unfold find3 at h
  split at h
  · rename_i z
    obtain ⟨rfl, rfl⟩ := z
    cases h
    exact ⟨_, boot_tuple, .inr ⟨_, rfl⟩, bi_tuple hK⟩
  cases h
theorem bn_call (g : Good D d S X F c) {x : Str} {b : Bn} (h : find2 x nnames = some b) : ∃ v, bootBuiltins x = some v ∧ ((∃ id, v = .builtin id) ∨ ∃ T, v = .type T) ∧ CallR X v (rFN F (biN b)) := by
  have hK : X.K = F.C.K := by rw [g.K, g.Fk]
  have hu := g.un
  unfold nnames at h
  unfold find2 at h
  split at h
  · rename_i z
    subst z
    cases h
    exact ⟨_, boot_list, .inr ⟨_, rfl⟩, bi_list hK⟩
  unfold find2 at h
  split at h
  · rename_i z
    subst z
    cases h
    exact ⟨_, boot_sorted, .inl ⟨_, rfl⟩, bi_sorted hK (by omega)⟩
  cases h
theorem frB_of (g : Good D d S X F c) (ok : D.Ok) {x : Str} (h : frB D.G S x = true) : Gl X x ∧ X.mg x = none ∧ x ≠ "__name__" ∧ (x == ("__debug__" : Str)) = false := by
  unfold frB at h
  simp only [Bool.and_eq_true, decide_eq_true_eq] at h
  obtain ⟨⟨h1, h2⟩, h3⟩ := h
  obtain ⟨n1, n2, n3⟩ := okName_of h1
  exact ⟨g.gl h2, by rw [g.mg]; exact ok.fr x h3, n3, n1⟩
theorem e_biAny (g : Good D d S X F c) (ok : D.Ok) {x : Str} {p pos : Pos} {e : Expr} {r : List Expr} {v : Value} {R : List V → Hp → VK → Prop} {t : TA} (hf : frB D.G S x = true) (hv : bootBuiltins x = some v) (hk : (∃ id, v = .builtin id) ∨ ∃ T, v = .type T)
    (hc : CallR X v R) (ha : PA X (e :: r) t) (hs : starEach (e :: r) X.env = (false, eval e X.env) :: starEach r X.env) (hpl : (backTo pos (starEach r X.env)).any (·.1) = false) : PE X (.Call (.Name x p) (e :: r) [] pos) (tCB R t) := by
  obtain ⟨h1, h2, h3, h4⟩ := frB_of g ok hf
  rcases hk with ⟨id, rfl⟩ | ⟨T, rfl⟩
  · exact pe_callB hc h1 h2 hv ha h3 h4 hs hpl
  · exact pe_callTy hc h1 h2 hv ha h3 h4 hs hpl
theorem e_bi (g : Good D d S X F c) (ok : D.Ok) {x : Str} {n : Nat} {b : Bi} {p pos : Pos} {e : Expr} {r : List Expr} {es : Es} (hf : frB D.G S x = true) (h : find3 x n bnames = some b) (ha : PA X (e :: r) (tA F (evs c es))) (hs : starEach (e :: r) X.env = (false, eval e X.env) :: starEach r X.env)
    (hpl : (backTo pos (starEach r X.env)).any (·.1) = false) : PE X (.Call (.Name x p) (e :: r) [] pos) (tE F (ev c (.bi b es)).v) := by
  obtain ⟨v, hv, hk, hc⟩ := bi_call g h
  refine PE.weak (e_biAny g ok hf hv hk hc ha hs hpl) fun σ H Q ⟨ρ, st, ι, R, h⟩ => ?_
  refine seqA R h fun st1 x xv ι1 H1 s1 R1 r1 h1 => ?_
  exact ⟨ρ, st1, ι1, σ, _, R1, R1.rst.views r1, h1⟩
/-- lists that are just made -/
def mN (c : Cfg) (b : Bn) (es : Es) : Env → Store → R (List PV) := fun ρ st => bnd (evs c es ρ st) fun xs st => giv (biN b (xs.map (view st))) st
theorem seqN {F : Fm} {α β : Type} {rp : List Addr → Hp → β → α → Prop} {m : Env → Store → R α} {f : α → Store → R (List PV)} {ρ : Env} {st : Store} {ι : List Addr} {σ : L2.St} {H : Hp} {Q : VK} {K : β → Hp → Prop}
    (R : F.Rl ρ st ι σ H) (h : AftN F ρ ι σ H (bnd (m ρ st) f) Q)
    (k : ∀ st1 a x ι1 H1, Step ι H ι1 H1 → F.Rl ρ st1 ι1 σ H1 → rp ι1 H1 x a → AftN F ρ ι1 σ H1 (f a st1) Q → K x H1) : tG F rp m σ H K := by
  refine ⟨ρ, st, ι, R, ?_⟩
  revert h
  cases m ρ st with
  | ok a st1 => exact fun h x ι1 H1 s1 R1 r1 => k st1 a x ι1 H1 s1 R1 r1 (AftN.step h s1)
  | exc c v st1 => exact fun h => h
  | bad => exact fun h => h
theorem n_bn (g : Good D d S X F c) (ok : D.Ok) {x : Str} {b : Bn} {p pos : Pos} {e : Expr} {r : List Expr} {es : Es} (hf : frB D.G S x = true) (h : find2 x nnames = some b) (ha : PA X (e :: r) (tA F (evs c es))) (hs : starEach (e :: r) X.env = (false, eval e X.env) :: starEach r X.env)
    (hpl : (backTo pos (starEach r X.env)).any (·.1) = false) : NewE X F (.Call (.Name x p) (e :: r) [] pos) (mN c b es) := by
  obtain ⟨v, hv, hk, hc⟩ := bn_call g h
  refine ⟨PE.weak (e_biAny g ok hf hv hk hc ha hs hpl) fun σ H Q ⟨ρ, st, ι, R, h⟩ => ?_⟩
  refine seqN R h fun st1 x xv ι1 H1 s1 R1 r1 h1 => ?_
  exact ⟨ρ, st1, ι1, σ, _, R1, R1.rst.views r1, h1⟩
theorem one_star {e : Expr} {env : PySem.Env} (h : nostar e = true) : starEach [e] env = (false, eval e env) :: starEach [] env := star_cons h
theorem rgV_rep {C : Ct} {ι : List Addr} {H : Hp} (a b : Int) : Reps C ι H (rgV a b) (rangeL a (b - a).toNat) := by
  unfold rgV rangeL
  generalize (b - a).toNat = n
  have go : ∀ l : List Nat, Reps C ι H (l.map fun i => V.int (a + (i : Nat))) (l.map fun (i : Nat) => PV.int (a + (i : Int))) := by
    intro l
    induction l with
    | nil => exact .nil
    | cons x r ih => exact .cons (.int _) ih
  exact go _
theorem inR_of {i : Int} (h : inR i = true) : -(2 ^ 62) ≤ i ∧ i < 2 ^ 62 := by
  unfold inR at h
  simpa using h
/-- range(..) as an argument -/
theorem prg1 (g : Good D d S X F c) (ok : D.Ok) {a : Expr} {a' : E} {p pos : Pos} (hf : frB D.G S "range" = true) (hn : nostar a = true) (ha : PE X a (tE F (ev c a').v)) : PRg X (.Call (.Name "range" p) [a] [] pos) (tRg1 (tE F (ev c a').v)) := by
  obtain ⟨h1, h2, h3, h4⟩ := frB_of g ok hf
  exact prg_1 h1 h2 ha (one_star hn)
theorem prg2 (g : Good D d S X F c) (ok : D.Ok) {a b : Expr} {a' b' : E} {p pos : Pos} (hf : frB D.G S "range" = true) (hn : nostar a = true) (hn2 : nostar b = true) (ha : PE X a (tE F (ev c a').v)) (hb : PE X b (tE F (ev c b').v)) : PRg X (.Call (.Name "range" p) [a, b] [] pos) (tRg2 (tE F (ev c a').v) (tE F (ev c b').v)) := by
  obtain ⟨h1, h2, h3, h4⟩ := frB_of g ok hf
  exact prg_2 h1 h2 ha hb (star_cons hn) (star_cons hn2) (by rw [star_cons hn2]; rfl)
theorem ev1 {c : Cfg} {e : E} {ρ : Env} {st : Store} {γ : Type} {f : List PV → Store → R γ} : bnd (evs c (.cons e .nil) ρ st) f = bnd ((ev c e).v ρ st) fun x st => f [x] st := by
  show bnd (bnd ((ev c e).v ρ st) fun x st => bnd (.ok [] st) fun xs st => .ok (x :: xs) st) f = _
  rw [bnd_assoc]
  rfl
theorem ev2 {c : Cfg} {e e2 : E} {ρ : Env} {st : Store} {γ : Type} {f : List PV → Store → R γ} : bnd (evs c (.cons e (.cons e2 .nil)) ρ st) f = bnd ((ev c e).v ρ st) fun x st => bnd ((ev c e2).v ρ st) fun y st => f [x, y] st := by
  show bnd (bnd ((ev c e).v ρ st) fun x st => bnd (evs c (.cons e2 .nil) ρ st) fun xs st => .ok (x :: xs) st) f = _
  rw [bnd_assoc]
  congr 1
  funext x st1
  rw [ev1, bnd_assoc]
  rfl
theorem RgOk1 {j : Int} (h : (inR j && decide (j.toNat ≤ SZ)) = true) : RgOk 0 j := by
  simp only [Bool.and_eq_true, decide_eq_true_eq] at h
  have a := inR_of h.1
  have b := h.2
  unfold SZ at b
  exact ⟨by omega, by omega, a.1, a.2, by omega⟩
theorem RgOk2 {i j : Int} (h : (inR i && inR j && decide ((j - i).toNat ≤ SZ)) = true) : RgOk i j := by
  simp only [Bool.and_eq_true, decide_eq_true_eq] at h
  have a := inR_of h.1.1
  have a2 := inR_of h.1.2
  have b := h.2
  unfold SZ at b
  exact ⟨a.1, a.2, a2.1, a2.2, by omega⟩
theorem view_int {st : Store} {x : PV} {i : Int} (h : view st x = .int i) : x = .int i := by
  cases x with
  | int j => exact h
  | ref n =>
    cases e : st[n]? with
    | none => simp [view, e] at h
    | some ob => cases ob <;> simp [view, e] at h
  | _ => cases h
theorem n_lr1 (g : Good D d S X F c) (ok : D.Ok) {a : Expr} {a' : E} {p p2 pos pos2 : Pos} (hl : frB D.G S "list" = true) (hf : frB D.G S "range" = true) (hn : nostar a = true) (ha : PE X a (tE F (ev c a').v)) :
    NewE X F (.Call (.Name "list" p) [.Call (.Name "range" p2) [a] [] pos2] [] pos) (mN c .lr1 (.cons a' .nil)) := by
  obtain ⟨h1, h2, h3, h4⟩ := frB_of g ok hl
  refine ⟨PE.weak (pe_listRg g.calm h1 h2 (prg1 g ok hf hn ha)) fun σ H Q ⟨ρ, st, ι, R, h⟩ => ?_⟩
  have h : AftN F ρ ι σ H (bnd (evs c (.cons a' .nil) ρ st) fun xs st => giv (biN .lr1 (xs.map (view st))) st) Q := h
  rw [ev1] at h
  refine seqN R h fun st1 x xv ι1 H1 s1 R1 r1 h1 => ?_
  obtain ⟨z, e0, h1⟩ := AftN.giv h1
  have e : bLr1 [view st1 x] = some z := e0
  clear e0
  unfold bLr1 at e
  split at e
  · rename_i j hj
    have hk := view_int (List.cons.inj hj).1
    subst hk
    split at e
    · rename_i hh
      cases e
      refine ⟨j, r1.intI, RgOk1 hh, fun q hq => ?_⟩
      have rr := rgV_rep (C := F.C) (ι := ι1) (H := H1) 0 j
      rw [Int.sub_zero] at rr
      exact h1.new R1 hq rr
    · cases e
  · cases e
theorem n_lr2 (g : Good D d S X F c) (ok : D.Ok) {a b : Expr} {a' b' : E} {p p2 pos pos2 : Pos} (hl : frB D.G S "list" = true) (hf : frB D.G S "range" = true) (hn : nostar a = true) (hn2 : nostar b = true) (ha : PE X a (tE F (ev c a').v)) (hb : PE X b (tE F (ev c b').v)) :
    NewE X F (.Call (.Name "list" p) [.Call (.Name "range" p2) [a, b] [] pos2] [] pos) (mN c .lr2 (.cons a' (.cons b' .nil))) := by
  obtain ⟨h1, h2, h3, h4⟩ := frB_of g ok hl
  refine ⟨PE.weak (pe_listRg g.calm h1 h2 (prg2 g ok hf hn hn2 ha hb)) fun σ H Q ⟨ρ, st, ι, R, h⟩ => ?_⟩
  have h : AftN F ρ ι σ H (bnd (evs c (.cons a' (.cons b' .nil)) ρ st) fun xs st => giv (biN .lr2 (xs.map (view st))) st) Q := h
  rw [ev2] at h
  refine seqN R h fun st1 x xv ι1 H1 s1 R1 r1 h1 => ?_
  refine seqN R1 h1 fun st2 y yv ι2 H2 s2 R2 r2 h2 => ?_
  obtain ⟨z, e0, h2⟩ := AftN.giv h2
  have e : bLr2 [view st2 x, view st2 y] = some z := e0
  clear e0
  unfold bLr2 at e
  split at e
  · rename_i i j hj
    have hi := view_int (List.cons.inj hj).1
    have hk := view_int (List.cons.inj (List.cons.inj hj).2).1
    subst hi
    subst hk
    split at e
    · rename_i hh
      cases e
      exact ⟨i, j, r1.intI, r2.intI, RgOk2 hh, fun q hq => h2.new R2 hq (rgV_rep i j)⟩
    · cases e
  · cases e
theorem e_tr1 (g : Good D d S X F c) (ok : D.Ok) {a : Expr} {a' : E} {p p2 pos pos2 : Pos} (hl : frB D.G S "tuple" = true) (hf : frB D.G S "range" = true) (hn : nostar a = true) (ha : PE X a (tE F (ev c a').v)) :
    PE X (.Call (.Name "tuple" p) [.Call (.Name "range" p2) [a] [] pos2] [] pos) (tE F (ev c (.bi .tr1 (.cons a' .nil))).v) := by
  obtain ⟨h1, h2, h3, h4⟩ := frB_of g ok hl
  refine PE.weak (pe_tupRg g.calm h1 h2 (prg1 g ok hf hn ha)) fun σ H Q ⟨ρ, st, ι, R, h⟩ => ?_
  have h : Aft F (rpV F) ρ ι σ H (bnd (evs c (.cons a' .nil) ρ st) fun xs st => giv (biV .tr1 (xs.map (view st))) st) Q := h
  rw [ev1] at h
  refine seqA R h fun st1 x xv ι1 H1 s1 R1 r1 h1 => ?_
  obtain ⟨z, e0, h1⟩ := Aft.giv h1
  have e : bTr1 [view st1 x] = some z := e0
  clear e0
  unfold bTr1 at e
  split at e
  · rename_i j hj
    have hk := view_int (List.cons.inj hj).1
    subst hk
    split at e
    · rename_i hh
      cases e
      refine ⟨j, r1.intI, RgOk1 hh, fun q hq => ?_⟩
      have rr := rgV_rep (C := F.C) (ι := ι1) (H := H1) 0 j
      rw [Int.sub_zero] at rr
      obtain ⟨s2, R2, r2⟩ := R1.tupN hq rr
      exact h1 _ _ _ s2 R2 r2
    · cases e
  · cases e
theorem e_tr2 (g : Good D d S X F c) (ok : D.Ok) {a b : Expr} {a' b' : E} {p p2 pos pos2 : Pos} (hl : frB D.G S "tuple" = true) (hf : frB D.G S "range" = true) (hn : nostar a = true) (hn2 : nostar b = true) (ha : PE X a (tE F (ev c a').v)) (hb : PE X b (tE F (ev c b').v)) :
    PE X (.Call (.Name "tuple" p) [.Call (.Name "range" p2) [a, b] [] pos2] [] pos) (tE F (ev c (.bi .tr2 (.cons a' (.cons b' .nil)))).v) := by
  obtain ⟨h1, h2, h3, h4⟩ := frB_of g ok hl
  refine PE.weak (pe_tupRg g.calm h1 h2 (prg2 g ok hf hn hn2 ha hb)) fun σ H Q ⟨ρ, st, ι, R, h⟩ => ?_
  have h : Aft F (rpV F) ρ ι σ H (bnd (evs c (.cons a' (.cons b' .nil)) ρ st) fun xs st => giv (biV .tr2 (xs.map (view st))) st) Q := h
  rw [ev2] at h
  refine seqA R h fun st1 x xv ι1 H1 s1 R1 r1 h1 => ?_
  refine seqA R1 h1 fun st2 y yv ι2 H2 s2 R2 r2 h2 => ?_
  obtain ⟨z, e0, h2⟩ := Aft.giv h2
  have e : bTr2 [view st2 x, view st2 y] = some z := e0
  clear e0
  unfold bTr2 at e
  split at e
  · rename_i i j hj
    have hi := view_int (List.cons.inj hj).1
    have hk := view_int (List.cons.inj (List.cons.inj hj).2).1
    subst hi
    subst hk
    split at e
    · rename_i hh
      cases e
      refine ⟨i, j, r1.intI, r2.intI, RgOk2 hh, fun q hq => ?_⟩
      obtain ⟨s2, R2, r2⟩ := R2.tupN hq (rgV_rep i j)
      exact h2 _ _ _ s2 R2 r2
    · cases e
  · cases e
end
end PM
set_option Elab.async false
set_option linter.all false
set_option maxRecDepth 100000
set_option maxHeartbeats 4000000
/-! PMA: set(a list of ints), its members told. -/
namespace L2
open PySem PySem.Spec PyProof.Rows PySem.Calls
section
variable {P : Program} {w : World} {A : Around} {E : Value → Shared → Prop} {s : Shared}
abbrev set0 (w : World) : Obj := { cls := .type "set", dict := none, data := .set #[] 0 (.fresh 0 0 (!w.params.followText "set-order")) }
theorem call_set_lstI {l : Addr} {items : Array Value} (ns : List Int) {Q : Value → Shared → Prop} (hh : A.handled = none) (hl : s.heap.IsList l items) (hit : IntsAre items.toList ns) (hb : ns.length + 1 < scanBound)
    (h : ∀ (h' : Heap) (tk c : Nat), SetR w h' s.heap.objs.size (fun j => decide (j ∈ ns)) c → c ≤ ns.length → (∀ b o, s.heap.get? b = some o → h'.get? b = some o) → Q (.ref s.heap.objs.size) { s with heap := h', toks := tk }) :
    wpAny (model P w) A (call (.type "set") [.ref l]) Q E s := by
  have hisz : items.size = ns.length := by
    have q := IntsAre.length hit
    rwa [Array.length_toList] at q
  obtain ⟨c, tl, hmro⟩ := F.called_set.mro
  have hmade := F.called_set.made
  have hsub := F.called_set.sub
  refine wpAny_call (codeAny_of_tree ?_)
  show wpAny _ _ (callAny (.type "set") _) _ _ _
  refine wpAny_pure ⟨Code.quiet_builtin _ (by decide +kernel), codeAny_builtin F.entry_type_call ?_⟩
  rw [Around.under_plain (weight_type_call_type "set" [.ref l] []) rfl]
  have h1 := F.called_set.notType
  have h2 := F.called_set.canCreate
  have hct := F.typeCall_set_1 (.ref l)
  repeat (any_goals (first | assumption | wp_step))
  refine codeAny_mono (code_set_led1 (.ref l) (E := E) (Q₁ := fun obj s₁ => obj = .ref s.heap.objs.size ∧ s₁ = { s with heap := s.heap.push (set0 w) }) ⟨rfl, rfl⟩) fun r s₁ hr => ?_
  cases r with
  | error e => exact hr
  | ok fl =>
    cases fl with
    | ret obj =>
      obtain ⟨rfl, rfl⟩ := hr
      have hS : (s.heap.push (set0 w)).get? s.heap.objs.size = some (set0 w) := Heap.get?_push_size _ rfl
      have hT : Shared.TypeIs { s with heap := s.heap.push (set0 w) } (.ref s.heap.objs.size) "set" := ⟨_, hS, rfl⟩
      have hli := F.called_set.init.lookup
      have hbi := F.called_set.init.bind (.ref s.heap.objs.size)
      repeat (any_goals (first | assumption | wp_step))
      refine codeAny_mono (codeAny_call_builtin (R := wants (fun r s₂ => r = .none ∧ ∃ h' tk c, s₂ = { s with heap := h', toks := tk } ∧ SetR w h' s.heap.objs.size (fun j => decide (j ∈ ns)) c ∧ c ≤ ns.length ∧
          (∀ b o, s.heap.get? b = some o → h'.get? b = some o)) E) F.called_set.init.plain F.entry_set_init (check_set_init_1 hT ?_)) fun r₂ s₂ hr₂ => ?_
      · obtain ⟨⟨ocls, odict, odata, oslots⟩, hol, hcl, nl, hdl⟩ := hl
        simp only at hcl hdl
        subst hcl; subst hdl
        have hol' : (s.heap.push (set0 w)).get? l = some { cls := .type "list", dict := odict, data := .seq items nl, slots := oslots } := Heap.get?_push_of_some _ hol
        have hsls := F.sub_list_set
        have hslf := F.sub_list_frozenset
        have hne : (Value.type "list" == Value.type "dict") = false := by decide
        have hl1 : (s.heap.push (set0 w)).IsList l items := ⟨_, hol', rfl, nl, rfl⟩
        have hlS : l < s.heap.objs.size := Heap.lt_size hol
        unfold Builtin.«set.__init__» noKeywords Builtin.Frozenset.updateFrom
        generalize hPI : pyIter = PI
        wp_walk
        subst hPI
        refine wpAny_pyIter_list hl1 (wpAny_bind (wpAny_runValue ?_))
        have hh3 : A.in1.in1.in1.handled = none := by simp [hh]
        have hneI : l ≠ (s.heap.push (set0 w)).objs.size := by rw [Heap.size_push]; exact Nat.ne_of_lt (Nat.lt_succ_of_lt hlS)
        have hSf : s.heap.objs.size ∉ [(s.heap.push (set0 w)).objs.size, l] := by
          rw [Heap.size_push]
          simp only [List.mem_cons, List.not_mem_nil, or_false, not_or]
          exact ⟨Nat.ne_of_lt (Nat.lt_succ_self _), Nat.ne_of_gt hlS⟩
        have hval : ∀ (i : Nat) (v : Value), items[i]? = some v → ∃ k t, ns[i]? = some k ∧ v = .int k t := fun i v hv => by
          have hi : i < ns.length := by rw [← hisz]; exact (Array.getElem?_eq_some_iff.mp hv).1
          obtain ⟨t, e⟩ := PyProof.Rows.IntsAre.int_at hit i v (by rw [Array.getElem?_toList]; exact hv)
          refine ⟨ns[i], t, List.getElem?_eq_getElem hi, ?_⟩
          rw [e, List.getD_eq_getElem?_getD, List.getElem?_eq_getElem hi] <;> rfl
        refine set_update_ints ((Walks.list hh3 _ l hneI items).toS) s.heap.objs.size hSf ns hisz hb hval (items.size - 0) 0 _ (by omega) (Nat.zero_le _) ⟨⟨_, Heap.get?_push_size _ rfl, rfl, rfl⟩, (hl1.push _)⟩ ⟨0, Nat.le_refl 0, setR_new_at (Heap.get?_push_of_some _ hS)⟩ fun s' c' hm hc' hS' => ?_
        obtain ⟨h', g2, d', tk', os'⟩ := s'
        obtain rfl : g2 = s.gens := hm.gens
        obtain rfl : d' = s.drawn := hm.drawn
        obtain rfl : os' = s.os := hm.os
        show wpAny _ _ _ _ _ _
        refine wpAny_pure ?_
        show wpAny _ _ (ret Value.none) _ _ _
        rw [hisz] at hc'
        refine wpAny_pure ⟨rfl, h', tk', c', rfl, hS', hc', fun b o e => ?_⟩
        have hb0 : b < s.heap.objs.size := Heap.lt_size e
        refine hm.heap b o ?_ (Heap.get?_push_of_some _ (Heap.get?_push_of_some _ e))
        rw [Heap.size_push]
        simp only [List.mem_cons, List.not_mem_nil, or_false, not_or]
        exact ⟨Nat.ne_of_lt hb0, Nat.ne_of_lt (Nat.lt_succ_of_lt hb0)⟩
      · cases r₂ with
        | error e => exact hr₂
        | ok fl₂ =>
          cases fl₂ with
          | ret r =>
            obtain ⟨rfl, h', tk, c', rfl, hS', hc', hk'⟩ := hr₂
            repeat (any_goals (first | assumption | wp_step))
            exact h _ _ _ hS' hc' hk'
          | _ => exact hr₂.elim
    | _ => exact hr.elim
end
end L2
set_option Elab.async false
set_option linter.all false
set_option maxRecDepth 100000
set_option maxHeartbeats 4000000
/-! PMB: sorted(set(a list of ints)). -/
namespace PM
open PySem PySem.Spec PyProof.Rows L2 LamX
theorem dedup_mem {k : Int} : ∀ {l : List Int}, k ∈ dedup l ↔ k ∈ l
  | [] => by simp [dedup]
  | x :: r => by
    unfold dedup
    split
    · rename_i h
      rw [dedup_mem, List.mem_cons]
      exact ⟨.inr, fun z => z.elim (fun e => by rw [e]; exact h) id⟩
    · rw [List.mem_cons, List.mem_cons, dedup_mem]
theorem dedup_nodup : ∀ {l : List Int}, (dedup l).Nodup
  | [] => .nil
  | x :: r => by
    unfold dedup
    split
    · exact dedup_nodup
    · rename_i h
      exact List.nodup_cons.mpr ⟨fun z => h (dedup_mem.mp z), dedup_nodup⟩
/-- set(list) -/
def rSetLst (w : World) : List V → Hp → VK → Prop := fun xs H Q => ∃ (l : Addr) (ns : List Int), xs = [V.ref l] ∧ H l = some (.lst (ns.map V.int)) ∧ ns.length + 1 < scanBound ∧
  ∀ (p : Addr) (n : Nat), H p = none → n = (dedup ns).length → Q (.ref p) (upd H p (SetO w p (fun j => decide (j ∈ ns)) n))
section
variable {X : Cx}
theorem cr_setLst (hc : X.calm = true) : CallR X (.type "set") (rSetLst X.w) := by
  intro pins s σ H xs us Q I r h
  obtain ⟨l, ns, rfl, hl, hb, q⟩ := h
  rw [Vals.ref1 r]
  obtain ⟨z, its, n, rr, _, hl2⟩ := I.lstM hl
  have hi : IntsAre its ns := ints_of_vals rr
  refine call_set_lstI ns (I.ok.hd hc) ⟨_, hl2, rfl, n, rfl⟩ (by simpa using hi) hb fun h' tk c R hcl k => ?_
  have hn : H s.heap.objs.size = none := I.hok.fresh (Nat.le_refl _)
  have hcn : c = (dedup ns).length := by
    obtain ⟨o, es, ep, t, ho, hex, hd, g, nd, hm, hb2, hf, hcc, hr⟩ := R
    have pm : (es.toList.map L2.keyOf).Perm (dedup ns) := by
      refine (List.perm_ext_iff_of_nodup nd dedup_nodup).mpr fun a => ?_
      rw [← hm a, dedup_mem]
      simp
    rw [← pm.length_eq, List.length_map, Array.length_toList, hcc]
  exact ⟨.ref s.heap.objs.size, _, I.laid k (Nat.le_refl _) (setO_new R), rfl, q _ _ hn hcn⟩
end
section
variable {D : PD} {d : Nat} {S : SS} {X : Cx} {F : Fm} {c : Cfg}
theorem n_sset (g : Good D d S X F c) (ok : D.Ok) {b : Expr} {b' : E} {p p2 pos pos2 : Pos} (h1 : frB D.G S "sorted" = true) (h2 : frB D.G S "set" = true) (hn : nostar b = true) (hb : PE X b (tE F (ev c b').v)) :
    NewE X F (.Call (.Name "sorted" p) [.Call (.Name "set" p2) [b] [] pos2] [] pos) (mN c .sset (.cons b' .nil)) := by
  have P1 : PE X (.Call (.Name "set" p2) [b] [] pos2) (tCB (rSetLst X.w) (tCons (tE F (ev c b').v) tNil)) := e_biAny g ok h2 (by decide +kernel) (.inr ⟨_, rfl⟩) (cr_setLst g.calm) (pa_cons hb pa_nil (star_cons hn)) (star_cons hn) rfl
  have P2 := e_biAny g ok (p := p) (pos := pos) h1 boot_sorted (.inl ⟨_, rfl⟩) (cr_sortedSet g.calm) (pa_cons P1 pa_nil rfl) rfl rfl
  refine ⟨PE.weak P2 fun σ H Q ⟨ρ, st, ι, R, h⟩ => ?_⟩
  have h : AftN F ρ ι σ H (bnd (evs c (.cons b' .nil) ρ st) fun xs st => giv (biN .sset (xs.map (view st))) st) Q := h
  rw [ev1] at h
  refine seqN R h fun st1 x xv ι1 H1 s1 R1 r1 h1 => ?_
  obtain ⟨z, e0, h1⟩ := AftN.giv h1
  have e : bSset [view st1 x] = some z := e0
  clear e0
  unfold bSset at e
  split at e
  · rename_i xs hx
    have hv := R1.rst.view r1
    rw [(List.cons.inj hx).1] at hv
    obtain ⟨ns, e1, e2⟩ := Option.bind_eq_some_iff.mp e
    split at e2
    · rename_i hz
      cases e2
      obtain ⟨a, ys, rfl, hH, rr⟩ := hv.lstI
      have hys := rr.ints e1
      refine ⟨a, ns, rfl, by rw [← hys]; exact hH, by unfold scanBound; omega, fun q n hq hn2 => ?_⟩
      refine ⟨q, _, n, rfl, upd_same, by rw [hn2]; exact hz.2, fun ns2 p3 hp hm hl hp3 => ?_⟩
      have hp : ns2 = isort (fun a b => decide (a < b)) (dedup ns) := by
        have nd2 : ns2.Nodup := hp.imp fun {a b} h z => by rw [z] at h; exact absurd h (Int.lt_irrefl _)
        refine sorted_uniq (((List.perm_ext_iff_of_nodup nd2 dedup_nodup).mpr fun k => ?_).trans (isort_perm _).symm) (hp.imp fun h => Int.le_of_lt h) (isort_sorted _)
        rw [hm k, dedup_mem]
        simp
      have hne : p3 ≠ q := fun z => by rw [z, upd_same] at hp3; cases hp3
      have hq3 : H1 p3 = none := by rw [upd_ne hne] at hp3; exact hp3
      rw [hp]
      have s2 : Step ι1 H1 ι1 (upd H1 q (SetO X.w q (fun j => decide (j ∈ ns)) n)) := step_new hq
      exact (AftN.step h1 s2).new (R1.new hq) hp3 (Reps.of_ints _)
    · cases e2
  · cases e
end
end PM
set_option Elab.async false
set_option linter.all false
set_option maxRecDepth 100000
set_option maxHeartbeats 4000000
/-! PMC: an error is made: an error whose class's __init__ says super().__init__(value); self.value = value. -/
namespace PySem
namespace KnE
open PySem.W PySem.Calls PyProof.Rows PySem.HandSPX
def iA : Arguments := { posonlyargs := [], args := [{ arg := "self", annotation := none, pos := ⟨4, 17, 4, 21⟩ }, { arg := "value", annotation := none, pos := ⟨4, 23, 4, 28⟩ }], vararg := none, kwonlyargs := [], kw_defaults := [], kwarg := none, defaults := [] }
def iB : List Stmt :=
  [.Expr (.Call (.Attribute (.Call (.Name "super" ⟨5, 8, 5, 13⟩) [] [] ⟨5, 8, 5, 15⟩) "__init__" ⟨5, 8, 5, 24⟩) [.Name "value" ⟨5, 25, 5, 30⟩] [] ⟨5, 8, 5, 31⟩) ⟨5, 8, 5, 31⟩,
    .Assign [.Attribute (.Name "self" ⟨6, 8, 6, 12⟩) "value" ⟨6, 8, 6, 18⟩] (.Name "value" ⟨6, 21, 6, 26⟩) ⟨6, 8, 6, 26⟩]
def iS : Scope := { kind := .function, names := [("self", .local), ("value", .local), ("__class__", .free), ("super", .globalImplicit)], isGenerator := false, isCoroutine := false, more := [] }
structure IS (sc : Scope) : Prop where
  kind : sc.kind = .function
  gen : sc.isGenerator = false
  co : sc.isCoroutine = false
  self : sc.names.lookup ("self" : Str) = some .local
  value : sc.names.lookup ("value" : Str) = some .local
  sup : sc.names.lookup ("super" : Str) = some .globalImplicit
  cls : sc.names.lookup ("__class__" : Str) = some .free
  nocell : ∀ x ∈ sc.names, x.2 ≠ .cell
theorem iS_ok : IS iS := ⟨rfl, rfl, rfl, by decide +kernel, by decide +kernel, by decide +kernel, by decide +kernel, by decide⟩
abbrev qI : Str := "KnitError.__init__"
/-- what the written part says of an error's class C, the first class C0, its __init__ at fI -/
structure Txt (prog : Program) (K : Frag) (mg : Str → Option Value) (C C0 fI cc cda : Addr) : Prop where
  cls : ∃ nm q N bs bm sn sub ab col dd k0 k1 k2 k3 k5, K.lookup C = some (excClassObj nm q C N bs bm true sn sub ab col dd k0 k1 k2 k3 k5 "ValueError.__new__") ∧ refsVE bm = true
  sa : findIn K (.ref C) "__setattr__" = some (some (.builtin "object.__setattr__"))
  noN : findIn K (.ref C) "value" = some none
  iC : findIn K (.ref C) "__init__" = some (some (.ref fI))
  tC : typeIn K (.ref fI) = some (.type "function")
  kC : keepIn K (.ref C) = true
  exC : subIn K (.ref C) (.type "BaseException") = some true
  veC : subIn K (.ref C) (.type "ValueError") = some true
  tyC : typeIn K (.ref C) = some (.type "type")
  fn : ∃ (oc : Value) (od : Option Addr) (doc pm : Value) (an : Option Addr) (ct : Value) (osl : Array (Option Value)),
    K.lookup fI = some ⟨oc, od, .func (ksFn "__init__" qI iA iB iS .none .none doc pm an (.ref cda) ct cc), osl⟩
  code : codeIn K (.ref cda) qI = true
  file : ∃ (ccl : Value) (cdd : Option Addr) (vs : Array Value) (ccs : Array (Option Value)) (file : Str) (tf : Tok), K.lookup cda = some ⟨ccl, cdd, .fields vs, ccs⟩ ∧ vs[2]? = some (.str file tf) ∧ ((prog.main.file : Str) == file) = true
  cell : ∃ (cl : Value) (cld : Option Addr) (csl : Array (Option Value)), K.lookup cc = some ⟨cl, cld, .cell (some (.ref C0)), csl⟩
  c0 : ∃ cd, clsIn K C0 = some cd
  sub : mroIn K C (.ref C0) = some true
  sup : mg "super" = none
  top : (prog.main.scope.names.lookup ("super" : Str)).isSome = false
  opq : nsIn K cStatics "thirdparty.any" = some none
  along : ks_superIn K C C0 "__init__" = some (some (.builtin "ValueError.__init__"))
/-- what __init__ leaves of a fresh exception at x -/
structure InitEnd (h h' : Heap) (x C dx : Addr) (v : Value) : Prop where
  keep : ∀ b o, b ≠ x → h.get? b = some o → h'.get? b = some o
  obj : ∃ t1, h'.get? x = some { cls := .ref C, dict := some dx, data := .fields #[.ref t1, .none, .none, .none, .bool false, .none] } ∧ h'.get? t1 = some (excTup [v]) ∧ h.objs.size ≤ t1 ∧ t1 ≠ x ∧ t1 ≠ dx
  dbig : h.objs.size ≤ dx
  dne : dx ≠ x
  ns : h'.Ns1 dx (fun y => if y = "value" then some v else none)
structure Made (h h' : Heap) (e C d : Addr) (v : Value) : Prop where
  keep : ∀ b o, h.get? b = some o → h'.get? b = some o
  new : h.objs.size ≤ e
  obj : ∃ oe vs, h'.get? e = some oe ∧ oe.cls = .ref C ∧ oe.dict = some d ∧ oe.data = .fields vs ∧ vs[1]? = some .none ∧ ∃ t, vs[0]? = some (.ref t) ∧ h'.get? t = some (excTup [v]) ∧ h.objs.size ≤ t ∧ t ≠ e ∧ t ≠ d
  dbig : h.objs.size ≤ d
  dne : d ≠ e
  ns : h'.Ns1 d (fun y => if y = "value" then some v else none)
theorem one_size (v : Value) : [v].length ≤ sizeLine := by
  rw [sizeLine_eq]
  exact (by decide : 1 ≤ 16777216)
theorem kept_but {K : Frag} {h h' : Heap} {x : Addr} (X : K.In h) (hx : K.lookup x = none) (k : ∀ b o, b ≠ x → h.get? b = some o → h'.get? b = some o) : K.In h' := fun a o e =>
  k a o (fun z => by rw [z, hx] at e; cases e) (X a o e)
section
variable {prog : Program} {w : World} {A : Around} {E : Value → Shared → Prop} {h : Heap} {g : Array GenState} {d : Drawn} {t : Nat} {os : OsState}
variable {nm q : Str} {C N : Addr} {bs bm : List Value} {hdct : Bool} {sn : List Str} {sub : List Value} {ab : Bool} {col : Option Bool} {dd : Option Addr} {k0 k1 k2 k3 k5 : Option Value}
/-- the built-in __init__, bound, called -/
theorem call_mw {u e t0 : Addr} {rest : List Value} {Q : Value → Shared → Prop}
    (hC : h.get? C = some (excClassObj nm q C N bs bm hdct sn sub ab col dd k0 k1 k2 k3 k5 "ValueError.__new__")) (he : h.get? e = some (excO C t0)) (hu : h.get? u = some (kxs_mw "ValueError.__init__" e)) (hrest : rest.length ≤ sizeLine)
    (hq : ∀ h' t1, (∀ b o, b ≠ e → h.get? b = some o → h'.get? b = some o) → h'.get? e = some (excO C t1) → h'.get? t1 = some (excTup rest) ∧ t1 = h.objs.size → Q .none ⟨h', g, d, t, os⟩) :
    wpAny (model prog w) A (call (.ref u) rest) Q E ⟨h, g, d, t, os⟩ := by
  refine wpAny_call (codeAny_of_tree ?_)
  show wpAny _ A.in1 (callAny (.ref u) ⟨rest, []⟩) _ _ _
  simp only [callAny]
  refine wpAny_bind (wpAny_load hu ?_)
  simp only [kxs_mw, show (Value.type "method-wrapper" == Value.type "method" || Value.type "method-wrapper" == Value.type "builtin_function_or_method" || Value.type "method-wrapper" == Value.type "method-wrapper") = true by decide, if_true]
  refine KFB.if_so (by decide) ?_
  refine wpAny_bind (check_bound_init F.excBase_ValueError.toExcCallFacts hC he rfl ?_)
  refine wpAny_bind (wpAny_pure (wpAny_pure ?_))
  refine ⟨plainId_quiet F.excBase_ValueError.init.plain _, codeAny_builtin F.excBase_ValueError.initEntry ?_⟩
  exact exc_init_tree (cls := .ref C) (t0 := t0) (dv := none) (c2 := .none) (c3 := .none) (b4 := .bool false) he hrest fun h' k e1 e2 => hq h' _ k e1 ⟨e2, rfl⟩
end
section
variable {prog : Program} {w : World} {A : Around} {E : Value → Shared → Prop} {R : Result → Shared → Prop} {s : Shared} {K : Frag} {mg mb : Str → Option Value} {C C0 fI cc cda : Addr}
theorem init_ok (T : Txt prog K mg C C0 fI cc cda) {x t0 : Addr} {v : Value} (X : K.In s.heap) (hg : s.heap.Ns mainGlobals mg) (hb : s.heap.Ns builtinsNs mb) (hbs : mb "super" = some (.type "super")) (hlim : s.heap.NoLimit) (hx : s.heap.get? x = some (excO C t0)) (hnx : K.lookup x = none) (hroom : A.depth < recursionLimit)
    (hq : ∀ h' tk dx, InitEnd s.heap h' x C dx v → R (.ok (.ret .none)) { s with heap := h', toks := tk }) :
    codeAny (model prog w) A (.call (.ref fI) ⟨[.ref x, v], []⟩) R s := by
  obtain ⟨oc, od, doc, pm, an, ct, osl, ho⟩ := T.fn
  have S := iS_ok
  obtain ⟨nm, q, N, bs, bm, sn, sub, ab, col, dd, k0, k1, k2, k3, k5, hC, hbm⟩ := T.cls
  obtain ⟨ccl, cdd, vs, ccs, file, tf, hcda, hvs, hfile⟩ := T.file
  obtain ⟨ck, cld, csl, hcell⟩ := T.cell
  obtain ⟨cd0, hc0⟩ := T.c0
  have hcl : clsIn K C = some { name := nm, bases := bs, mro := .ref C :: bm, ns := N, qualname := q, hasDict := true, slotNames := sn, subclasses := sub, abstract := ab, collection := col, hasDel := false } := by unfold clsIn; rw [hC] <;> rfl
  obtain ⟨hp, g, d, t, os⟩ := s
  refine ks_codeAny_call_defAt (fd := ksFn "__init__" qI iA iB iS .none .none doc pm an (.ref cda) ct cc) (body := iB) (binds := [("self", .ref x), ("value", v)]) hroom (X _ _ ho) rfl hlim (codeRec_of X T.code) rfl
    (BindsTo.of_eq (by first | rfl | with_unfolding_all rfl)) S.nocell (fun y hy => ?_) (fun h1 hn k1' => ?_) S.co S.gen S.kind
  · rcases List.mem_cons.mp hy with e | hy
    · rw [e]; exact S.self
    · rcases List.mem_cons.mp hy with e | hy
      · rw [e]; exact S.value
      · cases hy
  · have L0 : hp.objs.size < h1.objs.size := hn.lt
    have hxL : hp.objs.size ≠ x := Nat.ne_of_gt (Heap.lt_size hx)
    have X1 : K.In h1 := X.keeps k1'
    have hx1 := k1' _ _ hx
    have hself : (fun y => ([("self", Value.ref x), ("value", v)] : List (Str × Value)).reverse.lookup y) "self" = some (.ref x) := by first | rfl | with_unfolding_all rfl | kernel_rfl
    have hval : (fun y => ([("self", Value.ref x), ("value", v)] : List (Str × Value)).reverse.lookup y) "value" = some v := by first | rfl | with_unfolding_all rfl | kernel_rfl
    generalize (fun y => ([("self", Value.ref x), ("value", v)] : List (Str × Value)).reverse.lookup y) = m at hn hself hval
    show wpAt _ _ _ (execs iB (ksEnv qI iS hp.objs.size fI (.ref cda) cc)) _ _ _
    refine ks_wpAt_execs_cons (ks_wpAt_Expr_any (ks_wpAt_MethodCall ?_))
    obtain ⟨oD, hD1, hD2⟩ : ∃ oD, h1.get? C0 = some oD ∧ oD.data = .cls cd0 := by
      unfold clsIn at hc0
      split at hc0
      · rename_i c d cd' sl ho
        cases hc0
        exact ⟨_, X1 _ _ ho, rfl⟩
      · cases hc0
    refine ks_wpAt_super_base (env := ksEnv qI iS hp.objs.size fI (.ref cda) cc) (ar := { arg := "self", annotation := none, pos := ⟨4, 17, 4, 21⟩ }) S.sup S.cls (by decide) rfl (X1 _ _ ho) rfl rfl rfl (X1 _ _ hcda) rfl hvs hfile T.top ?_
    refine ks_loadName_global S.kind S.sup (loadGlobal_builtin (env := ksEnv qI iS hp.objs.size fI (.ref cda) cc) (hg.keeps k1') T.sup (hb.keeps k1') hbs ⟨rfl, ?_⟩)
    refine wpAny_loadName_free S.kind S.cls rfl ⟨_, X1 _ _ hcell, rfl⟩ ?_
    refine wpAny_loadName_local S.kind S.self hn hself ?_
    refine ks_wpAny_isType_cls hD1 hD2 ⟨rfl, ?_⟩
    refine ks_wpAny_call_super hD1 hD2 hx1 rfl (fun c e => by cases e) (looks_mroIn X1 T.sub) (fun h2 e2 k2' => ?_)
    have X2 : K.In h2 := X1.keeps k2'
    have hx2 := k2' _ _ hx1
    have I2 : InstAt h2 x (excO C t0) C none := ⟨hx2, rfl, rfl, trivial⟩
    have hal : alongIn K "__init__" (((Value.ref C :: bm).dropWhile (· != .ref C0)).drop 1) = some (some (.builtin "ValueError.__init__")) := by
      have q := T.along
      unfold ks_superIn at q
      rw [hcl] at q
      exact q
    refine kxs_getMethod kxs_ValueError e2 (looks_opaque X2 T.opq) (l₀ := .ref C :: bm) (fun A Q E s k q => wpAny_bind ((looks_clsIn X2 hcl) A _ E s k (wpAny_pure q))) rfl X2 hal (I2.type.andThen (looks_subIn X2 T.veC)) (ks_ne X2 I2 hcl) (by decide) ?_
    have k3' : ∀ b o, h2.get? b = some o → (h2.push (kxs_mw "ValueError.__init__" x)).get? b = some o := fun b o e => Heap.get?_push_of_some _ e
    have X3 : K.In (h2.push (kxs_mw "ValueError.__init__" x)) := X2.keeps k3'
    have e3 : (h2.push (kxs_mw "ValueError.__init__" x)).get? h2.objs.size = some (kxs_mw "ValueError.__init__" x) := Heap.get?_push_size _ rfl
    have hn3 : (h2.push (kxs_mw "ValueError.__init__" x)).Ns hp.objs.size m := (hn.keeps k2').keeps k3'
    refine kxs_callWith (i := "ValueError.__init__") (x := x) rfl (evalArgs_plain ?_)
    show wpAny _ _ (spliced (backTo ⟨5, 8, 5, 31⟩ (starEach [.Name "value" ⟨5, 25, 5, 30⟩] (ksEnv qI iS hp.objs.size fI (.ref cda) cc)))) _ _ _
    refine spliced_more (wpAny_Name (wpAny_loadName_local S.kind S.value hn3 hval (spliced_none ⟨e3, ?_⟩)) (by decide))
    show wpAny _ _ (call (.ref h2.objs.size) [v]) _ _ _
    refine call_mw (X3 _ _ hC) (k3' _ _ hx2) e3 (one_size v) fun h4 t4 k4' hx4 ht4 => ?_
    have X4 : K.In h4 := kept_but X3 hnx k4'
    have old : ∀ b o, b ≠ x → hp.get? b = some o → h4.get? b = some o := fun b o hb e => k4' b o hb (k3' b o (k2' b o (k1' b o e)))
    have hn4 : h4.Ns hp.objs.size m := hn3.at fun o e => k4' _ o hxL e
    refine wpAt_of_wpAny ?_
    refine wpAny_execs_cons (plainObj_wpAny_Assign_Attribute ?_)
    refine wpAny_Name (wpAny_loadName_local S.kind S.value hn4 hval ?_) (by decide)
    refine wpAny_Name (wpAny_loadName_local S.kind S.self hn4 hself ?_) (by decide)
    refine set_plain X4 (ox := excO C t4) (od := none) ⟨hx4, rfl, rfl, trivial⟩ T.sa ?_
    refine exc_osa X4 hx4 hcl (show refsVE (.ref C :: bm) = true from hbm) rfl T.noN (fun h5 tk5 dx k5' dn dne hx5 hn5 => ?_)
    show wpAny _ _ (execs _ _) _ _ _
    have z4 : hp.objs.size ≤ h4.objs.size := by
      obtain ⟨oL, _, _, hL, _⟩ := hn4
      exact Nat.le_of_lt (Heap.lt_size hL)
    have z3 : hp.objs.size ≤ t4 := by
      rw [ht4.2]
      obtain ⟨oL, _, _, hL, _⟩ := hn3
      exact Nat.le_of_lt (Heap.lt_size hL)
    have n4 : t4 ≠ x := Nat.ne_of_gt (Nat.lt_of_lt_of_le (Heap.lt_size hx) z3)
    have n5 : t4 ≠ dx := Nat.ne_of_lt (Nat.lt_of_lt_of_le (Heap.lt_size ht4.1) dn)
    exact wpAny_execs_nil (hq h5 tk5 dx ⟨fun b o hb e => k5' b o hb (old b o hb e), ⟨t4, hx5, k5' _ _ n4 ht4.1, z3, n4, n5⟩, Nat.le_trans z4 dn, dne, hn5⟩)
theorem made_ok (T : Txt prog K mg C C0 fI cc cda) {v : Value} (X : K.In s.heap) (hg : s.heap.Ns mainGlobals mg) (hb : s.heap.Ns builtinsNs mb) (hbs : mb "super" = some (.type "super")) (hlim : s.heap.NoLimit) (hroom : A.depth + 1 < recursionLimit)
    (hq : ∀ h' tk e d, Made s.heap h' e C d v → R (.ok (.ret (.ref e))) { s with heap := h', toks := tk }) :
    codeAny (model prog w) A (.call (.ref C) ⟨[v], []⟩) R s := by
  obtain ⟨nm, q, N, bs, bm, sn, sub, ab, col, dd, k0, k1, k2, k3, k5, hC, hbm⟩ := T.cls
  obtain ⟨hp, g, dr, tk, os⟩ := s
  have k : ∀ b o, hp.get? b = some o → ((hp.push (kdv_tup [v])).push (excO C hp.objs.size)).get? b = some o := fun b o e => Heap.get?_push_of_some _ (Heap.get?_push_of_some _ e)
  have hget : ((hp.push (kdv_tup [v])).push (excO C hp.objs.size)).get? (hp.objs.size + 1) = some (excO C hp.objs.size) := by heap_get
  have hnx : K.lookup (hp.objs.size + 1) = none := by
    cases e : K.lookup (hp.objs.size + 1) with
    | none => rfl
    | some o =>
      have z : hp.get? (hp.objs.size + 1) = some o := X _ _ e
      exact absurd (Nat.lt_of_succ_lt (Heap.lt_size z)) (Nat.lt_irrefl _)
  refine call_own F.excBase_ValueError (fun X => refsVE_contains X bm hbm) (X _ _ hC) (looks_findIn X T.iC) (fun self => bind_fn X self T.tC) (one_size v) ?_
  refine init_ok (s := ⟨(hp.push (kdv_tup [v])).push (excO C hp.objs.size), g, dr, tk, os⟩) T (X.keeps k) (hg.keeps k) (hb.keeps k) hbs (hlim.keeps k) hget hnx ?_ fun h' tk' dx ⟨k', hx, dn, dne, hns⟩ => ?_
  · show A.depth + 1 < recursionLimit
    exact hroom
  · have old : ∀ b o, hp.get? b = some o → h'.get? b = some o := fun b o e => k' b o (Nat.ne_of_lt (Nat.lt_succ_of_lt (Heap.lt_size e))) (k b o e)
    have z : hp.objs.size + 1 + 1 ≤ dx := by
      first
        | (simpa only [Heap.size_push] using dn)
        | exact dn
        | (have q := dn; rw [Heap.size_push, Heap.size_push] at q; exact q)
    obtain ⟨t1, hx, ht, zt, nt, nt2⟩ := hx
    have zt2 : hp.objs.size ≤ t1 := by
      have q := zt
      rw [Heap.size_push, Heap.size_push] at q
      omega
    exact ⟨rfl, hq h' tk' (hp.objs.size + 1) dx ⟨old, Nat.le_succ _, ⟨_, _, hx, rfl, rfl, rfl, rfl, t1, rfl, ht, zt2, nt, nt2⟩, Nat.le_trans (Nat.le_trans (Nat.le_succ _) (Nat.le_succ _)) z, dne, hns⟩⟩
end
end KnE
end PySem
namespace L2
open PySem PySem.Spec PyProof.Rows
theorem relO_val {v : V} {v' : Value} (r : RelV v v') (f : Str) : RelO (List.lookup f [(("value" : Str), v)]) (if f = "value" then some v' else none) := by
  by_cases hw : f = "value"
  · subst hw
    rw [if_pos rfl]
    have q : List.lookup ("value" : Str) [(("value" : Str), v)] = some v := by simp [List.lookup]
    rw [q]
    exact r
  · rw [if_neg hw]
    have qw : (f == ("value" : Str)) = false := by simpa using hw
    have q2 : List.lookup f [(("value" : Str), v)] = none := by simp [List.lookup, qw]
    rw [q2]
    trivial
section
variable {X : Cx} {C C0 fI cc cda : Addr}
def tMkV (C : Addr) (ta : TA) : TE := fun σ H Q => ta σ H fun vs H1 => ∃ v, vs = [v] ∧ ∀ d t e, H1 d = none → H1 t = none → H1 e = none → t ≠ d → t ≠ e → d ≠ e →
  Q (.ref e) (upd (upd (upd H1 d (.xd [(("value" : Str), v)])) t (.tup [v])) e (PM.ExT (.ref C) d e t))
theorem pe_mkV {a : Expr} {ta : TA} {x : Str} {p pos : Pos} {k : Nat} (T : PySem.KnE.Txt X.prog X.K X.mg C C0 fI cc cda) (hr : Room (k + 1) X.A) (ha : PA X [a] ta) (hg : Gl X x) (hx : X.mg x = some (.ref C)) (hdb : (x == ("__debug__" : Str)) = false)
    (he : starEach (a :: []) X.env = (false, eval a X.env) :: starEach [] X.env) :
    PE X (.Call (.Name x p) [a] [] pos) (tMkV C ta) := by
  refine ⟨fun pins s σ H Q I h => ?_⟩
  refine wpAny_Call_Name_kw (ld_glob I hg hx ?_ hdb)
  refine PySem.W.callWith_K (h₀ := X.base) I.ok.mod.kin T.kC (thn (ha.run pos pins s σ H _ I h) fun us s1 hh => ?_) he rfl
  obtain ⟨vs, H1, I1, r1, v, ev, q1⟩ := hh
  subst ev
  refine ⟨I1.kIn, ?_⟩
  cases r1 with
  | cons rv rn =>
    rename_i v' us'
    cases rn
    show wpAny _ _ (call (.ref C) [v']) _ _ _
    have hlim := I1.nolimit
    have hgl := I1.mod.glob.keeps I1.bk
    obtain ⟨mb, hb1, hb2⟩ := I1.mod.blt
    have hbl := hb1.keeps I1.bk
    have hbs : mb "super" = some (.type "super") := (hb2 _ (by decide)).trans (by decide +kernel)
    obtain ⟨hp, g, dr, tk, os⟩ := s1
    refine wpAny_call (PySem.KnE.made_ok T I1.kIn hgl hbl hbs hlim (by have := hr.dp; omega) fun h' tk' e d M => ?_)
    show EP X pins σ Q (.ref e) ⟨h', g, dr, tk', os⟩
    obtain ⟨oe, fv, hoe, hc, hd, hdat, h1, t, h0, ht, zt, nte, ntd⟩ := M.obj
    have hns := M.ns
    obtain ⟨G1, g1, g2⟩ := restrict h' fun b => decide (b ≠ e ∧ b ≠ t)
    obtain ⟨G2, k1, k2⟩ := restrict h' fun b => decide (b ≠ e)
    have gk : ∀ b, b ≠ e → b ≠ t → G1.get? b = h'.get? b := fun b hb hb2 => g1 b (decide_eq_true ⟨hb, hb2⟩)
    have kk : ∀ b, b ≠ e → G2.get? b = h'.get? b := fun b hb => k1 b (decide_eq_true hb)
    have g1e : G1.get? e = none := g2 e (by simp)
    have g1t : G1.get? t = none := g2 t (by simp)
    have g2e : G2.get? e = none := k2 e (by simp)
    have old : ∀ b o, hp.get? b = some o → G1.get? b = some o := fun b o q => (gk b (Nat.ne_of_lt (Nat.lt_of_lt_of_le (Heap.lt_size q) M.new)) (Nat.ne_of_lt (Nat.lt_of_lt_of_le (Heap.lt_size q) zt))).trans (M.keep b o q)
    have o12 : ∀ b o, G1.get? b = some o → G2.get? b = some o := fun b o q => by
      have h1 : b ≠ e := fun z => by rw [z, g1e] at q; cases q
      have h2 : b ≠ t := fun z => by rw [z, g1t] at q; cases q
      rw [kk b h1, ← gk b h1 h2]; exact q
    have o23 : ∀ b o, G2.get? b = some o → h'.get? b = some o := fun b o q => by
      have h1 : b ≠ e := fun z => by rw [z, g2e] at q; cases q
      rw [← kk b h1]; exact q
    have nd := I1.hok.fresh M.dbig
    have nt := I1.hok.fresh zt
    have ne := I1.hok.fresh M.new
    have ob : ObjOk X.prog X.w (upd H1 d (.xd [(("value" : Str), v)])) G1 d (.xd [(("value" : Str), v)]) :=
      ⟨_, hns.at (fun o q => (gk d M.dne (Ne.symm ntd)).trans q), fun f => relO_val rv f⟩
    have J1 : Inv X pins σ (upd H1 d (.xd [(("value" : Str), v)])) ⟨G1, g, dr, tk', os⟩ := I1.laid (t' := tk') old M.dbig ob
    have ob2 : ObjOk X.prog X.w (upd (upd H1 d (.xd [(("value" : Str), v)])) t (.tup [v])) G2 t (.tup [v]) :=
      ⟨by rw [sizeLine_eq]; exact (by decide : 1 ≤ 16777216), [v'], .cons rv .nil, _, (kk t nte).trans ht, rfl, _, rfl⟩
    have J2 : Inv X pins σ (upd (upd H1 d (.xd [(("value" : Str), v)])) t (.tup [v])) ⟨G2, g, dr, tk', os⟩ := J1.laidN (t' := tk') o12 g1t (by rw [upd_ne ntd]; exact nt) ob2
    have ob3 : ObjOk X.prog X.w (upd (upd (upd H1 d (.xd [(("value" : Str), v)])) t (.tup [v])) e (PM.ExT (.ref C) d e t)) h' e (PM.ExT (.ref C) d e t) :=
      ⟨⟨oe, fv, hoe, ⟨hc, hd⟩, hdat, h0⟩, ⟨_, hoe⟩, fun h1 h2 ⟨oe, vs, e1, e2, e3, e4⟩ st => ⟨oe, vs, st _ e1, e2, e3, e4⟩⟩
    have J3 : Inv X pins σ (upd (upd (upd H1 d (.xd [(("value" : Str), v)])) t (.tup [v])) e (PM.ExT (.ref C) d e t)) ⟨h', g, dr, tk', os⟩ := J2.laidN (t' := tk') o23 g2e (by rw [upd_ne (Ne.symm nte), upd_ne (Ne.symm M.dne)]; exact ne) ob3
    exact ⟨.ref e, _, J3, rfl, q1 d t e nd nt ne ntd nte M.dne⟩
end
end L2
namespace PM
open PySem PySem.Spec PyProof.Rows L2 LamX
structure PD.Mk (D : PD) : Prop where
  all : ∀ x c, find2 x D.G.ec = some c → ∃ C0 fI cc cda, PySem.KnE.Txt D.P D.K D.mg (D.cA c) C0 fI cc cda
  nm : ∀ x c, find2 x D.G.ec = some c → MkC D.K (D.cA c) x
section
variable {D : PD} {d : Nat} {S : SS} {X : Cx} {F : Fm} {c : Cfg}
theorem e_mkV (g : Good D d S X F c) (ok : D.Ok) (mk : D.Mk) {x : Str} {k : Nat} {a : Expr} {a' : E} {p pos : Pos} (hx : glB S.sc x = true) (hxn : okName x = true) (hk : find2 x D.G.ec = some k) (hn : nostar a = true) (ha : PE X a (tE F (ev c a').v)) :
    PE X (.Call (.Name x p) [a] [] pos) (tE F (ev c (.mk k x a')).v) := by
  obtain ⟨C0, fI, cc, cda, T⟩ := mk.all x k hk
  obtain ⟨x1, _, _⟩ := okName_of hxn
  have hmg : X.mg x = some (.ref (D.cA k)) := by rw [g.mg]; exact ok.ec x k hk
  have A : PA X [a] (tCons (tE F (ev c a').v) tNil) := pa_cons ha pa_nil (star_cons hn)
  refine PE.weak (pe_mkV (C := D.cA k) (k := d + 7) (by rw [g.prog, g.K, g.mg]; exact T) g.room A (g.gl hx) hmg x1 (star_cons hn)) fun σ H Q ⟨ρ, st, ι, R, h⟩ => ?_
  refine seqA R h fun st1 xv v ι1 H1 s1 R1 r1 h1 => ?_
  refine ⟨v, rfl, fun dd t e nd nt ne ntd nte nde => ?_⟩
  have h1 : Aft F (rpV F) ρ ι1 σ H1 (if nor xv = true then PM.R.ok (.mkd k x xv) st1 else .bad) Q := h1
  split at h1
  · have R1 : Rel F.C F.T F.ι0 F.H0 ρ st1 ι1 σ H1 := R1
    have nt' : upd H1 dd (.xd [(("value" : Str), v)]) t = none := by rw [upd_ne ntd]; exact nt
    have ne' : upd (upd H1 dd (.xd [(("value" : Str), v)])) t (.tup [v]) e = none := by rw [upd_ne (Ne.symm nte), upd_ne (Ne.symm nde)]; exact ne
    have s1 : Step ι1 H1 ι1 _ := step_new (o := .xd [(("value" : Str), v)]) nd
    have s2 : Step ι1 _ ι1 _ := step_new (o := .tup [v]) nt'
    have s3 : Step ι1 _ ι1 _ := step_new (o := ExT (.ref (D.cA k)) dd e t) ne'
    have st3 := (s1.trans s2).trans s3
    have R2 := ((R1.new (o := .xd [(("value" : Str), v)]) nd).new (o := .tup [v]) nt').new (o := ExT (.ref (D.cA k)) dd e t) ne'
    refine h1 (.ref e) ι1 _ st3 R2 ?_
    refine .mkd (d := dd) (t := t) (by rw [g.Fk, g.FcA]; exact mk.nm x k hk) (by rw [g.FcA]; exact upd_same) (R1.fresh ne) (by rw [upd_ne nde, upd_ne (Ne.symm ntd)]; exact upd_same) (R1.fresh nd) (by rw [upd_ne nte]; exact upd_same) (R1.fresh nt) (Rep.mono st3 r1)
  · exact h1.elim
end
end PM
set_option Elab.async false
set_option linter.all false
set_option maxRecDepth 100000
set_option maxHeartbeats 4000000
/-! PM11: isinstance, an error's value, methods. -/
namespace PM
open PySem PySem.Spec PyProof.Rows L2 LamX
theorem kit_ty {K : PySem.W.Frag} : ∀ T ∈ ["NoneType", "bool", "int", "str", "tuple", "list", "dict"], ∀ n ∈ tnames, PySem.W.kitOne K (.type T) (.type n) = some (T == n || (T == "bool" && n == "int")) := by
  intro T hT n hn
  simp only [tnames, List.mem_cons, List.not_mem_nil, or_false] at hT hn
  rcases hT with rfl | rfl | rfl | rfl | rfl | rfl | rfl <;> rcases hn with rfl | rfl | rfl | rfl | rfl | rfl | rfl | rfl <;> rfl
theorem kit_ve {K : PySem.W.Frag} : PySem.W.kitOne K (.type "NoneType") (.type "ValueError") = some false := rfl
/-- what an error's class of the program must have -/
structure ErrC (K : PySem.W.Frag) (C : Addr) : Prop where
  cl : (PySem.W.clsIn K C).isSome = true
  ga : PySem.W.findIn K (.ref C) "__getattribute__" = some (some (.builtin "BaseException.__getattribute__"))
  gg : PySem.W.findIn K (.ref C) "__getattr__" = some none
  sub : PySem.W.subIn K (.ref C) (.type "BaseException") = some true
  ca : PySem.W.findIn K (.ref C) "__class__" = some (some (.builtin "object.__class__"))
  cg : PySem.W.specialIn K (.builtin "object.__class__") "__get__" = some (some (.builtin "getset_descriptor.__get__"))
  ct : PySem.W.takesIn K (.builtin "object.__class__") = some true
  mr : PySem.W.mroIn K C (.type "object") = some true
  va : PySem.W.findIn K (.ref C) "value" = some none
  hd : PySem.W.hasDictIn K C = true
  ve : PySem.W.kitOne K (.ref C) (.type "ValueError") = some true
structure PD.Err (D : PD) : Prop where
  mks : D.Mk
  all : ∀ c, ErrC D.K (D.cA c)
  is : ∀ c x d, find2 x D.G.ec = some d → PySem.W.kitOne D.K (.ref (D.cA c)) (.ref (D.cA d)) = some (subE c d)
section
variable {D : PD} {d : Nat} {S : SS} {X : Cx} {F : Fm} {c : Cfg}
theorem Inv.err {pins : List (Addr × Obj)} {s : Shared} {σ : L2.St} {H : Hp} {a d : Addr} {C : Addr} {x : V} (I : L2.Inv X pins σ H s) (ha : H a = some (ExD (.ref C) d a)) (hd : H d = some (.xd [(("value" : Str), x)])) :
    ∃ (ox od : Obj) (u : Value), PySem.W.InstAt s.heap a ox C (some od) ∧ RelV x u ∧ PySem.W.lookIn "value" od = some (some u) ∧ PySem.W.lookIn "__class__" od = some none := by
  obtain ⟨⟨oe, vs, e1, ⟨z1, z2⟩, e2⟩, _, _⟩ := I.hok a _ ha
  obtain ⟨mA, n, r⟩ := I.hok d _ hd
  obtain ⟨od, h1, h2⟩ := lookIn_ns n
  obtain ⟨u, hu, ru⟩ := RelO.some_of (v := x) (o := mA "value") (by
    have := r "value"
    rwa [show List.lookup ("value" : Str) [(("value" : Str), x)] = some x from by simp [List.lookup]] at this)
  have hn : mA "__class__" = none := RelO.none_of (by
    have := r "__class__"
    rwa [show List.lookup ("__class__" : Str) [(("value" : Str), x)] = none from by
      simp only [List.lookup]
      rw [show (("__class__" : Str) == ("value" : Str)) = false from by decide +kernel]] at this)
  obtain ⟨oc, odd, dt, sl⟩ := oe
  simp only at z1 z2 e2
  subst z1
  subst z2
  subst e2
  exact ⟨_, od, u, ⟨e1, rfl, rfl, h1⟩, ru, by rw [h2, hu], by rw [h2, hn]⟩
theorem Inv.errT {pins : List (Addr × Obj)} {s : Shared} {σ : L2.St} {H : Hp} {a d t : Addr} {C : Addr} {x : V} (I : L2.Inv X pins σ H s) (ha : H a = some (ExT (.ref C) d a t)) (hd : H d = some (.xd [(("value" : Str), x)])) :
    ∃ (ox od : Obj) (u : Value), PySem.W.InstAt s.heap a ox C (some od) ∧ RelV x u ∧ PySem.W.lookIn "value" od = some (some u) ∧ PySem.W.lookIn "__class__" od = some none := by
  obtain ⟨⟨oe, vs, e1, ⟨z1, z2⟩, e2, _⟩, _, _⟩ := I.hok a _ ha
  obtain ⟨mA, n, r⟩ := I.hok d _ hd
  obtain ⟨od, h1, h2⟩ := lookIn_ns n
  obtain ⟨u, hu, ru⟩ := RelO.some_of (v := x) (o := mA "value") (by
    have := r "value"
    rwa [show List.lookup ("value" : Str) [(("value" : Str), x)] = some x from by simp [List.lookup]] at this)
  have hn : mA "__class__" = none := RelO.none_of (by
    have := r "__class__"
    rwa [show List.lookup ("__class__" : Str) [(("value" : Str), x)] = none from by
      simp only [List.lookup]
      rw [show (("__class__" : Str) == ("value" : Str)) = false from by decide +kernel]] at this)
  obtain ⟨oc, odd, dt, sl⟩ := oe
  simp only at z1 z2 e2
  subst z1
  subst z2
  subst e2
  exact ⟨_, od, u, ⟨e1, rfl, rfl, h1⟩, ru, by rw [h2, hu], by rw [h2, hn]⟩
/-- the name of a value's type -/
def tyN : PV → Option String
  | .non => some "NoneType" | .bl _ => some "bool" | .int _ => some "int" | .str _ => some "str" | .tup _ => some "tuple" | .lst _ => some "list" | .dct _ _ => some "dict" | _ => none
theorem tyN_mem {p : PV} {T : String} (h : tyN p = some T) : T ∈ ["NoneType", "bool", "int", "str", "tuple", "list", "dict"] := by
  cases p <;> first | (cases h; done) | (cases h; simp)
theorem tyN_of {C : Ct} {ι : List Addr} {H : Hp} {x : V} {p : PV} {T : String} (r : RepV C ι H x p) (h : tyN p = some T) : TyX C.K H x (.type T) := by
  cases p with
  | non => cases h; rw [r.nonI]; exact .base .non
  | bl b => cases h; rw [r.blI]; exact .base (.bl b)
  | int i => cases h; rw [r.intI]; exact .base (.int i)
  | str s => cases h; rw [r.strI]; exact .base (.str s)
  | tup ps =>
    cases h
    obtain ⟨a, xs, rfl, hx, _⟩ := r.tupI
    rcases hx with (hx | ⟨o, hx⟩) | ⟨o, its, n, hk, hc, _⟩
    · exact .base (.tup hx)
    · exact .fTuple hx
    · exact .kTuple hk hc
  | lst ps =>
    cases h
    obtain ⟨a, xs, rfl, hx, _⟩ := r.lstI
    exact .base (.lst hx)
  | dct ks vs =>
    cases h
    cases r with
    | of r => cases r with | dct hx _ _ => exact .base (.dK hx)
    | dct hx _ => exact .base (.dK hx)
  | _ => cases h
/-- the class that is asked for, as a value -/
def ClsOf (D : PD) : Cl → Value → V → Prop
  | .ty n, u, v => n ∈ tnames ∧ u = .type n ∧ v = .ty n
  | .ve, u, v => u = .type "ValueError" ∧ v = .ty "ValueError"
  | .ec k, u, v => (∃ x, find2 x D.G.ec = some k) ∧ u = .ref (D.cA k) ∧ v = .ref (D.cA k)
theorem isi_ty (ok : D.Ok) {p : PV} {T : String} {cl : Cl} {u : Value} {v : V} {b : Bool} (hT : tyN p = some T) (hc : ClsOf D cl u v) (h : isiV p cl = some b) : PySem.W.kitOne D.K (.type T) u = some b := by
  have hm := tyN_mem hT
  cases cl with
  | ty n =>
    obtain ⟨hn, rfl, _⟩ := hc
    rw [kit_ty T hm n hn]
    cases p <;> first | (cases hT; done) | skip
    all_goals
      cases hT
      simp only [isiV, Option.some.injEq] at h ⊢
      rw [← h]
    · simp only [tnames, List.mem_cons, List.not_mem_nil, or_false] at hn
      rcases hn with rfl | rfl | rfl | rfl | rfl | rfl | rfl | rfl <;> rfl
    · simp only [tnames, List.mem_cons, List.not_mem_nil, or_false] at hn
      rcases hn with rfl | rfl | rfl | rfl | rfl | rfl | rfl | rfl <;> rfl
    · simp only [tnames, List.mem_cons, List.not_mem_nil, or_false] at hn
      rcases hn with rfl | rfl | rfl | rfl | rfl | rfl | rfl | rfl <;> rfl
    · simp only [tnames, List.mem_cons, List.not_mem_nil, or_false] at hn
      rcases hn with rfl | rfl | rfl | rfl | rfl | rfl | rfl | rfl <;> rfl
    · simp only [tnames, List.mem_cons, List.not_mem_nil, or_false] at hn
      rcases hn with rfl | rfl | rfl | rfl | rfl | rfl | rfl | rfl <;> rfl
    · simp only [tnames, List.mem_cons, List.not_mem_nil, or_false] at hn
      rcases hn with rfl | rfl | rfl | rfl | rfl | rfl | rfl | rfl <;> rfl
    · simp only [tnames, List.mem_cons, List.not_mem_nil, or_false] at hn
      rcases hn with rfl | rfl | rfl | rfl | rfl | rfl | rfl | rfl <;> rfl
  | ve =>
    obtain ⟨rfl, _⟩ := hc
    cases p <;> first | (cases hT; done) | (cases h; done) | skip
    cases hT
    cases h
    exact kit_ve
  | ec k =>
    obtain ⟨⟨x, hx⟩, rfl, _⟩ := hc
    have e := ok.isi x k hx T hm
    cases p <;> first | (cases hT; done) | (cases h; done) | skip
    all_goals first
      | (cases h; exact e)
      | skip
/-- isinstance, by values -/
def rIs (D : PD) (F : Fm) : List V → Hp → VK → Prop := fun xs H Q => ∃ (ρ : Env) (st : Store) (ι : List Addr) (σ' : L2.St) (x v : V) (u : Value) (p : PV) (cl : Cl), xs = [x, v] ∧ ClsOf D cl u v ∧
  F.Rl ρ st ι σ' H ∧ RepV F.C ι H x p ∧ Aft F (rpV F) ρ ι σ' H (bnd (giv (isiV p cl) st) fun b st => .ok (.bl b) st) Q
theorem call_is (g : Good D d S X F c) (ok : D.Ok) (er : D.Err) : CallR X (.builtin "isinstance") (rIs D F) := by
  intro pins s σ H xs us Q I rs ⟨ρ, st, ι, σ', x, v, u, p, cl, ex, hc, R, r, h⟩
  subst ex
  obtain ⟨b, e, h⟩ := giv_bnd h
  have q : Q (.bl b) H := h.ok R (.bl _)
  obtain ⟨u1, u2, rfl, r1, r2⟩ := vals2 rs
  have e2 : u2 = u := by
    cases cl with
    | ty n => obtain ⟨_, rfl, rfl⟩ := hc; exact r2
    | ve => obtain ⟨rfl, rfl⟩ := hc; exact r2
    | ec k => obtain ⟨_, rfl, rfl⟩ := hc; exact r2
  subst e2
  cases hT : tyN p with
  | some T =>
    have ty := tyN_of r hT
    have k := isi_ty ok hT hc e
    rw [g.Fk, ← g.K] at ty
    rw [← g.K] at k
    obtain ⟨P, Z, hp, hx⟩ := kit_of I r1 ty
    exact PySem.W.kia_one Z I.kIn hp k hx fun tk => ⟨.bl b, H, I.tok tk, rfl, q⟩
  | none =>
    cases p with
    | exc k w =>
      cases r with
      | of r =>
        cases r with
        | @exc a d _ x' _ ha na hd nd rx =>
          cases r1
          have E := er.all k
          rw [g.FcA] at ha
          obtain ⟨ox, od, u', J, ru, l1, l2⟩ := Inv.err I ha hd
          rw [← g.K] at E
          have kk : PySem.W.kitOne X.K (.ref (D.cA k)) u2 = some b := by
            cases cl with
            | ty n => cases e
            | ve => obtain ⟨rfl, _⟩ := hc; cases e; exact E.ve
            | ec j =>
              obtain ⟨⟨y, hy⟩, rfl, _⟩ := hc
              cases e
              rw [g.K]
              exact er.is k y j hy
          exact PySem.W.kia_one (PySem.W.kitx_exc E.cl E.ga E.gg E.sub E.ca E.cg E.ct E.mr) I.kIn J kk (fun z => nomatch z) fun tk => ⟨.bl b, H, I.tok tk, rfl, q⟩
    | mkd k m w =>
      cases r with
      | of r =>
        cases r with
        | @mkd a d _ _ _ x' _ hmk ha na hd nd ht nt rx =>
          cases r1
          have E := er.all k
          rw [g.FcA] at ha
          obtain ⟨ox, od, u', J, ru, l1, l2⟩ := Inv.errT I ha hd
          rw [← g.K] at E
          have kk : PySem.W.kitOne X.K (.ref (D.cA k)) u2 = some b := by
            cases cl with
            | ty n => cases e
            | ve => obtain ⟨rfl, _⟩ := hc; cases e; exact E.ve
            | ec j =>
              obtain ⟨⟨y, hy⟩, rfl, _⟩ := hc
              cases e
              rw [g.K]
              exact er.is k y j hy
          exact PySem.W.kia_one (PySem.W.kitx_exc E.cl E.ga E.gg E.sub E.ca E.cg E.ct E.mr) I.kIn J kk (fun z => nomatch z) fun tk => ⟨.bl b, H, I.tok tk, rfl, q⟩
    | _ => first | (cases hT; done) | (cases cl <;> cases e)
theorem e_isi (g : Good D d S X F c) (ok : D.Ok) (er : D.Err) {a b : Expr} {a' : E} {cl : Cl} {u : Value} {v : V} {p pos : Pos} (hf : frB D.G S "isinstance" = true) (na : nostar a = true) (nb : nostar b = true) (ha : PE X a (tE F (ev c a').v)) (hb : PE X b (tC v)) (hc : ClsOf D cl u v) :
    PE X (.Call (.Name "isinstance" p) [a, b] [] pos) (tE F (ev c (.isi a' cl)).v) := by
  refine PE.weak (e_biAny g ok hf boot_isinstance (.inl ⟨_, rfl⟩) (call_is g ok er) (pa_cons ha (pa_cons hb pa_nil (star_cons nb)) (star_cons na)) (star_cons na) (by rw [star_cons nb]; rfl)) fun σ H Q ⟨ρ, st, ι, R, h⟩ => ?_
  refine seqA R h fun st1 x xv ι1 H1 s1 R1 r1 h1 => ?_
  exact ⟨ρ, st1, ι1, σ, xv, v, u, _, cl, rfl, hc, R1, R1.rst.view r1, h1⟩
theorem cl_ok (g : Good D d S X F c) (ok : D.Ok) {b : Expr} {cl : Cl} (h : trCl D.G S b = some cl) : nostar b = true ∧ ∃ u v, PE X b (tC v) ∧ ClsOf D cl u v := by
  unfold trCl at h
  split at h
  · rename_i x pos
    refine ⟨rfl, ?_⟩
    split at h
    · rename_i hf
      obtain ⟨h1, h2, h3, h4⟩ := frB_of g ok hf
      split at h
      · rename_i hx
        subst hx
        cases h
        exact ⟨.type "ValueError", .ty "ValueError", pe_bltn h1 h2 (by decide +kernel) rfl h3 h4, rfl, rfl⟩
      · obtain ⟨n, hn, rfl⟩ := Option.map_eq_some_iff.mp h
        have go : ∀ l : List String, findT x l = some n → n ∈ l ∧ x = Str.ofString n := by
          intro l
          induction l with
          | nil => intro z; cases z
          | cons t r ih =>
            intro z
            unfold findT at z
            split at z
            · rename_i e
              cases z
              exact ⟨List.mem_cons_self, e⟩
            · obtain ⟨i1, i2⟩ := ih z
              exact ⟨List.mem_cons_of_mem _ i1, i2⟩
        obtain ⟨hm, hx⟩ := go _ hn
        have hb : bootBuiltins x = some (.type n) := by
          rw [hx]
          simp only [tnames, List.mem_cons, List.not_mem_nil, or_false] at hm
          rcases hm with rfl | rfl | rfl | rfl | rfl | rfl | rfl | rfl
          · exact boot_int
          · exact boot_bool
          · exact boot_str
          · exact boot_tuple
          · exact boot_list
          · exact (by decide +kernel)
          · exact (by decide +kernel)
          · exact boot_set
        exact ⟨.type n, .ty n, pe_bltn h1 h2 hb rfl h3 h4, hm, rfl, rfl⟩
    · obtain ⟨h1, h⟩ := gd_some.mp h
      obtain ⟨k, hk, rfl⟩ := Option.map_eq_some_iff.mp h
      simp only [Bool.and_eq_true] at h1
      obtain ⟨n1, n2, n3⟩ := okName_of h1.1
      exact ⟨.ref (D.cA k), .ref (D.cA k), pe_glob (g.gl h1.2) (by rw [g.mg]; exact ok.ec x k hk) rfl n1, ⟨x, hk⟩, rfl, rfl⟩
  · cases h
/-- e.value of an error -/
theorem at_base {e : Expr} {x : Str} {env : PySem.Env} (h : nocall e = true) : attributeBase e x env (eval e env) = eval e env := by
  cases e <;> first | rfl | cases h
theorem e_at (g : Good D d S X F c) (er : D.Err) {a : Expr} {a' : E} {pos : Pos} (hn : nocall a = true) (ha : PE X a (tE F (ev c a').v)) : PE X (.Attribute a "value" pos) (tE F (ev c (.at a')).v) := by
  refine ⟨fun pins s σ H Q I ⟨ρ, st, ι, R, h⟩ => ?_⟩
  refine attr_of (at_base hn) (thn (ha.run pins s σ H (fun x H1 => ∃ (ι1 : List Addr) (st1 : Store) (w : PV), F.Rl ρ st1 ι1 σ H1 ∧ ((∃ k, Rep F.C ι1 H1 x (.exc k w)) ∨ ∃ k m, Rep F.C ι1 H1 x (.mkd k m w)) ∧ Aft F (rpV F) ρ ι1 σ H1 (.ok w st1) Q) I ?_) fun u s1 ⟨x, H1, I1, rx, ι1, st1, w, R1, r1, h1⟩ => ?_)
  · refine seqA R h fun st1 x xv ι1 H1 s1 R1 r1 h1 => ?_
    cases x with
    | exc k w => exact ⟨ι1, st1, w, R1, .inl ⟨k, r1⟩, h1⟩
    | mkd k m w => exact ⟨ι1, st1, w, R1, .inr ⟨k, m, r1⟩, h1⟩
    | _ => exact h1.elim
  · rcases r1 with ⟨k, r1⟩ | ⟨k, m, r1⟩
    · cases r1 with
      | @exc a2 d _ x' _ hH na hd nd rx' =>
        cases rx
        have E := er.all k
        rw [g.FcA] at hH
        obtain ⟨ox, od, u', J, ru, l1, l2⟩ := Inv.err I1 hH hd
        rw [← g.K] at E
        refine HandSPX.exc_get I1.kIn J E.ga E.gg E.sub (PySem.W.findObj_own E.hd E.va rfl l1) (handed_of ru) ?_
        exact ⟨x', H1, I1.tok _, ru, h1.ok R1 rx'⟩
    · cases r1 with
      | @mkd a2 d _ _ _ x' _ hmk hH na hd nd ht nt rx' =>
        cases rx
        have E := er.all k
        rw [g.FcA] at hH
        obtain ⟨ox, od, u', J, ru, l1, l2⟩ := Inv.errT I1 hH hd
        rw [← g.K] at E
        refine HandSPX.exc_get I1.kIn J E.ga E.gg E.sub (PySem.W.findObj_own E.hd E.va rfl l1) (handed_of ru) ?_
        exact ⟨x', H1, I1.tok _, ru, h1.ok R1 rx'⟩
end
end PM
set_option Elab.async false
set_option linter.all false
set_option maxRecDepth 100000
set_option maxHeartbeats 4000000
/-! PM12: methods, calls of own functions and of lambdas. -/
namespace PM
open PySem PySem.Spec PyProof.Rows L2 LamX
theorem clows_app {lv : Nat} : ∀ {xs ys : List PV}, clows lv xs = true → clows lv ys = true → clows lv (xs ++ ys) = true
  | [], _, _, h => h
  | x :: xs, ys, h, k => by
    simp only [clows, List.cons_append, Bool.and_eq_true] at *
    exact ⟨h.1, clows_app h.2 k⟩
theorem nrfs_app : ∀ {xs ys : List PV}, nrfs xs = true → nrfs ys = true → nrfs (xs ++ ys) = true
  | [], _, _, h => h
  | x :: xs, ys, h, k => by
    simp only [nrfs, List.cons_append, Bool.and_eq_true] at *
    exact ⟨h.1, nrfs_app h.2 k⟩
theorem clows_sub {lv : Nat} : ∀ {xs ys : List PV}, ys.Sublist xs → clows lv xs = true → clows lv ys = true
  | _, _, .slnil, h => h
  | _, _, .cons _ s, h => by simp only [clows, Bool.and_eq_true] at h; exact clows_sub s h.2
  | _, _, .cons_cons _ s, h => by simp only [clows, Bool.and_eq_true] at *; exact ⟨h.1, clows_sub s h.2⟩
theorem nrfs_sub : ∀ {xs ys : List PV}, ys.Sublist xs → nrfs xs = true → nrfs ys = true
  | _, _, .slnil, h => h
  | _, _, .cons _ s, h => by simp only [nrfs, Bool.and_eq_true] at h; exact nrfs_sub s h.2
  | _, _, .cons_cons _ s, h => by simp only [nrfs, Bool.and_eq_true] at *; exact ⟨h.1, nrfs_sub s h.2⟩
/-- a list of the store -/
theorem Rel.refI {C : Ct} {T : List (Addr × Str)} {ι0 ι : List Addr} {H0 H : Hp} {ρ : Env} {st : Store} {σ : L2.St} {x : V} {n : Nat} {ps : List PV} (R : Rel C T ι0 H0 ρ st ι σ H) (r : Rep C ι H x (.ref n)) (e : st[n]? = some (.lst ps)) :
    ∃ a xs, x = .ref a ∧ ι[n]? = some a ∧ H a = some (.lst xs) ∧ nrfs ps = true ∧ Reps C ι H xs ps := by
  cases r with
  | @ref a _ h =>
    obtain ⟨hn, xs, e1, r⟩ := R.rst.ob n a _ h e
    exact ⟨a, xs, rfl, h, e1, hn, r⟩
/-- a method's call that the evaluator tells -/
def rMt (F : Fm) (nb : Nat) (m : Mt) : V → List V → Hp → VK → Prop := fun x xs H Q => ∃ (ρ : Env) (st : Store) (ι : List Addr) (σ' : L2.St) (u : PV) (ps : List PV),
  F.Rl ρ st ι σ' H ∧ Rep F.C ι H x u ∧ Reps F.C ι H xs ps ∧ Aft F (rpV F) ρ ι σ' H (mtR nb m st u ps) Q
theorem mtR_ok {F : Fm} {ρ : Env} {ι : List Addr} {σ : L2.St} {H : Hp} {nb : Nat} {m : Mt} {st : Store} {u : PV} {ps : List PV} {Q : VK} (h : Aft F (rpV F) ρ ι σ H (mtR nb m st u ps) Q) : ∃ v st', mtV nb m st u ps = some (v, st') ∧ Aft F (rpV F) ρ ι σ H (.ok v st') Q := by
  unfold mtR at h
  split at h
  · exact ⟨_, _, by assumption, h⟩
  · exact h.elim
theorem MtR.weak {X : Cx} {id : String} {r r' : V → List V → Hp → VK → Prop} (h : MtR X id r) (w : ∀ x xs H Q, r' x xs H Q → r x xs H Q) : MtR X id r' := fun pins s σ H x xs v us Q I rx rs q => h pins s σ H x xs v us Q I rx rs (w x xs H Q q)
section
variable {F : Fm} {X : Cx} {nb : Nat}
theorem getL_ok {st : Store} {v : PV} {p : Nat × List PV} (h : getL st v = some p) : v = .ref p.1 ∧ st[p.1]? = some (.lst p.2) := by
  unfold getL at h
  split at h
  · split at h
    · cases h; exact ⟨rfl, by assumption⟩
    · cases h
  · cases h
theorem low_of {C : Ct} {T : List (Addr × Str)} {ι0 ι : List Addr} {H0 H : Hp} {ρ : Env} {st : Store} {σ : L2.St} {n : Nat} {ps : List PV} (R : Rel C T ι0 H0 ρ st ι σ H) (e : st[n]? = some (.lst ps)) : ∀ q ∈ C.lows, n < q.1 → clows q.2 ps = true := fun q hq hn => R.low q hq n _ hn e
theorem m_append (hnb : ∀ q ∈ F.C.lows, q.1 ≤ nb) : MtR X "list.append" (rMt F nb .append) := MtR.weak mt_append fun x xs H Q ⟨ρ, st, ι, σ', u, ps, R, ru, rs, h⟩ => by
  obtain ⟨v, st', e0, h⟩ := mtR_ok h
  have e : mApp nb st u ps = some (v, st') := e0
  clear e0
  unfold mApp at e
  split at e
  · rename_i y
    obtain ⟨⟨n, qs⟩, e1, e2⟩ := Option.bind_eq_some_iff.mp e
    obtain ⟨rfl, e3⟩ := getL_ok e1
    split at e2
    · rename_i hc
      simp only [Bool.and_eq_true, Bool.or_eq_true, decide_eq_true_eq] at hc
      cases e2
      obtain ⟨a, ys, rfl, ha, hH, hn, rr⟩ := R.refI ru e3
      cases rs with
      | cons r1 t =>
        cases t
        have ny : nrf y = true := hc.1.elim nrf_of fun z => z.2
        obtain ⟨s1, R1⟩ := R.write ha (rr.append (.cons r1 .nil)) (nrfs_app hn (by simp [nrfs, ny])) (fun q hq hq2 => clows_app (low_of R e3 q hq hq2) (by
          rcases hc.1 with z | z
          · simp [clows, clow_of z]
          · have := hnb q hq; have := z.1; omega))
        exact ⟨a, ys, _, rfl, rfl, hH, by rw [rr.length, ← SZ_eq]; exact hc.2, h _ _ _ s1 R1 .non⟩
    · cases e2
  · cases e
theorem extT_meets (l b : Addr) (p : Array Value) (n : Nat) (q : Array Value) (m : Nat) (odd : Option Addr) (sl : Array (Option Value)) (c0 : ¬(!p.isEmpty && Builtin.List.listTooLong (p.size + q.size)) = true) (c1 : p.size ≤ sizeLine) (c2 : p.size + q.size ≤ sizeLine + 1) :
    Meets (Builtin.«list.extend» ⟨[.ref l, .ref b], []⟩) (fun _ R s => s.heap.get? l = some { cls := .type "list", data := .seq p n } ∧ s.heap.get? b = some { cls := .type "tuple", dict := odd, data := .seq q m, slots := sl } ∧
      R (.ok (.ret .none)) { s with heap := s.heap.update l (Obj.mapSeq fun y => y ++ q), toks := s.toks }) :=
  .of_wp fun prog w A R s hh => by
    obtain ⟨hp, gg, dd, tk, os⟩ := s
    obtain ⟨h1, h2, h3⟩ := hh
    have w1 := AutoSeq1.idx_int; have w2 := AutoSeq1.sub_tuple_tuple; have w3 := AutoSeq1.sub_list_list; have w4 := AutoSeq1.sub_tuple_list; have w5 := AutoSeq1.sub_list_tuple
    have z1 : (p ++ q).size ≤ sizeLine + 1 := by rw [Array.size_append]; exact c2
    wp_walk using (wpAny_updateSeq h1 rfl (hz := c1) (_hz' := z1)), AutoSeq1.wpAny_loadPart' h1, AutoSeq1.wpAny_loadPart' h2
    exact ⟨_, rfl, h3⟩
theorem mt_extT : MtM X "list.extend" (fun x vs H Q => ∃ l b xs zs, x = .ref l ∧ vs = [.ref b] ∧ H l = some (.lst xs) ∧ SqT X.K H b zs ∧ xs.length + zs.length ≤ sizeLine ∧ Q .non (upd H l (.lst (xs ++ zs)))) := by
  intro pins s σ H x vs v us Q I rx rv hyp
  obtain ⟨l, b, xs, zs, rfl, rfl, hH, hB, hz, q⟩ := hyp
  cases rx
  obtain ⟨u, rfl, ru⟩ := rv.one
  cases ru
  obtain ⟨z, its, n, r, hl, e⟩ := I.lstM hH
  obtain ⟨its2, r2, ⟨ot, e2, c2, n2, d2⟩, _⟩ := I.tuple hB
  have hl2 := r2.length
  have hsz : its.toArray.size + its2.toArray.size ≤ sizeLine := by rw [List.size_toArray, List.size_toArray]; omega
  obtain ⟨oc, odd, dt, sl⟩ := ot
  simp only at c2 d2
  subst c2
  subst d2
  have hlong : ¬ (!its.toArray.isEmpty && Builtin.List.listTooLong (its.toArray.size + its2.toArray.size)) = true := by
    rw [notLongL hsz, Bool.and_false]
    exact Bool.false_ne_true
  refine call_meets F.slot_list_extend ⟨_, e, rfl⟩ F.entry_list_extend (F.args_list_extend_2 _ _) (extT_meets l b its.toArray n its2.toArray n2 odd sl hlong (by omega) (by omega)) ⟨e, e2, ?_⟩
  refine ⟨.non, _, I.lset (its' := its ++ its2) hH e (by simp) (r.append r2) ?_, rfl, q⟩
  rw [List.length_append]
  omega
theorem mt_ext2 : MtM X "list.extend" (fun x vs H Q => ∃ l b xs zs, x = .ref l ∧ vs = [.ref b] ∧ H l = some (.lst xs) ∧ (H b = some (.lst zs) ∨ SqT X.K H b zs) ∧ xs.length + zs.length ≤ sizeLine ∧ Q .non (upd H l (.lst (xs ++ zs)))) := by
  intro pins s σ H x vs v us Q I rx rv hyp
  obtain ⟨l, b, xs, zs, e1, e2, hH, hB | hB, hz, q⟩ := hyp
  · exact mt_extend pins s σ H x vs v us Q I rx rv ⟨l, b, xs, zs, e1, e2, hH, hB, hz, q⟩
  · exact mt_extT pins s σ H x vs v us Q I rx rv ⟨l, b, xs, zs, e1, e2, hH, hB, hz, q⟩
theorem m_extend (hK : X.K = F.C.K) : MtR X "list.extend" (rMt F nb .extend) := MtR.weak mt_ext2 fun x xs H Q ⟨ρ, st, ι, σ', u, ps, R, ru, rs, h⟩ => by
  obtain ⟨v, st', e0, h⟩ := mtR_ok h
  have e : mExt st u ps = some (v, st') := e0
  clear e0
  unfold mExt at e
  split at e
  · rename_i y
    obtain ⟨⟨n, qs⟩, e1, e2⟩ := Option.bind_eq_some_iff.mp e
    obtain ⟨rfl, e3⟩ := getL_ok e1
    split at e2
    · rename_i zs hz
      split at e2
      · rename_i hc
        simp only [Bool.and_eq_true, decide_eq_true_eq] at hc
        cases e2
        obtain ⟨a, ys, rfl, ha, hH, hn, rr⟩ := R.refI ru e3
        cases rs with
        | cons r1 t =>
          cases t
          have rv := R.rst.view r1
          rw [hz] at rv
          obtain ⟨b, ws, rfl, hb, rw'⟩ := rv.lstI
          obtain ⟨s1, R1⟩ := R.write ha (rr.append rw') (nrfs_app hn (nrfs_of hc.1)) (fun q hq hq2 => clows_app (low_of R e3 q hq hq2) (clows_of hc.1))
          exact ⟨a, b, ys, ws, rfl, rfl, hH, .inl hb, by rw [rr.length, rw'.length, ← SZ_eq]; exact hc.2, h _ _ _ s1 R1 .non⟩
      · cases e2
    · rename_i zs hz
      split at e2
      · rename_i hc
        simp only [Bool.and_eq_true, decide_eq_true_eq] at hc
        cases e2
        obtain ⟨a, ys, rfl, ha, hH, hn, rr⟩ := R.refI ru e3
        cases rs with
        | cons r1 t =>
          cases t
          have rv := R.rst.view r1
          rw [hz] at rv
          obtain ⟨b, ws, rfl, hb, rw'⟩ := rv.tupI
          obtain ⟨s1, R1⟩ := R.write ha (rr.append rw') (nrfs_app hn (nrfs_of hc.1)) (fun q hq hq2 => clows_app (low_of R e3 q hq hq2) (clows_of hc.1))
          exact ⟨a, b, ys, ws, rfl, rfl, hH, .inr (by rw [hK]; exact hb), by rw [rr.length, rw'.length, ← SZ_eq]; exact hc.2, h _ _ _ s1 R1 .non⟩
      · cases e2
    · cases e2
  · cases e
theorem m_pop : MtR X "list.pop" (rMt F nb .pop) := MtR.weak mt_pop fun x xs H Q ⟨ρ, st, ι, σ', u, ps, R, ru, rs, h⟩ => by
  obtain ⟨v, st', e0, h⟩ := mtR_ok h
  have e : mPop st u ps = some (v, st') := e0
  clear e0
  unfold mPop at e
  split at e
  · obtain ⟨⟨n, qs⟩, e1, e2⟩ := Option.bind_eq_some_iff.mp e
    obtain ⟨rfl, e3⟩ := getL_ok e1
    obtain ⟨y, hy, e4⟩ := Option.map_eq_some_iff.mp e2
    cases e4
    obtain ⟨a, ys, rfl, ha, hH, hn, rr⟩ := R.refI ru e3
    cases rs
    obtain ⟨yv, h1, h2⟩ := rr.get hy
    obtain ⟨s1, R1⟩ := R.write ha rr.dropLast (nrfs_sub (List.dropLast_sublist _) hn) (fun q hq hq2 => clows_sub (List.dropLast_sublist _) (low_of R e3 q hq hq2))
    exact ⟨a, ys, yv, rfl, rfl, hH, by rw [rr.length]; exact h1, h _ _ _ s1 R1 (h2.mono s1)⟩
  · cases e
theorem m_popAt : MtR X "list.pop" (rMt F nb .popAt) := MtR.weak mt_popAt fun x xs H Q ⟨ρ, st, ι, σ', u, ps, R, ru, rs, h⟩ => by
  obtain ⟨v, st', e0, h⟩ := mtR_ok h
  have e : mPopAt st u ps = some (v, st') := e0
  clear e0
  unfold mPopAt at e
  split at e
  · rename_i i
    obtain ⟨⟨n, qs⟩, e1, e2⟩ := Option.bind_eq_some_iff.mp e
    obtain ⟨rfl, e3⟩ := getL_ok e1
    split at e2
    · rename_i hi
      have hi := inR_of hi
      obtain ⟨k, hk, e2⟩ := Option.bind_eq_some_iff.mp e2
      obtain ⟨y, hy, e4⟩ := Option.map_eq_some_iff.mp e2
      cases e4
      obtain ⟨a, ys, rfl, ha, hH, hn, rr⟩ := R.refI ru e3
      cases rs with
      | cons r1 t =>
        cases t
        obtain ⟨yv, h1, h2⟩ := rr.get hy
        obtain ⟨s1, R1⟩ := R.write ha (rr.eraseIdx k) (nrfs_sub (List.eraseIdx_sublist _ _) hn) (fun q hq hq2 => clows_sub (List.eraseIdx_sublist _ _) (low_of R e3 q hq hq2))
        exact ⟨a, ys, i, k, yv, rfl, by rw [r1.intI], hH, by omega, by omega, by rw [rr.length]; exact hk, h1, h _ _ _ s1 R1 (h2.mono s1)⟩
    · cases e2
  · cases e
theorem m_upper : MtR X "str.upper" (rMt F nb .upper) := MtR.weak mt_upper fun x xs H Q ⟨ρ, st, ι, σ', u, ps, R, ru, rs, h⟩ => by
  obtain ⟨v, st', e0, h⟩ := mtR_ok h
  have e : mUp st u ps = some (v, st') := e0
  clear e0
  unfold mUp at e
  split at e
  · split at e
    · split at e
      · rename_i hz
        cases e
        cases rs
        exact ⟨_, ru.strI, rfl, by omega, Aft.ok h R (.str _)⟩
      · cases e
    · cases e
  · cases e
end
section
variable {D : PD} {d : Nat} {S : SS} {X : Cx} {F : Fm} {c : Cfg}
def mtT : Mt → String
  | .upper => "str" | _ => "list"
theorem okO_ty {C : Ct} {ι : List Addr} {H : Hp} {st : Store} {m : Mt} {x : V} {p : PV} (r : RepV C ι H x (view st p)) (r' : Rep C ι H x p) (h : okO m st p = some ()) : tyV C.K (mtT m) x H := by
  have go : (match view st p with | .lst _ => some () | _ => (none : Option Unit)) = some () → tyV C.K "list" x H := fun z => by
    cases e : view st p with
    | lst ps =>
      rw [e] at r
      obtain ⟨a, xs, rfl, hx, _⟩ := r.lstI
      exact .inl ⟨rfl, xs, SqL.of hx⟩
    | _ => rw [e] at z; cases z
  cases m <;> first | exact go h | skip
  unfold okO at h
  cases p <;> first | (cases h; done) | skip
  rw [r'.strI]
  rfl
theorem e_mt1 (g : Good D d S X F c) {o e : Expr} {r : List Expr} {o' : E} {es : Es} {m : Mt} {name : Str} {T id : String} {apos cpos : Pos} (pa : PlainAttrs T) (slot : Slot T name id) (hty : typeOf (.builtin id) = pure (.type "method_descriptor")) (hm : MtR X id (rMt F c.nb m))
    (hT : T = (mtT m)) (hn : nocall o = true) (hl : apos.endLine = cpos.line) (hlen : (e :: r).length < 29) (ho : PE X o (tE F (ev c o').v)) (ha : PA X (e :: r) (tA F (evs c es)))
    (hs : starEach (e :: r) X.env = (false, eval e X.env) :: starEach r X.env) (hpl : (backTo cpos (starEach r X.env)).any (·.1) = false) (hall : (backTo cpos (starEach (e :: r) X.env)).all (fun x => !x.1) = true) :
    PE X (.Call (.Attribute o name apos) (e :: r) [] cpos) (tE F (ev c (.mt m o' es)).v) := by
  refine PE.weak (pe_bm pa slot hty hm ho ha (at_base hn) ?_ (by rw [hl]; exact beq_self_eq_true _) hs hpl) fun σ H Q ⟨ρ, st, ι, R, h⟩ => ?_
  · rw [hall]
    show (true && true && decide ((e :: r).length + 0 + 0 < 30)) = true
    simp only [Bool.true_and, decide_eq_true_eq]
    omega
  · refine seqA R h fun st1 x xv ι1 H1 s1 R1 r1 h1 => ?_
    obtain ⟨_, e1, h1⟩ := giv_bnd h1
    refine ⟨?_, ?_⟩
    · rw [g.K, ← g.Fk, hT]
      exact okO_ty (R1.rst.view r1) r1 e1
    · refine seqA R1 h1 fun st2 y yv ι2 H2 s2 R2 r2 h2 => ?_
      exact ⟨ρ, st2, ι2, σ, _, _, R2, r1.mono s2, r2, h2⟩
theorem e_mt0 (g : Good D d S X F c) {o : Expr} {o' : E} {m : Mt} {name : Str} {T id : String} {apos cpos : Pos} (pa : PlainAttrs T) (slot : Slot T name id) (hty : typeOf (.builtin id) = pure (.type "method_descriptor")) (hm : MtR X id (rMt F c.nb m))
    (hT : T = (mtT m)) (hn : nocall o = true) (hl : apos.endLine = cpos.line) (ho : PE X o (tE F (ev c o').v)) :
    PE X (.Call (.Attribute o name apos) [] [] cpos) (tE F (ev c (.mt m o' .nil)).v) := by
  refine PE.weak (pe_bm0 pa slot hty hm ho (at_base hn) (by rw [hl]; exact beq_self_eq_true _)) fun σ H Q ⟨ρ, st, ι, R, h⟩ => ?_
  refine seqA R h fun st1 x xv ι1 H1 s1 R1 r1 h1 => ?_
  obtain ⟨_, e1, h1⟩ := giv_bnd h1
  refine ⟨?_, ?_⟩
  · rw [g.K, ← g.Fk, hT]
    exact okO_ty (R1.rst.view r1) r1 e1
  · exact ⟨ρ, st1, ι1, σ, _, _, R1, r1, .nil, h1⟩
/-! ### calls of own functions -/
theorem evs_app {c : Cfg} {ρ : Env} {γ : Type} : ∀ {es ks : Es} {st : Store} {f : List PV → Store → R γ}, bnd (evs c (es.app ks) ρ st) f = bnd (evs c es ρ st) fun xs st => bnd (evs c ks ρ st) fun ys st => f (xs ++ ys) st
  | .nil, ks, st, f => rfl
  | .cons e es, ks, st, f => by
    show bnd (bnd ((ev c e).v ρ st) fun x st => bnd (evs c (es.app ks) ρ st) fun xs st => .ok (x :: xs) st) f = bnd (bnd ((ev c e).v ρ st) fun x st => bnd (evs c es ρ st) fun xs st => .ok (x :: xs) st) _
    rw [bnd_assoc, bnd_assoc]
    congr 1
    funext x st1
    rw [bnd_assoc, bnd_assoc, evs_app]
    rfl
theorem a_kws {f : Expr → Option E} (hf : ∀ e e', f e = some e' → PE X e (tE F (ev c e').v)) : ∀ {kws : List Keyword} {es : Es}, trKw f kws = some es → PK X kws (tA F (evs c es)) ∧
    ∀ pos, (backToKw pos (keywordEach kws X.env)).all (·.1.isSome) = true ∧ (backToKw pos (keywordEach kws X.env)).any (·.1.isNone) = false ∧ (backToKw pos (keywordEach kws X.env)).filterMap (·.1) = kwNames kws
  | [], es, h => by
    cases h
    exact ⟨⟨fun pos pins s σ H Q I ⟨ρ, st, ι, R, h⟩ => pk_nil.run pos pins s σ H Q I (h.ok R .nil)⟩, fun _ => ⟨rfl, rfl, rfl⟩⟩
  | ⟨some x, e, kp⟩ :: r, es, h => by
    unfold trKw at h
    obtain ⟨e', h1, h⟩ := Option.bind_eq_some_iff.mp h
    obtain ⟨es', h2, h⟩ := Option.map_eq_some_iff.mp h
    subst h
    obtain ⟨i1, i2⟩ := a_kws hf h2
    refine ⟨⟨fun pos pins s σ H Q I ⟨ρ, st, ι, R, h⟩ => (pk_cons (nm := some x) (kpos := kp) (hf e e' h1) i1).run pos pins s σ H Q I ?_⟩, fun pos => ?_⟩
    · refine seqA R h fun st1 x xv ι1 H1 s1 R1 r1 h1 => ?_
      refine seqA R1 h1 fun st2 y yv ι2 H2 s2 R2 r2 h2 => ?_
      exact h2.ok R2 (.cons (r1.mono s2) r2)
    · obtain ⟨j1, j2, j3⟩ := i2 pos
      refine ⟨?_, ?_, ?_⟩
      · show (true && (backToKw pos (keywordEach r X.env)).all (·.1.isSome)) = true
        rw [j1]; rfl
      · show (false || (backToKw pos (keywordEach r X.env)).any (·.1.isNone)) = false
        rw [j2]; rfl
      · show x :: (backToKw pos (keywordEach r X.env)).filterMap (·.1) = x :: kwNames r
        rw [j3]
  | ⟨none, e, kp⟩ :: r, es, h => by cases h
theorem trKw_len {f : Expr → Option E} : ∀ {kws : List Keyword} {es : Es}, trKw f kws = some es → es.len = (kwNames kws).length
  | [], es, h => by cases h; rfl
  | ⟨some x, e, kp⟩ :: r, es, h => by
    unfold trKw at h
    obtain ⟨e', h1, h⟩ := Option.bind_eq_some_iff.mp h
    obtain ⟨es', h2, h⟩ := Option.map_eq_some_iff.mp h
    subst h
    show es'.len + 1 = (kwNames r).length + 1
    rw [trKw_len h2]
  | ⟨none, e, kp⟩ :: r, es, h => by cases h
theorem fnIx_ok {x : Str} : ∀ {fs : List FnI} {i j : Nat}, fnIx x fs i = some j → i ≤ j ∧ ∃ fi, fs[j - i]? = some fi ∧ fi.name = x
  | [], _, _, h => by cases h
  | y :: r, i, j, h => by
    unfold fnIx at h
    split at h
    · rename_i e
      cases h
      exact ⟨Nat.le_refl _, y, by simp, e⟩
    · obtain ⟨h1, fi, h2, h3⟩ := fnIx_ok h
      refine ⟨by omega, fi, ?_, h3⟩
      have : j - i = (j - (i + 1)) + 1 := by omega
      rw [this, List.getElem?_cons_succ]
      exact h2
theorem e_call (g : Good D d S X F c) (gc : CallS D X F c) (ok : D.Ok) {x : Str} {i : Nat} {fi : FnI} {as : List Expr} {kws : List Keyword} {es ks : Es} {p pos : Pos} (hx : okName x = true) (hgl : glB S.sc x = true) (hi : D.G.fns[i]? = some fi) (hn : fi.name = x) (hsh : (i, as.length, kwNames kws) ∈ D.G.sh)
    (ha : PA X as (tA F (evs c es))) (hal : es.len = as.length) (hpl : ∀ pos, (backTo pos (starEach as X.env)).any (·.1) = false) (hst : as = [] ∨ ∃ e r, as = e :: r ∧ starEach (e :: r) X.env = (false, eval e X.env) :: starEach r X.env ∧ (backTo pos (starEach r X.env)).any (·.1) = false)
    (hk : PK X kws (tA F (evs c ks))) (hkl : ks.len = (kwNames kws).length) (hkn : ∀ pos, (backToKw pos (keywordEach kws X.env)).all (·.1.isSome) = true ∧ (backToKw pos (keywordEach kws X.env)).any (·.1.isNone) = false ∧ (backToKw pos (keywordEach kws X.env)).filterMap (·.1) = kwNames kws) :
    PE X (.Call (.Name x p) as kws pos) (tE F (ev c (.call i (es.app ks) (permOf fi.ps as.length (kwNames kws)))).v) := by
  obtain ⟨n1, n2, n3⟩ := okName_of hx
  obtain ⟨f1, f2⟩ := ok.fn i fi hi
  subst hn
  have kp : PySem.W.keepIn X.K (.ref (D.fa i)) = true := by rw [g.K]; exact f2
  refine ⟨fun pins s σ H Q I h => ?_⟩
  refine wpAny_Call_Name_kw (ld_glob I (g.gl hgl) (by rw [g.mg]; exact f1) ?_ n1)
  obtain ⟨ρ, st, ι, R, h⟩ := h
  have h : Aft F (rpV F) ρ ι σ H (bnd (evs c (es.app ks) ρ st) fun xs st => c.cf i (permA (permOf fi.ps as.length (kwNames kws)) xs) (c.Φ ρ) st) Q := h
  rw [evs_app] at h
  obtain ⟨j1, j2, j3⟩ := hkn pos
  -- the values are there
  have fin : ∀ (us ws : List Value) (s2 : Shared) (vs zs : List V) (H2 : Hp) (ι2 : List Addr) (st2 : Store) (ps qs : List PV), L2.Inv X pins σ H2 s2 → F.Rl ρ st2 ι2 σ H2 → Vals vs us → Vals zs ws → ps.length = as.length → qs.length = (kwNames kws).length → Reps F.C ι2 H2 vs ps → Reps F.C ι2 H2 zs qs →
      Aft F (rpV F) ρ ι2 σ H2 (c.cf i (permA (permOf fi.ps as.length (kwNames kws)) (ps ++ qs)) (c.Φ ρ) st2) Q → wpAny (model X.prog X.w) X.A (call (.ref (D.fa i)) us ((kwNames kws).zip ws)) (EP X pins σ Q) X.xe s2 :=
    fun us ws s2 vs zs H2 ι2 st2 ps qs I2 R2 r1 r2 l1 l2 rp rq h2 => gc i fi as.length (kwNames kws) hi hsh pins s2 σ H2 us ws vs zs Q ρ st2 ι2 ps qs I2 R2 r1 r2 (by rw [← r1.length, rp.length, l1]) (by rw [← r2.length, rq.length, l2]) rp rq h2
  rcases hst with rfl | ⟨e, r, rfl, hs, hpl2⟩
  · have e0 : es = .nil := by
      cases es with
      | nil => rfl
      | cons _ _ => cases hal
    subst e0
    refine PySem.W.callWith_KW0 (h₀ := X.base) I.ok.mod.kin kp j1 ?_ (by show (false || _) = false; rw [j2]; rfl)
    refine thn (hk.run pos pins s σ H (fun zs H2 => ∃ ι2 st2 qs, F.Rl ρ st2 ι2 σ H2 ∧ qs.length = (kwNames kws).length ∧ Reps F.C ι2 H2 zs qs ∧ Aft F (rpV F) ρ ι2 σ H2 (c.cf i (permA (permOf fi.ps 0 (kwNames kws)) ([] ++ qs)) (c.Φ ρ) st2) Q) I ?_) fun ws s2 ⟨zs, H2, I2, rz, ι2, st2, qs, R2, lq, rq, h2⟩ => ⟨I2.kIn, ?_⟩
    · refine seqE R h fun st1 y yv ι1 H1 e1 s1 R1 r1 h1 => ?_
      exact ⟨ι1, st1, y, R1, by rw [evs_len e1, hkl], r1, h1⟩
    · rw [j3]
      exact fin [] ws s2 [] zs H2 ι2 st2 [] qs I2 R2 .nil rz rfl lq .nil rq h2
  · refine PySem.W.callWith_KW (h₀ := X.base) I.ok.mod.kin kp j1 ?_ (by rw [hpl, j2]; rfl) hs
    refine thn (ha.run pos pins s σ H (fun vs H1 => ∃ ι1 st1 ps, F.Rl ρ st1 ι1 σ H1 ∧ ps.length = (e :: r).length ∧ Reps F.C ι1 H1 vs ps ∧
      Aft F (rpV F) ρ ι1 σ H1 (bnd (evs c ks ρ st1) fun ys st => c.cf i (permA (permOf fi.ps (e :: r).length (kwNames kws)) (ps ++ ys)) (c.Φ ρ) st) Q) I ?_) fun us s1 ⟨vs, H1, I1, r1, ι1, st1, ps, R1, lp, rp, h1⟩ => ?_
    · refine seqE R h fun st1 y yv ι1 H1 e1 s1 R1 r1 h1 => ?_
      exact ⟨ι1, st1, y, R1, by rw [evs_len e1, hal], r1, h1⟩
    · refine thn (hk.run pos pins s1 σ H1 (fun zs H2 => ∃ ι2 st2 qs, Step ι1 H1 ι2 H2 ∧ F.Rl ρ st2 ι2 σ H2 ∧ qs.length = (kwNames kws).length ∧ Reps F.C ι2 H2 zs qs ∧ Aft F (rpV F) ρ ι2 σ H2 (c.cf i (permA (permOf fi.ps (e :: r).length (kwNames kws)) (ps ++ qs)) (c.Φ ρ) st2) Q) I1 ?_)
        fun ws s2 ⟨zs, H2, I2, rz, ι2, st2, qs, s12, R2, lq, rq, h2⟩ => ⟨I2.kIn, ?_⟩
      · refine seqE R1 h1 fun st2 y yv ι2 H2 e2 s2 R2 r2 h2 => ?_
        exact ⟨ι2, st2, y, s2, R2, by rw [evs_len e2, hkl], r2, h2⟩
      · rw [j3]
        exact fin us ws s2 vs zs H2 ι2 st2 ps qs I2 R2 r1 rz lp lq (rp.mono s12) rq h2
/-! ### calls of lambdas -/
theorem e_callv (g : Good D d S X F c) (gl : CloS D X F c) {x : Str} {i : Nat} {as : List Expr} {es : Es} {p pos : Pos} (hx : okName x = true) (hv : visB S.sc x = true) (hs : slot S.N x = some i) (ha : PA X as (tA F (evs c es))) (hal : es.len = as.length)
    (hst : as = [] ∨ ∃ e r, as = e :: r ∧ starEach (e :: r) X.env = (false, eval e X.env) :: starEach r X.env ∧ (backTo pos (starEach r X.env)).any (·.1) = false) : PE X (.Call (.Name x p) as [] pos) (tE F (ev c (.callv i es)).v) := by
  refine ⟨fun pins s σ H Q I ⟨ρ, st, ι, R, h⟩ => ?_⟩
  have h : Aft F (rpV F) ρ ι σ H (match gv ρ i with
    | some (.clo l lv) => bnd (evs c es ρ st) fun xs st => match (c.Φ ρ)[lv]? with
      | some ρc => c.cl l xs ρc (c.Φ ρ) st
      | none => .bad
    | _ => .bad) Q := h
  split at h
  · rename_i l lv e0
    obtain ⟨n1, n2, _⟩ := okName_of hx
    obtain ⟨xv, e1, r⟩ := R.env.gv e0
    have rclo := r
    cases r with
    | @clo f c' _ _ sc cells hγ hlb hf nf hc nc =>
      refine wpAny_Call_Name_kw (thn ((pe_var (pos := p) (i := i) (by rw [g.N]; exact slot_ok hs) (g.vis hv) n1 n2).run pins s σ H (fun v H1 => v = .ref f ∧ H1 = H) I ⟨.ref f, e1, rfl, rfl⟩) fun u s1 ⟨v, H1, I1, r1, ev, eH⟩ => ?_)
      subst ev
      rw [eH] at I1
      obtain rfl : u = Value.ref f := r1
      have fnat : ∀ {s : Shared} {H : Hp}, L2.Inv X pins σ H s → H f = some (CloO f l cells c') → PySem.W.FnAt f s.heap := fun {s H} I hf => by
        obtain ⟨⟨pm, ctv, e⟩, _, _⟩ := I.hok f _ hf
        exact ⟨_, _, _, _, e⟩
      rcases hst with rfl | ⟨e, r, rfl, hs, hpl2⟩
      · have z : es = .nil := by
          cases es with
          | nil => rfl
          | cons _ _ => cases hal
        subst z
        refine PySem.W.callWith_F0 (fnat I1 hf) ?_
        have h : Aft F (rpV F) ρ ι σ H (match (c.Φ ρ)[lv]? with
          | some ρc => c.cl l [] ρc (c.Φ ρ) st
          | none => .bad) Q := h
        split at h
        · rename_i ρc hρ
          exact gl l lv ρc f pins s1 σ H [] [] Q ρ st ι [] I1 R rclo .nil .nil hρ h
        · exact h.elim
      · refine PySem.W.callWith_F (fnat I1 hf) ?_ hs hpl2
        refine thn (ha.run pos pins s1 σ H (fun vs H2 => ∃ ι2 st2 ps, F.Rl ρ st2 ι2 σ H2 ∧ Step ι H ι2 H2 ∧ Reps F.C ι2 H2 vs ps ∧ Aft F (rpV F) ρ ι2 σ H2 (match (c.Φ ρ)[lv]? with
          | some ρc => c.cl l ps ρc (c.Φ ρ) st2
          | none => .bad) Q) I1 ?_) fun us s2 ⟨vs, H2, I2, r2, ι2, st2, ps, R2, s12, rp, h2⟩ => ?_
        · refine seqA R h fun st1 y yv ι1 H1 s1 R1 r1 h1 => ?_
          exact ⟨ι1, st1, y, R1, s1, r1, h1⟩
        · have rc2 := rclo.mono s12
          refine ⟨fnat I2 ?_, ?_⟩
          · exact s12.keep _ _ hf nf.1 fun ps z => by unfold CloO at z; cases z
          · split at h2
            · rename_i ρc hρ
              exact gl l lv ρc f pins s2 σ H2 us vs Q ρ st2 ι2 ps I2 R2 rc2 r2 rp hρ h2
            · exact h2.elim
  · exact h.elim
end
end PM
set_option Elab.async false
set_option linter.all false
set_option maxRecDepth 100000
set_option maxHeartbeats 4000000
/-! PM13: enumerate of a tuple; a list or a tuple walked. -/
namespace PySem
open AutoSeq1 (wpAny_loadPart')
theorem pm_enumT (l : Addr) (items : Array Value) (n : Nat) (dct : Option Addr) (sl : Array (Option Value)) :
    Meets (Builtin.«enumerate.__new__» ⟨[.type "enumerate", .ref l], []⟩) (fun _ R s => s.heap.get? l = some { cls := .type "tuple", dict := dct, data := .seq items n, slots := sl } ∧
      R (.ok (.ret (.ref (s.heap.push { cls := .type "tuple_iterator", data := .fields #[.ref l, .int 0 0] }).objs.size)))
        { s with heap := (s.heap.push { cls := .type "tuple_iterator", data := .fields #[.ref l, .int 0 0] }).push { cls := .type "enumerate", data := .fields #[.none, .bool false, .ref s.heap.objs.size, rawInt 0, .none, .none] } }) :=
  .of_wp fun prog w A R s h => by
    obtain ⟨hp, g, d, tk, os⟩ := s; obtain ⟨hl, h⟩ := h
    have hsub := sub_enumerate
    have hL : Heap.IsTuple (Shared.heap ⟨hp, g, d, tk, os⟩) l items := ⟨_, hl, rfl, n, rfl⟩
    wp_walk using wpAny_loadPart' hl
    refine wpAny_stack_any fun st => wpAny_pure ?_
    split
    · rename_i c _ _ _ _ _
      cases (c == Value.type "enumerate")
      · wp_walk using wpAny_loadPart' hl, wpAny_pyIter_tuple hL
        exact ⟨_, rfl, h⟩
      · wp_walk using wpAny_loadPart' hl, wpAny_pyIter_tuple hL
        exact ⟨_, rfl, h⟩
    · wp_walk using wpAny_loadPart' hl, wpAny_pyIter_tuple hL
      exact ⟨_, rfl, h⟩
section
variable {prog : Program} {w : World} {A : Around} {E : Value → Shared → Prop} {s : Shared}
theorem pm_call_enumT {l : Addr} {items : Array Value} {Q : Value → Shared → Prop} (hL : s.heap.IsTuple l items)
    (h : ∀ h', IsEnum h' (s.heap.objs.size + 1) s.heap.objs.size 0 .none → h'.IsTupleIter s.heap.objs.size l 0 → (∀ b o, s.heap.get? b = some o → h'.get? b = some o) → Q (.ref (s.heap.objs.size + 1)) { s with heap := h' }) :
    wpAny (model prog w) A (call (.type "enumerate") [.ref l]) Q E s := by
  obtain ⟨⟨c, dct, dt, sl⟩, hl, hc, n, hd⟩ := hL
  replace hc : c = .type "tuple" := hc
  replace hd : dt = .seq items n := hd
  subst hc hd
  refine callType_new F.called_enumerate (by decide) (F.typeCall_enumerate_1 _) (F.newCall_enumerate_1 _) (fun obj => F.args_object_init_2 obj _) F.entry_enumerate_new (pm_enumT l items n dct sl) ⟨hl, ?_⟩
  have hz : (s.heap.push { cls := .type "tuple_iterator", data := .fields #[.ref l, .int 0 0] }).objs.size = s.heap.objs.size + 1 := Heap.size_push ..
  show _ ∧ _
  rw [hz]
  have he : IsEnum ((s.heap.push { cls := .type "tuple_iterator", data := .fields #[.ref l, .int 0 0] }).push
      { cls := .type "enumerate", data := .fields #[.none, .bool false, .ref s.heap.objs.size, rawInt 0, .none, .none] }) (s.heap.objs.size + 1) s.heap.objs.size 0 .none := by
    have := Heap.get?_push_size (s.heap.push { cls := .type "tuple_iterator", data := .fields #[.ref l, .int 0 0] })
      (o := { cls := .type "enumerate", data := .fields #[.none, .bool false, .ref s.heap.objs.size, rawInt 0, .none, .none] }) rfl
    rw [hz] at this; exact this
  exact ⟨⟨_, he, rfl⟩, h _ he ⟨_, Heap.get?_push_of_some _ (Heap.get?_push_size _ rfl), rfl, rfl⟩ fun b o x => Heap.get?_push_of_some _ (Heap.get?_push_of_some _ x)⟩
end
end PySem
namespace PM
open PySem PySem.Spec PyProof.Rows L2 LamX
/-- enumerate of the tuple at a -/
def IteT (K : PySem.W.Frag) (a : Addr) : L2.It :=
  ⟨fun i H => ∃ (xs : List V) (x : V), SqT K H a xs ∧ xs[i]? = some x, fun i H v H' => ∃ T x, v = .ref T ∧ H T = none ∧ H' = upd H T (.tup [.int (i : Nat), x]) ∧ ∀ xs, SqT K H a xs → xs[i]? = some x, fun i H => ∃ xs : List V, SqT K H a xs ∧ xs.length = i⟩
theorem turn_enumT {P : Program} {w : World} {K : PySem.W.Frag} {elts : List Expr} {kk : Nat} {tpos : Pos} (a e it : Addr) :
    Turn P w K (.Tuple elts kk tpos) (IteT K a) [e, it] e (fun i h => (∃ old, IsEnum h e it ((i : Nat) : Int) old) ∧ h.IsTupleIter it a i ∧ e ≠ it ∧ a ≠ it ∧ e ≠ a) where
  mem := by simp
  obj := fun i h st b hb => by
    obtain ⟨⟨old, he⟩, ⟨o, ho, hc, hd⟩, _⟩ := st
    have e' : b = e ∨ b = it := by simpa using hb
    rcases e' with z | z
    · rw [z]; exact ⟨_, he, fun v q => nomatch q⟩
    · rw [z]; exact ⟨o, ho, fun v q => by rw [hd] at q; cases q⟩
  keep := fun i h h' st k => let ⟨⟨old, he⟩, hi, hne⟩ := st; ⟨⟨old, k e (by simp) _ he⟩, hi.at fun o q => k it (by simp) o q, hne⟩
  item := by
    intro X hP hw hK hc i pins s σ H E I hf st hg
    subst hP hw hK
    obtain ⟨⟨old, he⟩, hit, hne, hat, hea⟩ := st
    obtain ⟨xs, x, hq, hx⟩ := hg
    obtain ⟨its, rv, p, hz⟩ := I.tuple hq
    have hel : e < s.heap.objs.size := Heap.lt_size he
    have hil : it < s.heap.objs.size := by obtain ⟨_, q, _⟩ := hit; exact Heap.lt_size q
    have hlt : i < its.toArray.size := by
      rw [List.size_toArray, ← rv.length]
      exact (List.getElem?_eq_some_iff.mp hx).1
    refine wpAny_pyNext_enum_itemD (Draws.tuple (A := X.A.in1) (prog := X.prog) (w := X.w) (I.ok.hd hc) it a hat its.toArray) he ⟨hit, p⟩ hlt hne (by simp [hne, hea]) fun u h' tk hu ho hst hT hsz hk => ?_
    obtain ⟨u', hu', ru⟩ := rv.get hx
    have eu : u = u' := by
      have h1 : its[i]? = some u := by simpa using hu
      rw [hu'] at h1
      exact (Option.some.inj h1).symm
    subst eu
    refine ⟨_, rfl, wpAny_letOwnedTupleGo_enum (s := { s with heap := h', toks := tk + 1 }) ho fun h'' he' sb => ?_⟩
    have hT2 : h''.get? s.heap.objs.size = some { cls := .type "tuple", data := .seq #[.int i tk, u] } := (sb.2 _ (Nat.ne_of_gt hel)).trans hT
    have new : ObjOk X.prog X.w (upd H s.heap.objs.size (.tup [.int (i : Nat), x])) h'' s.heap.objs.size (.tup [.int (i : Nat), x]) :=
      ⟨by show 2 ≤ sizeLine; decide, [.int i tk, u], .cons ⟨_, rfl⟩ (.cons ru .nil), ⟨_, hT2, rfl, _, rfl⟩⟩
    have I1 : L2.Inv X pins σ (upd H s.heap.objs.size (.tup [.int (i : Nat), x])) { s with heap := h'', toks := tk + 1 } :=
      I.turnedNew (ch := [e, it]) (fun b ob hb q => (sb.2 b (fun z => hb (by simp [z]))).trans (hk b ob (fun z => hb (by simp [z])) (fun z => hb (by simp [z])) q)) hf (Nat.le_refl _) new
    refine ⟨.ref s.heap.objs.size, _, I1, rfl, ⟨_, x, rfl, I.hok.fresh (Nat.le_refl _), rfl, fun ys hy => by rw [I.tuple_inj hy hq]; exact hx⟩, ⟨⟨u, ?_⟩, hst.1.at fun o q => (sb.2 it (Ne.symm hne)).trans q, hne, hat, hea⟩, fun b hb => ?_⟩
    · have e1 : ((i + 1 : Nat) : Int) = (i : Int) + 1 := by omega
      rw [e1]; exact he'
    · have hb' : b < s.heap.objs.size := by
        have e' : b = e ∨ b = it := by simpa using hb
        rcases e' with z | z
        · rw [z]; exact hel
        · rw [z]; exact hil
      rw [upd_ne (Nat.ne_of_lt hb')]
      exact (hf b hb).1
  done := by
    intro X hP hw hK hc i pins s σ H E I hf st hg
    subst hP hw hK
    obtain ⟨⟨old, he⟩, hit, hne, hat, hea⟩ := st
    obtain ⟨xs, hq, hx⟩ := hg
    obtain ⟨its, rv, p, hz⟩ := I.tuple hq
    obtain ⟨f0, f1, f2, f3, f4, f5⟩ := hf it (by simp)
    have hl := rv.length
    have hn : its.toArray.size = i := by rw [List.size_toArray, ← hl, hx]
    have D := Draws.tuple (A := X.A.in1) (prog := X.prog) (w := X.w) (I.ok.hd hc) it a hat its.toArray
    refine wpAny_pyNext_enum_endD D he (by rw [hn]; exact ⟨hit, p⟩) fun h' eb => ⟨rfl, I.turned (t' := s.toks) (fun b o hb q => eb b o hb q) f0 f1 f3 f4 f5⟩
  self := fun A i s Q E st h => let ⟨⟨_, he⟩, _⟩ := st; wpAny_pyIter_enum he h
section
variable {X : Cx} {tg : Expr}
def iEnumT (K : PySem.W.Frag) (te : TE) : TI := fun σ H R => te σ H fun x H1 => (∃ a xs, x = .ref a ∧ SqL K H1 a xs ∧ R (Ite K a) H1) ∨ ∃ a xs, x = .ref a ∧ SqT K H1 a xs ∧ R (IteT K a) H1
theorem pi_enumA {e : Expr} {te : TE} {p pos tpos : Pos} {elts : List Expr} {kk : Nat} (hg : Gl X "enumerate") (hm : X.mg "enumerate" = none) (he : PE X e te) (hn : nostar e = true) :
    PI X (.Tuple elts kk tpos) (.Call (.Name "enumerate" p) [e] [] pos) (iEnumT X.K te) := by
  refine ⟨fun pins s σ H R I h => ?_⟩
  refine Call_ (ld_blt I hg hm boot_enumerate (PyProof.Rows.callWith_type1 (thn ((pa_cons he pa_nil (star_cons hn)).run pos pins s σ H (fun vs H1 => match vs with
    | [x] => (∃ a xs, x = V.ref a ∧ SqL X.K H1 a xs ∧ R (Ite X.K a) H1) ∨ ∃ a xs, x = V.ref a ∧ SqT X.K H1 a xs ∧ R (IteT X.K a) H1
    | _ => False) I h) fun us s1 ⟨vs, H1, I1, r1, q1⟩ => ?_) (star_cons hn) rfl))
  match vs, q1 with
  | [x], q1 =>
    have fp2 : ∀ b, b = s1.heap.objs.size + 1 ∨ b = s1.heap.objs.size → FpOk X pins H1 b := fun b e' => by
      have hle : s1.heap.objs.size ≤ b := by
        rcases e' with z | z
        · rw [z]; exact Nat.le_add_right _ _
        · rw [z]; exact Nat.le_refl _
      exact I1.fpOk hle (I1.hok.fresh hle)
    rcases q1 with ⟨a, xs, rfl, hq, q⟩ | ⟨a, xs, rfl, hq, q⟩
    · rw [Vals.ref1 r1]
      obtain ⟨its, rv, p', hz⟩ := I1.list hq
      refine call_enumerate_list p'.isList fun h' he hit hsz hk => wpAny_pyIter_enum he ?_
      have I2 : L2.Inv X pins σ H1 { s1 with heap := h' } := I1.kept (t' := s1.toks) hk
      exact ⟨s1.heap.objs.size + 1, [s1.heap.objs.size + 1, s1.heap.objs.size], _, _, H1, rfl, I2, turn_enum a (s1.heap.objs.size + 1) s1.heap.objs.size, ⟨⟨.none, he⟩, hit, Nat.succ_ne_self _⟩, fun b hb => fp2 b (by simpa using hb), q⟩
    · rw [Vals.ref1 r1]
      obtain ⟨its, rv, p', hz⟩ := I1.tuple hq
      have hlt : a < s1.heap.objs.size := p'.lt
      refine pm_call_enumT (show s1.heap.IsTuple a its.toArray from p') fun h' he hit hk => wpAny_pyIter_enum he ?_
      have I2 : L2.Inv X pins σ H1 { s1 with heap := h' } := I1.kept (t' := s1.toks) hk
      exact ⟨s1.heap.objs.size + 1, [s1.heap.objs.size + 1, s1.heap.objs.size], _, _, H1, rfl, I2, turn_enumT a (s1.heap.objs.size + 1) s1.heap.objs.size, ⟨⟨.none, he⟩, hit, Nat.succ_ne_self _, Nat.ne_of_lt hlt, Nat.ne_of_gt (Nat.lt_succ_of_lt hlt)⟩, fun b hb => fp2 b (by simpa using hb), q⟩
def iSeqA (K : PySem.W.Frag) (te : TE) : TI := fun σ H R => te σ H fun x H1 => (∃ a xs, x = .ref a ∧ SqL K H1 a xs ∧ R (Itl K a) H1) ∨ ∃ a xs, x = .ref a ∧ SqT K H1 a xs ∧ R (Itt K a) H1
theorem pi_seqA {l : Expr} {tl : TE} (hl : PE X l tl) : PI X tg l (iSeqA X.K tl) := by
  refine ⟨fun pins s σ H R I h => ?_⟩
  refine thn (hl.run pins s σ H _ I h) fun v s1 ⟨x, H1, I1, r1, q1⟩ => ?_
  have fp1 : ∀ b ∈ [s1.heap.objs.size], FpOk X pins H1 b := fun b hb => by
    have e : b = s1.heap.objs.size := by simpa using hb
    subst e
    exact I1.fpOk (Nat.le_refl _) (I1.hok.fresh (Nat.le_refl _))
  rcases q1 with ⟨a, xs, rfl, hq, q⟩ | ⟨a, xs, rfl, hq, q⟩
  · cases r1
    obtain ⟨its, rv, p, hz⟩ := I1.list hq
    refine wpAny_pyIter_list p.isList ?_
    exact ⟨s1.heap.objs.size, [s1.heap.objs.size], _, _, H1, rfl, I1.kept (t' := s1.toks) fun b o e => Heap.get?_push_of_some _ e, turn_list a _, ⟨_, Heap.get?_push_size _ rfl, rfl, rfl⟩, fp1, q⟩
  · cases r1
    obtain ⟨its, rv, p, hz⟩ := I1.tuple hq
    refine wpAny_pyIter_tuple (show s1.heap.IsTuple a its.toArray from p) ?_
    exact ⟨s1.heap.objs.size, [s1.heap.objs.size], _, _, H1, rfl, I1.kept (t' := s1.toks) fun b o e => Heap.get?_push_of_some _ e, turn_tuple a _, ⟨_, Heap.get?_push_size _ rfl, rfl, rfl⟩, fp1, q⟩
end
end PM
set_option Elab.async false
set_option linter.all false
set_option maxRecDepth 100000
set_option maxHeartbeats 4000000
/-! PM14: what loops and comprehensions walk; targets. -/
namespace PM
open PySem PySem.Spec PyProof.Rows L2 LamX RZ
/-- an iterator and what it walks -/
inductive JV (C : Ct) (ι : List Addr) (H : Hp) : L2.It → ItV → Prop
  | lst {a : Addr} {xs : List V} {ps : List PV} : H a = some (.lst xs) → Out C ι a → Reps C ι H xs ps → JV C ι H (Itl C.K a) (.fix ps)
  | tup {a : Addr} {xs : List V} {ps : List PV} : (Im C ι H a (.tup xs) ∨ KT C.K a xs) → Reps C ι H xs ps → JV C ι H (Itt C.K a) (.fix ps)
  | rng (lo : Int) (n : Nat) : n ≤ sizeLine → JV C ι H (Itr lo n) (.fix (rangeL lo n))
  | rngc (lo c : Int) (n : Nat) : n ≤ sizeLine → JV C ι H (Itc lo c n) (.fix ((List.range n).map fun (k : Nat) => .int (lo + (k : Int) * c)))
  | enl {a : Addr} {xs : List V} {ps : List PV} : H a = some (.lst xs) → Out C ι a → Reps C ι H xs ps → JV C ι H (Ite C.K a) (.fix (enumL ps))
  | ent {a : Addr} {xs : List V} {ps : List PV} : (Im C ι H a (.tup xs) ∨ KT C.K a xs) → Reps C ι H xs ps → JV C ι H (IteT C.K a) (.fix (enumL ps))
  | zpl {a b : Addr} {xs ys : List V} {ps qs : List PV} : H a = some (.lst xs) → Out C ι a → Reps C ι H xs ps → H b = some (.lst ys) → Out C ι b → Reps C ι H ys qs → JV C ι H (Itz C.K a b) (.fix (zipL ps qs))
  | zpt {a b : Addr} {xs ys : List V} {ps qs : List PV} : (Im C ι H a (.tup xs) ∨ KT C.K a xs) → Reps C ι H xs ps → (Im C ι H b (.tup ys) ∨ KT C.K b ys) → Reps C ι H ys qs → JV C ι H (ItzT C.K a b) (.fix (zipL ps qs))
  | dyn {a : Addr} {n : Nat} : ι[n]? = some a → JV C ι H (Itl C.K a) (.dyn n)
section
variable {C : Ct} {ι ι' : List Addr} {H H' : Hp} {J : L2.It} {I : ItV}
theorem JV.mono (j : JV C ι H J I) (s : Step ι H ι' H') : JV C ι' H' J I := by
  cases j with
  | lst h n r => exact .lst (s.keep _ _ h n.1 fun ps z => by cases z) (s.out h n) (r.mono s)
  | tup h r => exact .tup (h.imp (s.im fun ps z => by cases z) id) (r.mono s)
  | rng lo n z => exact .rng lo n z
  | rngc lo c n z => exact .rngc lo c n z
  | enl h n r => exact .enl (s.keep _ _ h n.1 fun ps z => by cases z) (s.out h n) (r.mono s)
  | ent h r => exact .ent (h.imp (s.im fun ps z => by cases z) id) (r.mono s)
  | zpl h n r h2 n2 r2 => exact .zpl (s.keep _ _ h n.1 fun ps z => by cases z) (s.out h n) (r.mono s) (s.keep _ _ h2 n2.1 fun ps z => by cases z) (s.out h2 n2) (r2.mono s)
  | zpt h r h2 r2 => exact .zpt (h.imp (s.im fun ps z => by cases z) id) (r.mono s) (h2.imp (s.im fun ps z => by cases z) id) (r2.mono s)
  | dyn h =>
    refine .dyn ?_
    obtain ⟨l, e, _⟩ := s.more
    rw [e, List.getElem?_append_left (List.getElem?_eq_some_iff.mp h).1]
    exact h
theorem JV.kill {p : Addr} {o : HO} (hp : H p = none) (j : JV C ι H J I) : JV (C.kill p) ι (upd H p o) J I := by
  have k : ∀ {a : Addr} {u : HO}, H a = some u → upd H p o a = some u := fun h => by rw [upd_ne (ne_of_none h hp)]; exact h
  have ot : ∀ {a : Addr} {u : HO}, H a = some u → Out C ι a → Out (C.kill p) ι a := fun h n => ⟨n.1, fun z => by
    rcases List.mem_cons.mp z with z | z
    · rw [z, hp] at h; cases h
    · exact n.2 z⟩
  have im : ∀ {a : Addr} {xs : List V}, (Im C ι H a (.tup xs) ∨ KT C.K a xs) → (Im (C.kill p) ι (upd H p o) a (.tup xs) ∨ KT (C.kill p).K a xs) := fun h => h.imp (fun ⟨r, n⟩ => by
    rcases r with r | ⟨u, r⟩
    · exact ⟨.inl (k r), ot r n⟩
    · exact ⟨.inr ⟨u, k r⟩, ot r n⟩) id
  cases j with
  | lst h n r => exact .lst (C := C.kill p) (k h) (ot h n) (r.kill hp)
  | tup h r => exact .tup (C := C.kill p) (im h) (r.kill hp)
  | rng lo n z => exact .rng lo n z
  | rngc lo c n z => exact .rngc lo c n z
  | enl h n r => exact .enl (C := C.kill p) (k h) (ot h n) (r.kill hp)
  | ent h r => exact .ent (C := C.kill p) (im h) (r.kill hp)
  | zpl h n r h2 n2 r2 => exact .zpl (C := C.kill p) (k h) (ot h n) (r.kill hp) (k h2) (ot h2 n2) (r2.kill hp)
  | zpt h r h2 r2 => exact .zpt (C := C.kill p) (im h) (r.kill hp) (im h2) (r2.kill hp)
  | dyn h => exact .dyn (C := C.kill p) h
/-- a list that is just made is written -/
theorem JV.untold {a : Addr} {o : HO} (hd : a ∈ C.dead) (j : JV C ι H J I) : JV C ι (upd H a o) J I := by
  have k : ∀ {b : Addr} {u : HO}, H b = some u → Out C ι b → upd H a o b = some u := fun h n => by rw [upd_ne (fun z => n.2 (by rw [z]; exact hd))]; exact h
  have im : ∀ {b : Addr} {xs : List V}, (Im C ι H b (.tup xs) ∨ KT C.K b xs) → (Im C ι (upd H a o) b (.tup xs) ∨ KT C.K b xs) := fun h => h.imp (fun ⟨r, n⟩ => by
    rcases r with r | ⟨u, r⟩
    · exact ⟨.inl (k r n), n⟩
    · exact ⟨.inr ⟨u, k r n⟩, n⟩) id
  cases j with
  | lst h n r => exact .lst (k h n) n (r.untold hd)
  | tup h r => exact .tup (im h) (r.untold hd)
  | rng lo n z => exact .rng lo n z
  | rngc lo c n z => exact .rngc lo c n z
  | enl h n r => exact .enl (k h n) n (r.untold hd)
  | ent h r => exact .ent (im h) (r.untold hd)
  | zpl h n r h2 n2 r2 => exact .zpl (k h n) n (r.untold hd) (k h2 n2) n2 (r2.untold hd)
  | zpt h r h2 r2 => exact .zpt (im h) (r.untold hd) (im h2) (r2.untold hd)
  | dyn h => exact .dyn h
theorem sqT_of {a : Addr} {xs : List V} (h : Im C ι H a (.tup xs) ∨ KT C.K a xs) : SqT C.K H a xs := h.imp (fun z => z.1) id
theorem enumL_get {xs : List PV} {i : Nat} {p : PV} (h : (enumL xs)[i]? = some p) : ∃ q, xs[i]? = some q ∧ p = .tup [.int (i : Nat), q] := by
  unfold enumL at h
  rw [List.getElem?_zipWith] at h
  split at h
  · rename_i a b ha hb
    cases h
    have : a = i := by
      obtain ⟨h1, h2⟩ := List.getElem?_eq_some_iff.mp ha
      simp at h2
      exact h2.symm
    subst this
    exact ⟨b, hb, rfl⟩
  · cases h
theorem enumL_len (xs : List PV) : (enumL xs).length = xs.length := by unfold enumL; simp
theorem zipL_get {xs ys : List PV} {i : Nat} {p : PV} (h : (zipL xs ys)[i]? = some p) : ∃ a b, xs[i]? = some a ∧ ys[i]? = some b ∧ p = .tup [a, b] := by
  unfold zipL at h
  rw [List.getElem?_zipWith] at h
  split at h
  · rename_i a b ha hb
    cases h
    exact ⟨a, b, ha, hb, rfl⟩
  · cases h
theorem zipL_len (xs ys : List PV) : (zipL xs ys).length = min xs.length ys.length := by unfold zipL; simp
theorem rangeL_get {lo : Int} {n i : Nat} {p : PV} (h : (rangeL lo n)[i]? = some p) : i < n ∧ p = .int (lo + (i : Nat)) := by
  unfold rangeL at h
  rw [List.getElem?_map] at h
  obtain ⟨a, ha, rfl⟩ := Option.map_eq_some_iff.mp h
  obtain ⟨h1, h2⟩ := List.getElem?_eq_some_iff.mp ha
  simp at h1 h2
  subst h2
  exact ⟨h1, rfl⟩
variable {T : List (Addr × Str)} {ι0 : List Addr} {H0 : Hp} {ρ : Env} {st : Store} {σ : L2.St}
theorem pair_new (R : Rel C T ι0 H0 ρ st ι σ H) {t : Addr} {x y : V} {p q : PV} (ht : H t = none) (r : Rep C ι H x p) (r2 : Rep C ι H y q) :
    Step ι H ι (upd H t (.tup [x, y])) ∧ Rel C T ι0 H0 ρ st ι σ (upd H t (.tup [x, y])) ∧ Rep C ι (upd H t (.tup [x, y])) (.ref t) (.tup [p, q]) := R.tupN ht (.cons r (.cons r2 .nil))
/-- a turn -/
theorem JV.step (R : Rel C T ι0 H0 ρ st ι σ H) {ps : List PV} {i : Nat} {p : PV} (j : JV C ι H J (.fix ps)) (e : ps[i]? = some p) :
    J.go i H ∧ ∀ x H', J.yld i H x H' → Step ι H ι H' ∧ Rel C T ι0 H0 ρ st ι σ H' ∧ Rep C ι H' x p := by
  generalize hI : ItV.fix ps = I at j
  cases j with
  | lst h n r =>
    cases hI
    obtain ⟨x, e1, r1⟩ := r.get e
    refine ⟨⟨_, x, SqL.of h, e1⟩, fun y H' ⟨eH, hy⟩ => ?_⟩
    subst eH
    have := hy _ (SqL.of h)
    rw [e1] at this
    cases this
    exact ⟨Step.refl, R, r1⟩
  | tup h r =>
    cases hI
    obtain ⟨x, e1, r1⟩ := r.get e
    refine ⟨⟨_, x, sqT_of h, e1⟩, fun y H' ⟨eH, hy⟩ => ?_⟩
    subst eH
    have := hy _ (sqT_of h)
    rw [e1] at this
    cases this
    exact ⟨Step.refl, R, r1⟩
  | rng lo n z =>
    cases hI
    obtain ⟨h1, rfl⟩ := rangeL_get e
    refine ⟨h1, fun y H' ⟨eH, hy⟩ => ?_⟩
    subst eH hy
    exact ⟨Step.refl, R, .int _⟩
  | rngc lo c n z =>
    cases hI
    rw [List.getElem?_map] at e
    obtain ⟨a, ha, rfl⟩ := Option.map_eq_some_iff.mp e
    obtain ⟨h1, h2⟩ := List.getElem?_eq_some_iff.mp ha
    simp at h1 h2
    subst h2
    refine ⟨h1, fun y H' ⟨eH, hy⟩ => ?_⟩
    subst eH hy
    exact ⟨Step.refl, R, .int _⟩
  | enl h n r =>
    cases hI
    obtain ⟨q, e0, rfl⟩ := enumL_get e
    obtain ⟨x, e1, r1⟩ := r.get e0
    refine ⟨⟨_, x, SqL.of h, e1⟩, fun y H' ⟨t, x', ey, ht, eH, hy⟩ => ?_⟩
    subst eH ey
    have := hy _ (SqL.of h)
    rw [e1] at this
    cases this
    exact pair_new R ht (.int _) r1
  | ent h r =>
    cases hI
    obtain ⟨q, e0, rfl⟩ := enumL_get e
    obtain ⟨x, e1, r1⟩ := r.get e0
    refine ⟨⟨_, x, sqT_of h, e1⟩, fun y H' ⟨t, x', ey, ht, eH, hy⟩ => ?_⟩
    subst eH ey
    have := hy _ (sqT_of h)
    rw [e1] at this
    cases this
    exact pair_new R ht (.int _) r1
  | zpl h n r h2 n2 r2 =>
    cases hI
    obtain ⟨q, q2, e0, e02, rfl⟩ := zipL_get e
    obtain ⟨x, e1, r1⟩ := r.get e0
    obtain ⟨x2, e12, r12⟩ := r2.get e02
    refine ⟨⟨_, _, x, x2, SqL.of h, SqL.of h2, e1, e12⟩, fun y H' ⟨t, x', y', ey, ht, eH, hy, hy2⟩ => ?_⟩
    subst eH ey
    have a1 := hy _ (SqL.of h)
    have a2 := hy2 _ (SqL.of h2)
    rw [e1] at a1
    rw [e12] at a2
    cases a1
    cases a2
    exact pair_new R ht r1 r12
  | zpt h r h2 r2 =>
    cases hI
    obtain ⟨q, q2, e0, e02, rfl⟩ := zipL_get e
    obtain ⟨x, e1, r1⟩ := r.get e0
    obtain ⟨x2, e12, r12⟩ := r2.get e02
    refine ⟨⟨_, _, x, x2, sqT_of h, sqT_of h2, e1, e12⟩, fun y H' ⟨t, x', y', ey, ht, eH, hy, hy2⟩ => ?_⟩
    subst eH ey
    have a1 := hy _ (sqT_of h)
    have a2 := hy2 _ (sqT_of h2)
    rw [e1] at a1
    rw [e12] at a2
    cases a1
    cases a2
    exact pair_new R ht r1 r12
  | dyn h => cases hI
theorem JV.stop {ps : List PV} {i : Nat} (j : JV C ι H J (.fix ps)) (e : i = ps.length) : J.stop i H := by
  generalize hI : ItV.fix ps = I at j
  cases j with
  | lst h n r => cases hI; exact ⟨_, SqL.of h, by rw [r.length]; omega⟩
  | tup h r => cases hI; exact ⟨_, sqT_of h, by rw [r.length]; omega⟩
  | rng lo n z =>
    cases hI
    show n ≤ i
    rw [e]; unfold rangeL; simp
  | rngc lo c n z =>
    cases hI
    show n ≤ i
    rw [e]; simp
  | enl h n r => cases hI; rw [enumL_len] at e; exact ⟨_, SqL.of h, by rw [r.length]; omega⟩
  | ent h r => cases hI; rw [enumL_len] at e; exact ⟨_, sqT_of h, by rw [r.length]; omega⟩
  | zpl h n r h2 n2 r2 =>
    cases hI
    rw [zipL_len] at e
    refine ⟨_, _, SqL.of h, SqL.of h2, ?_⟩
    rw [r.length, r2.length]
    omega
  | zpt h r h2 r2 =>
    cases hI
    rw [zipL_len] at e
    refine ⟨_, _, sqT_of h, sqT_of h2, ?_⟩
    rw [r.length, r2.length]
    omega
  | dyn h => cases hI
/-- .. over a list of the store -/
theorem JV.stepD (R : Rel C T ι0 H0 ρ st ι σ H) {n : Nat} {ps : List PV} {i : Nat} {p : PV} (j : JV C ι H J (.dyn n)) (en : st[n]? = some (.lst ps)) (e : ps[i]? = some p) :
    J.go i H ∧ ∀ x H', J.yld i H x H' → H' = H ∧ Rep C ι H x p := by
  generalize hI : ItV.dyn n = I at j
  cases j with
  | @dyn a m h =>
    cases hI
    obtain ⟨_, xs, eH, r⟩ := R.rst.ob n a _ h en
    obtain ⟨x, e1, r1⟩ := r.get e
    refine ⟨⟨_, x, SqL.of eH, e1⟩, fun y H' ⟨e', hy⟩ => ?_⟩
    have := hy _ (SqL.of eH)
    rw [e1] at this
    cases this
    exact ⟨e', r1⟩
  | _ => cases hI
theorem JV.stopD (R : Rel C T ι0 H0 ρ st ι σ H) {n : Nat} {ps : List PV} {i : Nat} (j : JV C ι H J (.dyn n)) (en : st[n]? = some (.lst ps)) (e : ps[i]? = none) : J.stop i H := by
  generalize hI : ItV.dyn n = I at j
  cases j with
  | @dyn a m h =>
    cases hI
    obtain ⟨_, xs, eH, r⟩ := R.rst.ob n a _ h en
    exact ⟨_, SqL.of eH, by rw [r.length]; exact List.getElem?_eq_none_iff.mp e⟩
  | _ => cases hI
end
/-- few enough -/
theorem JV.size {X : Cx} {pins : List (Addr × Obj)} {σ : L2.St} {s : Shared} {C : Ct} {ι : List Addr} {H : Hp} {J : L2.It} {ps : List PV} (I : L2.Inv X pins σ H s) (hK : X.K = C.K) (j : JV C ι H J (.fix ps)) : ps.length ≤ sizeLine := by
  generalize hI : ItV.fix ps = I0 at j
  have tl : ∀ {a : Addr} {xs : List V} {ps : List PV}, (Im C ι H a (.tup xs) ∨ KT C.K a xs) → Reps C ι H xs ps → ps.length ≤ sizeLine := fun h r => by
    obtain ⟨_, _, _, z⟩ := I.tuple (by rw [hK]; exact sqT_of h)
    rw [← r.length]; exact z
  have ll : ∀ {a : Addr} {xs : List V} {ps : List PV}, H a = some (.lst xs) → Reps C ι H xs ps → ps.length ≤ sizeLine := fun h r => by
    obtain ⟨_, _, _, z⟩ := I.list (SqL.of h)
    rw [← r.length]; exact z
  cases j with
  | lst h n r => cases hI; exact ll h r
  | tup h r => cases hI; exact tl h r
  | rng lo n z => cases hI; unfold rangeL; simpa using z
  | rngc lo c n z => cases hI; simpa using z
  | enl h n r => cases hI; rw [enumL_len]; exact ll h r
  | ent h r => cases hI; rw [enumL_len]; exact tl h r
  | zpl h n r h2 n2 r2 =>
    cases hI
    rw [zipL_len]
    have := ll h r
    omega
  | zpt h r h2 r2 =>
    cases hI
    rw [zipL_len]
    have := tl h r
    omega
  | dyn h => cases hI
/-- what comes next -/
def nextI : ItV → Nat → Nat → Store → Option (Option PV)
  | .fix xs, _, i, _ => some xs[i]?
  | .dyn _, 0, _, _ => none
  | .dyn n, _ + 1, i, st => match st[n]? with | some (.lst xs) => some xs[i]? | _ => none
def okI : ItV → Nat → Nat → Prop
  | .fix xs, m, i => i ≤ xs.length ∧ m = xs.length - i
  | .dyn _, _, _ => True
theorem nextI_lt {I : ItV} {m i : Nat} {st : Store} {p : PV} (h : nextI I m i st = some (some p)) (o : okI I m i) : m - 1 < m ∧ okI I (m - 1) (i + 1) := by
  cases I with
  | fix xs =>
    obtain ⟨h1, h2⟩ := o
    have : i < xs.length := (List.getElem?_eq_some_iff.mp (Option.some.inj h)).1
    exact ⟨by omega, by omega, by omega⟩
  | dyn n =>
    cases m with
    | zero => cases h
    | succ k => exact ⟨by omega, True.intro⟩
theorem JV.next {C : Ct} {T : List (Addr × Str)} {ι0 ι : List Addr} {H0 H : Hp} {ρ : Env} {st : Store} {σ : L2.St} {J : L2.It} {I : ItV} {m i : Nat} {p : PV} (R : Rel C T ι0 H0 ρ st ι σ H) (j : JV C ι H J I) (h : nextI I m i st = some (some p)) :
    J.go i H ∧ ∀ x H', J.yld i H x H' → Step ι H ι H' ∧ Rel C T ι0 H0 ρ st ι σ H' ∧ Rep C ι H' x p := by
  cases I with
  | fix xs => exact j.step R (Option.some.inj h)
  | dyn n =>
    cases m with
    | zero => cases h
    | succ k =>
      have h : (match st[n]? with | some (.lst xs) => some xs[i]? | _ => none) = some (some p) := h
      split at h
      · rename_i xs e
        obtain ⟨g, y⟩ := j.stepD R e (Option.some.inj h)
        refine ⟨g, fun x H' z => ?_⟩
        obtain ⟨rfl, r⟩ := y x H' z
        exact ⟨Step.refl, R, r⟩
      · cases h
theorem JV.last {C : Ct} {T : List (Addr × Str)} {ι0 ι : List Addr} {H0 H : Hp} {ρ : Env} {st : Store} {σ : L2.St} {J : L2.It} {I : ItV} {m i : Nat} (R : Rel C T ι0 H0 ρ st ι σ H) (j : JV C ι H J I) (h : nextI I m i st = some none) (o : okI I m i) : J.stop i H := by
  cases I with
  | fix xs =>
    have := List.getElem?_eq_none_iff.mp (Option.some.inj h)
    exact j.stop (by have := o.1; omega)
  | dyn n =>
    cases m with
    | zero => cases h
    | succ k =>
      have h : (match st[n]? with | some (.lst xs) => some xs[i]? | _ => none) = some none := h
      split at h
      · rename_i xs e
        exact j.stopD R e (Option.some.inj h)
      · cases h
theorem JV.lim {X : Cx} {pins : List (Addr × Obj)} {σ σ' : L2.St} {s : Shared} {C : Ct} {T : List (Addr × Str)} {ι0 ι : List Addr} {H0 H : Hp} {ρ : Env} {st : Store} {J : L2.It} {I : ItV} {m i : Nat} {p : PV} (In : L2.Inv X pins σ' H s) (hK : X.K = C.K) (R : Rel C T ι0 H0 ρ st ι σ H) (j : JV C ι H J I)
    (h : nextI I m i st = some (some p)) : i < sizeLine := by
  cases I with
  | fix xs =>
    have h1 := (List.getElem?_eq_some_iff.mp (Option.some.inj h)).1
    have h2 := j.size In hK
    omega
  | dyn n =>
    cases m with
    | zero => cases h
    | succ k =>
      have h : (match st[n]? with | some (.lst xs) => some xs[i]? | _ => none) = some (some p) := h
      split at h
      · rename_i xs e
        have h1 := (List.getElem?_eq_some_iff.mp (Option.some.inj h)).1
        generalize hI : ItV.dyn n = I0 at j
        cases j with
        | @dyn a m h =>
          cases hI
          obtain ⟨_, ys, eH, r⟩ := R.rst.ob n a _ h e
          obtain ⟨_, _, _, z⟩ := In.list (SqL.of eH)
          rw [r.length] at z
          omega
        | _ => cases hI
      · cases h
/-! ### iterables are sound -/
def AftI (F : Fm) (ρ : Env) (ι : List Addr) (σ : L2.St) (H : Hp) (r : R ItV) (Q : L2.It → Hp → Prop) : Prop := match r with
  | .ok I st' => ∀ (J : L2.It) (ι' : List Addr) (H' : Hp), Step ι H ι' H' → F.Rl ρ st' ι' σ H' → JV F.C ι' H' J I → Q J H'
  | .exc k v st' => ExcA F ρ ι σ H k v st'
  | .bad => False
def iM (F : Fm) (m : Env → Store → R ItV) : TI := fun σ H Q => ∃ (ρ : Env) (st : Store) (ι : List Addr), F.Rl ρ st ι σ H ∧ AftI F ρ ι σ H (m ρ st) Q
theorem AftI.step {F : Fm} {ρ : Env} {ι ι1 : List Addr} {σ : L2.St} {H H1 : Hp} {r : R ItV} {Q : L2.It → Hp → Prop} (h : AftI F ρ ι σ H r Q) (s : Step ι H ι1 H1) : AftI F ρ ι1 σ H1 r Q := by
  cases r with
  | ok a st' => exact fun J ι' H' s' R q => h J ι' H' (s.trans s') R q
  | exc k v st' => exact fun d x ι' H' s' R e n q => h d x ι' H' (s.trans s') R e n q
  | bad => exact h
theorem seqI' {F : Fm} {α β : Type} {rp : List Addr → Hp → β → α → Prop} {m : Env → Store → R α} {f : α → Store → R ItV} {ρ : Env} {st : Store} {ι : List Addr} {σ : L2.St} {H : Hp} {Q : L2.It → Hp → Prop} {K : β → Hp → Prop}
    (R : F.Rl ρ st ι σ H) (h : AftI F ρ ι σ H (bnd (m ρ st) f) Q)
    (k : ∀ st1 a x ι1 H1, Step ι H ι1 H1 → F.Rl ρ st1 ι1 σ H1 → rp ι1 H1 x a → AftI F ρ ι1 σ H1 (f a st1) Q → K x H1) : tG F rp m σ H K := by
  refine ⟨ρ, st, ι, R, ?_⟩
  revert h
  cases m ρ st with
  | ok a st1 => exact fun h x ι1 H1 s1 R1 r1 => k st1 a x ι1 H1 s1 R1 r1 (AftI.step h s1)
  | exc c v st1 => exact fun h => h
  | bad => exact fun h => h
theorem AftI.ok {F : Fm} {ρ : Env} {ι : List Addr} {σ : L2.St} {H : Hp} {a : ItV} {st : Store} {Q : L2.It → Hp → Prop} (h : AftI F ρ ι σ H (.ok a st) Q) {J : L2.It} (R : F.Rl ρ st ι σ H) (r : JV F.C ι H J a) : Q J H := h J ι H Step.refl R r
theorem PI.weak {X : Cx} {tg e : Expr} {t t' : TI} (h : PI X tg e t) (w : ∀ σ H Q, t' σ H Q → t σ H Q) : PI X tg e t' := ⟨fun pins s σ H R I q => h.run pins s σ H R I (w σ H R q)⟩
section
variable {D : PD} {d : Nat} {S : SS} {X : Cx} {F : Fm} {c : Cfg} {tg : Expr}
theorem Rep.lstJ {C : Ct} {ι : List Addr} {H : Hp} {x : V} {ps : List PV} (r : Rep C ι H x (.lst ps)) : ∃ a xs, x = .ref a ∧ H a = some (.lst xs) ∧ Out C ι a ∧ Reps C ι H xs ps := by
  cases r with
  | lst a b c => exact ⟨_, _, rfl, a, b, c⟩
theorem Rep.tupJ {C : Ct} {ι : List Addr} {H : Hp} {x : V} {ps : List PV} (r : Rep C ι H x (.tup ps)) : ∃ a xs, x = .ref a ∧ (Im C ι H a (.tup xs) ∨ KT C.K a xs) ∧ Reps C ι H xs ps := by
  cases r with
  | tup a b => exact ⟨_, _, rfl, a, b⟩
theorem i_seq (g : Good D d S X F c) {a : Expr} {a' : E} (ha : PE X a (tE F (ev c a').v)) : PI X tg a (iM F (evI c (.seq a'))) := by
  have hK : X.K = F.C.K := by rw [g.K, g.Fk]
  refine PI.weak (pi_seqA ha) fun σ H Q ⟨ρ, st, ι, R, h⟩ => ?_
  refine seqI' R h fun st1 x xv ι1 H1 s1 R1 r1 h1 => ?_
  have h1 : AftI F ρ ι1 σ H1 (giv (toSeq st1 x) st1) Q := h1
  cases x with
  | ref n =>
    have h1 : AftI F ρ ι1 σ H1 (giv (match st1[n]? with | some (.lst _) => some (ItV.dyn n) | _ => none) st1) Q := h1
    split at h1
    · rename_i xs e
      obtain ⟨a, ys, rfl, ha', hH, hn, rr⟩ := R1.refI r1 e
      exact .inl ⟨a, ys, rfl, SqL.of hH, by rw [hK]; exact h1.ok R1 (.dyn ha')⟩
    · exact h1.elim
  | tup ps =>
    obtain ⟨a, ys, rfl, hx, rr⟩ := r1.tupJ
    exact .inr ⟨a, ys, rfl, by rw [hK]; exact sqT_of hx, by rw [hK]; exact h1.ok R1 (.tup hx rr)⟩
  | lst ps =>
    obtain ⟨a, ys, rfl, hx, ho, rr⟩ := r1.lstJ
    exact .inl ⟨a, ys, rfl, SqL.of hx, by rw [hK]; exact h1.ok R1 (.lst hx ho rr)⟩
  | _ => exact h1.elim
theorem i_enum (g : Good D d S X F c) (ok : D.Ok) {a : Expr} {a' : E} {p pos tpos : Pos} {elts : List Expr} {kk : Nat} (hf : frB D.G S "enumerate" = true) (hn : nostar a = true) (ha : PE X a (tE F (ev c a').v)) : PI X (.Tuple elts kk tpos) (.Call (.Name "enumerate" p) [a] [] pos) (iM F (evI c (.enum a'))) := by
  have hK : X.K = F.C.K := by rw [g.K, g.Fk]
  obtain ⟨h1, h2, h3, h4⟩ := frB_of g ok hf
  refine PI.weak (pi_enumA h1 h2 ha hn) fun σ H Q ⟨ρ, st, ι, R, h⟩ => ?_
  refine seqI' R h fun st1 x xv ι1 H1 s1 R1 r1 h1 => ?_
  cases x with
  | tup ps =>
    obtain ⟨a, ys, rfl, hx, rr⟩ := r1.tupJ
    exact .inr ⟨a, ys, rfl, by rw [hK]; exact sqT_of hx, by rw [hK]; exact AftI.ok h1 R1 (.ent hx rr)⟩
  | lst ps =>
    obtain ⟨a, ys, rfl, hx, ho, rr⟩ := r1.lstJ
    exact .inl ⟨a, ys, rfl, SqL.of hx, by rw [hK]; exact AftI.ok h1 R1 (.enl hx ho rr)⟩
  | _ => exact h1.elim
theorem i_zip (g : Good D d S X F c) (ok : D.Ok) {a b : Expr} {a' b' : E} {p pos tpos : Pos} {elts : List Expr} {kk : Nat} (hf : frB D.G S "zip" = true) (hn : nostar a = true) (hn2 : nostar b = true) (ha : PE X a (tE F (ev c a').v)) (hb : PE X b (tE F (ev c b').v)) :
    PI X (.Tuple elts kk tpos) (.Call (.Name "zip" p) [a, b] [] pos) (iM F (evI c (.zip a' b'))) := by
  have hK : X.K = F.C.K := by rw [g.K, g.Fk]
  obtain ⟨h1, h2, h3, h4⟩ := frB_of g ok hf
  refine PI.weak (pi_zipA h1 h2 (pa_cons ha (pa_cons hb pa_nil (star_cons hn2)) (star_cons hn)) (star_cons hn) (by rw [star_cons hn2]; rfl)) fun σ H Q ⟨ρ, st, ι, R, h⟩ => ?_
  refine seqI' R h fun st1 x xv ι1 H1 s1 R1 r1 h1 => ?_
  refine seqI' R1 h1 fun st2 y yv ι2 H2 s2 R2 r2 h2 => ?_
  have r1 := r1.mono s2
  cases x with
  | tup ps =>
    cases y with
    | tup qs =>
      obtain ⟨a, ys, rfl, hx, rr⟩ := r1.tupJ
      obtain ⟨b, zs, rfl, hy, rr2⟩ := r2.tupJ
      exact ⟨a, b, ys, zs, rfl, .inr ⟨by rw [hK]; exact sqT_of hx, by rw [hK]; exact sqT_of hy, by rw [hK]; exact AftI.ok h2 R2 (.zpt hx rr hy rr2)⟩⟩
    | _ => exact h2.elim
  | lst ps =>
    cases y with
    | lst qs =>
      obtain ⟨a, ys, rfl, hx, ho, rr⟩ := r1.lstJ
      obtain ⟨b, zs, rfl, hy, ho2, rr2⟩ := r2.lstJ
      exact ⟨a, b, ys, zs, rfl, .inl ⟨SqL.of hx, SqL.of hy, by rw [hK]; exact AftI.ok h2 R2 (.zpl hx ho rr hy ho2 rr2)⟩⟩
    | _ => exact h2.elim
  | _ => cases y <;> exact h2.elim
theorem i_rng1 (g : Good D d S X F c) (ok : D.Ok) {a : Expr} {a' : E} {p pos : Pos} (hf : frB D.G S "range" = true) (hn : nostar a = true) (ha : PE X a (tE F (ev c a').v)) : PI X tg (.Call (.Name "range" p) [a] [] pos) (iM F (evI c (.rng1 a'))) := by
  obtain ⟨h1, h2, h3, h4⟩ := frB_of g ok hf
  refine PI.weak (pi_range1 h1 h2 (pa_cons ha pa_nil (star_cons hn)) (star_cons hn)) fun σ H Q ⟨ρ, st, ι, R, h⟩ => ?_
  refine seqI' R h fun st1 x xv ι1 H1 s1 R1 r1 h1 => ?_
  cases x with
  | int j =>
    have h1 : AftI F ρ ι1 σ H1 (if inR j && decide (j.toNat ≤ SZ) then .ok (.fix (rangeL 0 j.toNat)) st1 else .bad) Q := h1
    split at h1
    · rename_i hh
      simp only [Bool.and_eq_true, decide_eq_true_eq] at hh
      have hj := inR_of hh.1
      exact ⟨j, by rw [r1.intI], hj.1, hj.2, h1.ok R1 (.rng 0 j.toNat (by rw [← SZ_eq]; exact hh.2))⟩
    · exact h1.elim
  | _ => exact h1.elim
theorem i_rng2 (g : Good D d S X F c) (ok : D.Ok) {a b : Expr} {a' b' : E} {p pos : Pos} (hf : frB D.G S "range" = true) (hn : nostar a = true) (hn2 : nostar b = true) (ha : PE X a (tE F (ev c a').v)) (hb : PE X b (tE F (ev c b').v)) : PI X tg (.Call (.Name "range" p) [a, b] [] pos) (iM F (evI c (.rng2 a' b'))) := by
  obtain ⟨h1, h2, h3, h4⟩ := frB_of g ok hf
  refine PI.weak (pi_range2 h1 h2 (pa_cons ha (pa_cons hb pa_nil (star_cons hn2)) (star_cons hn)) (by rw [star_cons hn, star_cons hn2]; rfl) (star_cons hn2)) fun σ H Q ⟨ρ, st, ι, R, h⟩ => ?_
  refine seqI' R h fun st1 x xv ι1 H1 s1 R1 r1 h1 => ?_
  refine seqI' R1 h1 fun st2 y yv ι2 H2 s2 R2 r2 h2 => ?_
  cases x with
  | int i =>
    cases y with
    | int j =>
      have h2 : AftI F ρ ι2 σ H2 (if inR i && inR j && decide ((j - i).toNat ≤ SZ) then .ok (.fix (rangeL i (j - i).toNat)) st2 else .bad) Q := h2
      split at h2
      · rename_i hh
        simp only [Bool.and_eq_true, decide_eq_true_eq] at hh
        have hi := inR_of hh.1.1
        have hj := inR_of hh.1.2
        exact ⟨i, j, by rw [r1.intI, r2.intI], ⟨hi.1, hi.2, hj.1, hj.2⟩, h2.ok R2 (.rng i _ (by rw [← SZ_eq]; exact hh.2))⟩
      · exact h2.elim
    | _ => exact h2.elim
  | _ => cases y <;> exact h2.elim
theorem i_rng3 (g : Good D d S X F c) (ok : D.Ok) {a b e : Expr} {a' b' e' : E} {p pos : Pos} (hf : frB D.G S "range" = true) (hn : nostar a = true) (hn2 : nostar b = true) (hn3 : nostar e = true) (ha : PE X a (tE F (ev c a').v)) (hb : PE X b (tE F (ev c b').v)) (he : PE X e (tE F (ev c e').v)) :
    PI X tg (.Call (.Name "range" p) [a, b, e] [] pos) (iM F (evI c (.rng3 a' b' e'))) := by
  obtain ⟨h1, h2, h3, h4⟩ := frB_of g ok hf
  refine PI.weak (pi_range3 h1 h2 (pa_cons ha (pa_cons hb (pa_cons he pa_nil (star_cons hn3)) (star_cons hn2)) (star_cons hn)) (star_cons hn) (by rw [star_cons hn2, star_cons hn3]; rfl)) fun σ H Q ⟨ρ, st, ι, R, h⟩ => ?_
  refine seqI' R h fun st1 x xv ι1 H1 s1 R1 r1 h1 => ?_
  refine seqI' R1 h1 fun st2 y yv ι2 H2 s2 R2 r2 h2 => ?_
  refine seqI' R2 h2 fun st3 z zv ι3 H3 s3 R3 r3 h3 => ?_
  cases x with
  | int i =>
    cases y with
    | int j =>
      cases z with
      | int k =>
        have h3 : AftI F ρ ι3 σ H3 (bnd (giv (rng3 i j k) st3) fun xs st => .ok (.fix xs) st) Q := h3
        unfold rng3 at h3
        split at h3
        · rename_i hh
          obtain ⟨g1, g2, g3, g4⟩ := hh
          exact ⟨i, j, k, _, by rw [r1.intI, r2.intI, r3.intI], ⟨g1, g2, g3, PyProof.Rows.rangeSize_toNat i j k⟩, h3.ok R3 (.rngc i k _ (by rw [← SZ_eq]; exact g4))⟩
        · exact h3.elim
      | _ => exact h3.elim
    | _ => cases z <;> exact h3.elim
  | _ => cases y <;> cases z <;> exact h3.elim
end
end PM
set_option Elab.async false
set_option linter.all false
set_option maxRecDepth 100000
set_option maxHeartbeats 4000000
/-! PM15: targets. -/
namespace PM
open PySem PySem.Spec PyProof.Rows L2 LamX
/-- a store by the evaluator -/
def gT (F : Fm) (t : Tg) : TG := fun v σ H Q => ∃ (ρ : Env) (st : Store) (ι : List Addr) (p : PV) (ρ' : Env), F.Rl ρ st ι σ H ∧ Rep F.C ι H v p ∧ asgT t p ρ = some ρ' ∧
  ∀ σ', F.Rl ρ' st ι σ' H → (∀ i, i ∉ tgSlots t → σ'[i]? = σ[i]?) → σ'.length = σ.length → Q σ' H
def gTs (F : Fm) (l : List Tg) : TGs := fun vs σ H Q => ∃ (ρ : Env) (st : Store) (ι : List Addr) (ps : List PV) (ρ' : Env), F.Rl ρ st ι σ H ∧ Reps F.C ι H vs ps ∧ asgTs l ps ρ = some ρ' ∧
  ∀ σ', F.Rl ρ' st ι σ' H → (∀ i, i ∉ tgSlots.go l → σ'[i]? = σ[i]?) → σ'.length = σ.length → Q σ' H
theorem Rel.setE {C : Ct} {T : List (Addr × Str)} {ι0 ι : List Addr} {H0 H : Hp} {ρ : Env} {st : Store} {σ : L2.St} {i : Nat} {v : V} {p : PV} (R : Rel C T ι0 H0 ρ st ι σ H) (r : Rep C ι H v p) : Rel C T ι0 H0 (ρ.set i (some p)) st ι (σ.set i (some v)) H :=
  ⟨R.rst, R.env.set R.len r, R.tab, R.tni, R.fr0, by simp [R.len], R.ded, R.low, R.lown⟩
theorem asgTs_len : ∀ {l : List Tg} {ps : List PV} {ρ ρ' : Env}, asgTs l ps ρ = some ρ' → ps.length = l.length
  | [], [], _, _, _ => rfl
  | [], _ :: _, _, _, h => by simp [asgTs] at h
  | _ :: _, [], _, _, h => by simp [asgTs] at h
  | t :: l, p :: ps, ρ, ρ', h => by
    simp only [asgTs] at h
    cases e : asgT t p ρ with
    | none => rw [e] at h; cases h
    | some ρ1 => rw [e] at h; simp [asgTs_len h]
theorem ae_cons {e : Expr} {es : List Expr} {env : PySem.Env} (h : nostar e = true) : assignEach (e :: es) env = (false, assign e env) :: assignEach es env := by
  cases e <;> first | rfl | cases h
theorem trTs_star {f : Expr → Option Tg} {env : PySem.Env} : ∀ {es : List Expr} {l : List Tg}, trTs f es = some l → (assignEach es env).length = l.length ∧ (assignEach es env).findIdx? (·.1) = none
  | [], l, h => by cases h; exact ⟨rfl, rfl⟩
  | e :: r, l, h => by
    unfold trTs at h
    obtain ⟨h0, h⟩ := gd_some.mp h
    obtain ⟨e', h1, h⟩ := Option.bind_eq_some_iff.mp h
    obtain ⟨es', h2, h⟩ := Option.map_eq_some_iff.mp h
    subst h
    obtain ⟨i1, i2⟩ := trTs_star (env := env) h2
    rw [ae_cons h0]
    refine ⟨by simp [i1], ?_⟩
    rw [List.findIdx?_cons, i2]
    rfl
section
variable {D : PD} {d : Nat} {S : SS} {X : Cx} {F : Fm} {c : Cfg}
theorem ts_ok {f : Expr → Option Tg} (hf : ∀ e t, f e = some t → PG X e (gT F t)) : ∀ {es : List Expr} {l : List Tg}, trTs f es = some l → PGs X es (gTs F l)
  | [], l, h => by
    cases h
    refine ⟨fun pins s σ H vs us Q I r ⟨ρ, st, ι, ps, ρ', R, rp, e, h⟩ => ?_⟩
    refine pgs_nil.run pins s σ H vs us Q I r ⟨?_, ?_⟩
    · cases ps with
      | nil => cases rp; rfl
      | cons _ _ => simp [asgTs] at e
    · cases ps with
      | nil => simp only [asgTs, Option.some.injEq] at e; subst e; exact h σ R (fun _ _ => rfl) rfl
      | cons _ _ => simp [asgTs] at e
  | e :: r, l, h => by
    unfold trTs at h
    obtain ⟨h0, h⟩ := gd_some.mp h
    obtain ⟨t, h1, h⟩ := Option.bind_eq_some_iff.mp h
    obtain ⟨l', h2, h⟩ := Option.map_eq_some_iff.mp h
    subst h
    refine ⟨fun pins s σ H vs us Q I rv ⟨ρ, st, ι, ps, ρ', R, rp, ea, h⟩ => ?_⟩
    refine (pgs_cons (hf e t h1) (ts_ok hf h2) (by rw [ae_cons h0]; rfl)).run pins s σ H vs us Q I rv ?_
    cases rp with
    | nil => simp [asgTs] at ea
    | @cons x xs p ps r1 r2 =>
      simp only [asgTs] at ea
      cases e1 : asgT t p ρ with
      | none => rw [e1] at ea; cases ea
      | some ρ1 =>
        rw [e1] at ea
        refine ⟨x, xs, rfl, ρ, st, ι, p, ρ1, R, r1, e1, fun σ1 R1 k1 l1 => ?_⟩
        refine ⟨ρ1, st, ι, ps, ρ', R1, r2, ea, fun σ2 R2 k2 l2 => h σ2 R2 (fun i hi => ?_) (l2.trans l1)⟩
        have hi : i ∉ tgSlots t ++ tgSlots.go l' := hi
        rw [List.mem_append, not_or] at hi
        rw [k2 i hi.2, k1 i hi.1]
theorem t_ok (g : Good D d S X F c) : ∀ {n : Nat} {tg : Expr} {t : Tg}, trT S n tg = some t → PG X tg (gT F t)
  | 0, tg, t, h => by cases h
  | n + 1, tg, t, h => by
    unfold trT at h
    split at h
    · cases h
    · rename_i x pos m hm
      cases hm
      obtain ⟨h0, h⟩ := gd_some.mp h
      simp only [Bool.and_eq_true] at h0
      obtain ⟨i, hi, rfl⟩ := Option.map_eq_some_iff.mp h
      obtain ⟨l1, l2⟩ := g.loc h0.2
      refine ⟨fun pins s σ H v u Q I r ⟨ρ, st, ι, p, ρ', R, rp, e, h⟩ => ?_⟩
      have e : some (ρ.set i (some p)) = some ρ' := by
        have e := e
        unfold asgT at e
        exact e
      cases e
      refine (pg_name (i := i) (by rw [g.N]; exact g.nd) (by rw [g.N]; exact slot_ok hi) l1 l2).run pins s σ H v u Q I r ?_
      refine h _ (R.setE rp) (fun j hj => ?_) (by simp)
      have hj : j ∉ [i] := hj
      rw [List.getElem?_set_ne (fun z => hj (by rw [z]; exact List.mem_singleton.mpr rfl))]
    · rename_i es k pos m hm
      cases hm
      obtain ⟨l, hl, rfl⟩ := Option.map_eq_some_iff.mp h
      have P := ts_ok (fun e t => t_ok g (n := n)) hl
      obtain ⟨s1, s2⟩ := trTs_star (env := X.env) hl
      refine ⟨fun pins s σ H v u Q I r ⟨ρ, st, ι, p, ρ', R, rp, e, h⟩ => ?_⟩
      unfold asgT at e
      split at e
      · rename_i ps
        obtain ⟨a, xs, rfl, hx, rr⟩ := rp.tupJ
        refine (pg_tup g.calm P s1 s2).run pins s σ H _ u Q I r ⟨a, xs, rfl, ?_, ?_, ?_⟩
        · rw [g.K, ← g.Fk]; exact sqT_of hx
        · rw [rr.length, asgTs_len e]
        · exact ⟨ρ, st, ι, ps, ρ', R, rr, e, h⟩
      · cases e
    · cases h
/-! ### the slots that a target stores in -/
theorem set_comm' {α : Type} {l : List α} {i j : Nat} {a b : α} (h : i ≠ j) : (l.set i a).set j b = (l.set j b).set i a := List.set_comm a b h
mutual
theorem asgT_wipe {v : Nat} : ∀ {t : Tg} {p : PV} {ρ : Env}, v ∈ tgSlots t → asgT t p (ρ.set v none) = asgT t p ρ
  | .n i, p, ρ, h => by
    have : v = i := List.mem_singleton.mp h
    subst this
    simp [asgT]
  | .t l, p, ρ, h => by
    cases p <;> first | rfl | skip
    simp only [asgT]
    exact asgTs_wipe h
theorem asgTs_wipe {v : Nat} : ∀ {l : List Tg} {ps : List PV} {ρ : Env}, v ∈ tgSlots.go l → asgTs l ps (ρ.set v none) = asgTs l ps ρ
  | [], ps, ρ, h => by cases h
  | t :: l, [], ρ, h => rfl
  | t :: l, p :: ps, ρ, h => by
    simp only [asgTs]
    have h : v ∈ tgSlots t ++ tgSlots.go l := h
    by_cases ht : v ∈ tgSlots t
    · rw [asgT_wipe ht]
    · have hl : v ∈ tgSlots.go l := (List.mem_append.mp h).resolve_left ht
      rw [asgT_out ht]
      cases asgT t p ρ with
      | none => rfl
      | some ρ1 =>
        simp only [Option.map_some]
        exact asgTs_wipe hl
theorem asgT_out {v : Nat} : ∀ {t : Tg} {p : PV} {ρ : Env}, v ∉ tgSlots t → asgT t p (ρ.set v none) = (asgT t p ρ).map (·.set v none)
  | .n i, p, ρ, h => by
    have : v ≠ i := fun z => h (by rw [z]; exact List.mem_singleton.mpr rfl)
    simp only [asgT, Option.map_some]
    rw [set_comm' this]
  | .t l, p, ρ, h => by
    cases p <;> first | rfl | skip
    simp only [asgT]
    exact asgTs_out h
theorem asgTs_out {v : Nat} : ∀ {l : List Tg} {ps : List PV} {ρ : Env}, v ∉ tgSlots.go l → asgTs l ps (ρ.set v none) = (asgTs l ps ρ).map (·.set v none)
  | [], [], ρ, h => rfl
  | [], _ :: _, ρ, h => rfl
  | t :: l, [], ρ, h => rfl
  | t :: l, p :: ps, ρ, h => by
    simp only [asgTs]
    have h : v ∉ tgSlots t ++ tgSlots.go l := h
    rw [List.mem_append, not_or] at h
    rw [asgT_out h.1]
    cases asgT t p ρ with
    | none => rfl
    | some ρ1 =>
      simp only [Option.map_some]
      exact asgTs_out h.2
end
/-- .. many slots -/
def wipeE (ρ : Env) : List Nat → Env
  | [] => ρ
  | v :: vs => (wipeE ρ vs).set v none
theorem asgT_wipes {t : Tg} {p : PV} {ρ : Env} : ∀ {vs : List Nat}, (∀ v ∈ vs, v ∈ tgSlots t) → asgT t p (wipeE ρ vs) = asgT t p ρ
  | [], _ => rfl
  | v :: vs, h => by
    unfold wipeE
    rw [asgT_wipe (h v List.mem_cons_self), asgT_wipes fun w hw => h w (List.mem_cons_of_mem _ hw)]
theorem wipeE_len {ρ : Env} : ∀ {vs : List Nat}, (wipeE ρ vs).length = ρ.length
  | [] => rfl
  | v :: vs => by unfold wipeE; rw [List.length_set, wipeE_len]
theorem wipeE_get {ρ : Env} {i : Nat} {p : PV} : ∀ {vs : List Nat}, (wipeE ρ vs)[i]? = some (some p) → ρ[i]? = some (some p) ∧ i ∉ vs
  | [], h => ⟨h, by simp⟩
  | v :: vs, h => by
    unfold wipeE at h
    by_cases hi : v = i
    · subst hi
      by_cases hv : v < (wipeE ρ vs).length
      · rw [List.getElem?_set_self hv] at h; cases h
      · rw [List.getElem?_eq_none (by simpa using hv)] at h; cases h
    · rw [List.getElem?_set_ne hi] at h
      obtain ⟨h1, h2⟩ := wipeE_get h
      exact ⟨h1, by simp only [List.mem_cons, not_or]; exact ⟨fun e => hi e.symm, h2⟩⟩
theorem wipe_out' {σ : L2.St} {i : Nat} : ∀ {vs : List Nat}, i ∉ vs → (wipe σ vs)[i]? = σ[i]?
  | [], _ => rfl
  | v :: vs, h => by
    simp only [List.mem_cons, not_or] at h
    unfold wipe
    rw [List.getElem?_set_ne (fun z => h.1 z.symm), wipe_out' h.2]
theorem REnv.wipe {C : Ct} {ι : List Addr} {H : Hp} {σ : L2.St} {ρ : Env} (r : REnv C ι H σ ρ) (vs : List Nat) : REnv C ι H (L2.wipe σ vs) (wipeE ρ vs) := fun i v e => by
  obtain ⟨h1, h2⟩ := wipeE_get e
  obtain ⟨x, e1, e2⟩ := r i v h1
  exact ⟨x, by rw [wipe_out' h2]; exact e1, e2⟩
end
end PM
set_option Elab.async false
set_option linter.all false
set_option maxRecDepth 100000
set_option maxHeartbeats 4000000
/-! PM16: comprehensions. -/
namespace PM
open PySem PySem.Spec PyProof.Rows L2 LamX
/-- a comprehension's turn -/
def cmF (c : Cfg) (t : Tg) (cnd : Option E) (e : E) (ρ : Env) : PV → Store → R (Option PV) := fun x st => match asgT t x ρ with
  | none => .bad
  | some ρ' => bnd (match cnd with | none => .ok true st | some d => nox ((ev { c with Φ := fun _ => c.Φ ρ } d).t ρ' st)) fun b st =>
      if b then bnd (nox ((ev { c with Φ := fun _ => c.Φ ρ } e).v ρ' st)) fun y st => .ok (some y) st else .ok none st
def loopG (f : PV → Store → R (Option PV)) : ItV → Nat → Nat → Store → R (List PV)
  | .fix xs, _, i, st => loopC f (xs.drop i) st
  | .dyn n, m, i, st => loopD f n m i st
def fuelI (W : Nat) : ItV → Nat
  | .fix xs => xs.length
  | .dyn _ => W
def cmM (c : Cfg) (t : Tg) (it : It) (cnd : Option E) (e : E) : Env → Store → R (List PV) := fun ρ st => bnd (evI c it ρ st) fun I st => loopG (cmF c t cnd e ρ) I (fuelI c.W I) 0 st
theorem ev_cm (c : Cfg) (t : Tg) (it : It) (cnd : Option E) (e : E) (ρ : Env) (st : Store) : (ev c (.cm t it cnd e)).v ρ st = bnd (cmM c t it cnd e ρ st) fun ys st => .ok (.lst ys) st := by
  unfold cmM
  rw [bnd_assoc]
  simp only [ev, plain]
  congr 1
  funext I st1
  cases I <;> rfl
def putO (acc : List PV) : Option PV → List PV
  | some y => acc ++ [y]
  | none => acc
theorem loopG_eq {f : PV → Store → R (Option PV)} {I : ItV} {m i : Nat} {st : Store} {acc : List PV} (o : okI I m i) :
    bnd (loopG f I m i st) (fun ys st => .ok (acc ++ ys) st) = match nextI I m i st with
      | none => .bad
      | some none => .ok acc st
      | some (some x) => bnd (f x st) fun o st => bnd (loopG f I (m - 1) (i + 1) st) fun ys st => .ok (putO acc o ++ ys) st := by
  have fin : ∀ (r : R (Option PV)) (g : Store → R (List PV)), bnd (bnd r fun o st => bnd (g st) fun ys st => .ok (match o with | some y => y :: ys | none => ys) st) (fun ys st => .ok (acc ++ ys) st) = bnd r fun o st => bnd (g st) fun ys st => .ok (putO acc o ++ ys) st := by
    intro r g
    rw [bnd_assoc]
    congr 1
    funext o st1
    rw [bnd_assoc]
    congr 1
    funext ys st2
    cases o with
    | none => rfl
    | some y => simp [putO]
  cases I with
  | fix xs =>
    obtain ⟨o1, o2⟩ := o
    simp only [nextI, loopG]
    cases e : xs[i]? with
    | none =>
      rw [List.drop_eq_nil_of_le (List.getElem?_eq_none_iff.mp e)]
      show R.ok (acc ++ []) st = R.ok acc st
      rw [List.append_nil]
    | some x =>
      obtain ⟨h1, h2⟩ := List.getElem?_eq_some_iff.mp e
      rw [List.drop_eq_getElem_cons h1, h2]
      exact fin (f x st) fun st => loopC f (xs.drop (i + 1)) st
  | dyn n =>
    cases m with
    | zero => rfl
    | succ k =>
      simp only [nextI, loopG, loopD]
      cases e1 : st[n]? with
      | none => rfl
      | some ob =>
        cases ob with
        | dct _ _ => rfl
        | lst xs =>
          simp only
          cases e2 : xs[i]? with
          | none =>
            show R.ok (acc ++ []) st = R.ok acc st
            rw [List.append_nil]
          | some x => exact fin (f x st) fun st => loopD f n k (i + 1) st
section
variable {C : Ct} {ι : List Addr} {H : Hp}
theorem mv_kill0 {p : Addr} (hp : H p = none) : Mv C (C.kill p) ι ι H H ι.length C.γ.length :=
  ⟨rfl, rfl, fun a u h _ _ => h, fun a u h n => ⟨n.1, fun z => by
    rcases List.mem_cons.mp z with z | z
    · rw [z, hp] at h; cases h
    · exact n.2 z⟩, fun _ _ _ e => e, fun _ _ _ e => e⟩
theorem Rep.kill0 {p : Addr} {x : V} {v : PV} (hp : H p = none) (r : Rep C ι H x v) : Rep (C.kill p) ι H x v := r.mv (mv_kill0 hp) r.cokR
theorem REnv.kill0 {p : Addr} {σ : L2.St} {ρ : Env} (hp : H p = none) (r : REnv C ι H σ ρ) : REnv (C.kill p) ι H σ ρ := fun i v e => by
  obtain ⟨x, e1, e2⟩ := r i v e
  exact ⟨x, e1, e2.kill0 hp⟩
end
section
variable {D : PD} {d : Nat} {S : SS} {X : Cx} {F : Fm} {c : Cfg}
theorem cellsV_keep {N : List Str} {sc : Scope} {cells : List (Str × Addr)} {σ : L2.St} {ex ex' fs : List Addr} {h h' : Heap} {H H' : Hp} (k : CellsV N sc cells σ ex h H) (u : Un fs ex H H' h h') (hx : ∀ a v, h'.IsCell a v → a ∉ ex') : CellsV N sc cells σ ex' h' H' := fun i x v e1 e2 e3 => by
  obtain ⟨a, w, l, r, ⟨o, ho, hd⟩, n, nx⟩ := k i x v e1 e2 e3
  obtain ⟨sl, q⟩ := u.any ho n nx
  exact ⟨a, w, l, r, ⟨_, q, hd⟩, u.free a o ho n nx, hx a _ ⟨_, q, hd⟩⟩
theorem cellsT_keep {cells : List (Str × Addr)} {ex ex' fs : List Addr} {h h' : Heap} {H H' : Hp} (k : CellsT cells ex h H) (u : Un fs ex H H' h h') (hx : ∀ a v, h'.IsCell a v → a ∉ ex') : CellsT cells ex' h' H' := fun x a e => by
  obtain ⟨⟨v, ⟨o, ho, hd⟩⟩, n, nx⟩ := k x a e
  obtain ⟨sl, q⟩ := u.any ho n nx
  exact ⟨⟨v, ⟨_, q, hd⟩⟩, u.free a o ho n nx, hx a _ ⟨_, q, hd⟩⟩
theorem own_cells {pins : List (Addr × Obj)} {s : Shared} {σ : L2.St} {H : Hp} {ex : List Addr} (I : L2.Inv X pins σ H s) (hx : ∀ a v, s.heap.IsCell a v → a ∉ ex) : CellsV X.N X.env.scope X.env.cells σ ex s.heap H ∧ CellsT X.env.cells ex s.heap H := by
  refine ⟨fun i x v e1 e2 e3 => ?_, fun x a e => ?_⟩
  · obtain ⟨m, hn, hl⟩ := I.loc
    obtain ⟨u, r, l⟩ := hl i x v e1 e3 (e2.elim (fun k => .inr (.inl k)) fun k => .inr (.inr k))
    rcases l with ⟨k, _⟩ | ⟨_, a, e, z⟩
    · have k : X.env.scope.names.lookup x = some .local := k
      rcases e2 with e2 | e2 <;> rw [e2] at k <;> cases k
    · exact ⟨a, u, e, r, z, I.freeC x a e, hx a _ z⟩
  · obtain ⟨v, z⟩ := I.cell x a e
    exact ⟨⟨v, z⟩, I.freeC x a e, hx a _ z⟩
/-- the knowledge of a comprehension's block -/
abbrev Fm.blk (F : Fm) (c : Cfg) (own : Bool) (σ : L2.St) (ρ : Env) (ι : List Addr) (H : Hp) (Dd : Addr) : Fm := { C := F.C.kill Dd, T := F.T, ι0 := ι, H0 := H, W := fun _ _ _ _ => False, Z0 := if own then F.Z0 ++ [σ] else F.Z0, Φ0 := c.Φ ρ }
theorem takes_no {X : Cx} : Takes X (fun _ _ _ _ => False) := fun _ _ x => by
  obtain ⟨_, _, _, _, _, _, _, _, _, _, _, _, _, _, _, _, z⟩ := x
  exact z.elim
/-- a comprehension's block is a good context -/
theorem Good.blkG (g : Good D d S X F c) {scope : Scope} {s3 : Shared} {σ : L2.St} {ρ : Env} {st2 : Store} {ι2 : List Addr} {H2 H3 : Hp} {Dd : Addr} {ce : PySem.Env} {fp : List Addr} {pins : List (Addr × Obj)} (I3 : L2.Inv X pins σ H3 s3) (R2 : F.Rl ρ st2 ι2 σ H2) (hD : H2 Dd = none) (hce : ce.scope = relS scope X.env.scope)
    (hfp : ∀ a v, s3.heap.IsCell a v → a ∉ fp) : Good D d (S.blk scope) (X.blk s3 H3 scope ce fp) (F.blk c S.own σ ρ ι2 H2 Dd) { c with Φ := fun _ => c.Φ ρ } := by
  have lΦ : (c.Φ ρ).length = if S.own then F.Φ0.length + 1 else F.Φ0.length := by
    cases e : S.own with
    | true => rw [(g.own e).2.2]; simp
    | false => rw [(g.blk e).2]; simp
  refine ⟨g.prog, g.w, g.K, g.mg, g.base, g.calm, g.gds, g.room, g.N, g.nd, by show ce.scope = relS scope S.sc; rw [hce, g.sc], rfl, g.Fk, g.FcA, g.FT, takes_no, g.nb, g.cf, g.cl, fun z => (by cases z), ?_, fun z => (by cases z), fun _ => ⟨?_, fun _ => rfl⟩, fun lv σl ρl e1 e2 => ?_, fun lv σl N sc cells e1 e2 => ?_, g.lvok, fun z => (by cases z)⟩
  · show (if S.own then F.Z0 ++ [σ] else F.Z0).length = (c.Φ ρ).length
    rw [lΦ]
    cases S.own with
    | true => simp [g.lZ]
    | false => simp [g.lZ]
  · show F.C.γ.length = (c.Φ ρ).length
    rw [lΦ]
    cases e : S.own with
    | true => rw [(g.own e).1]; rfl
    | false => rw [(g.blk e).1]; rfl
  · have old : ∀ {lv : Nat} {σl : L2.St} {ρl : Env}, F.Z0[lv]? = some σl → F.Φ0[lv]? = some ρl → REnv (F.C.kill Dd) ι2 H2 σl ρl ∧ ρl.length = σl.length := fun a b => by
      obtain ⟨r, l⟩ := g.lev _ _ _ a b
      exact ⟨(r.mono R2.fr0).kill0 hD, l⟩
    have e1 : (if S.own then F.Z0 ++ [σ] else F.Z0)[lv]? = some σl := e1
    have e2 : (c.Φ ρ)[lv]? = some ρl := e2
    show REnv (F.C.kill Dd) ι2 H2 σl ρl ∧ _
    cases e : S.own with
    | false =>
      rw [(g.blk e).2] at e2
      rw [e] at e1
      exact old e1 e2
    | true =>
      rw [(g.own e).2.2] at e2
      rw [e] at e1
      have e1 : (F.Z0 ++ [σ])[lv]? = some σl := e1
      by_cases hl : lv < F.Φ0.length
      · rw [List.getElem?_append_left hl] at e2
        rw [List.getElem?_append_left (by rw [g.lZ]; exact hl)] at e1
        exact old e1 e2
      · rw [List.getElem?_append_right (by omega)] at e2
        rw [List.getElem?_append_right (by rw [g.lZ]; omega), g.lZ] at e1
        have z : lv - F.Φ0.length = 0 := by
          have := (List.getElem?_eq_some_iff.mp e2).1
          simp at this
          omega
        rw [z] at e1 e2
        cases e1
        cases e2
        exact ⟨R2.env.kill0 hD, R2.len⟩
  · have e1 : (if S.own then F.Z0 ++ [σ] else F.Z0)[lv]? = some σl := e1
    have e2 : F.C.γ[lv]? = some (N, sc, cells) := e2
    show CellsV N sc cells σl fp s3.heap H3 ∧ CellsT cells fp s3.heap H3 ∧ _
    have old : F.Z0[lv]? = some σl → CellsV N sc cells σl fp s3.heap H3 ∧ CellsT cells fp s3.heap H3 ∧ σl.length = N.length := fun a => by
      obtain ⟨k1, k2, k3⟩ := g.cells lv σl N sc cells a e2
      exact ⟨cellsV_keep k1 I3.base hfp, cellsT_keep k2 I3.base hfp, k3⟩
    cases e : S.own with
    | false => rw [e] at e1; exact old e1
    | true =>
      rw [e] at e1
      have e1 : (F.Z0 ++ [σ])[lv]? = some σl := e1
      by_cases hl : lv < F.Z0.length
      · rw [List.getElem?_append_left hl] at e1
        exact old e1
      · rw [List.getElem?_append_right (by omega)] at e1
        have z : lv - F.Z0.length = 0 := by
          have := (List.getElem?_eq_some_iff.mp e1).1
          simp at this
          omega
        rw [z] at e1
        cases e1
        have hlv : lv = F.Φ0.length := by rw [← g.lZ]; omega
        rw [hlv, (g.own e).2.1] at e2
        cases e2
        obtain ⟨k1, k2⟩ := own_cells I3 hfp
        exact ⟨k1, k2, I3.len⟩
theorem AftN.bad {F : Fm} {ρ : Env} {ι : List Addr} {σ : L2.St} {H : Hp} {Q : VK} (h : AftN F ρ ι σ H .bad Q) : False := h
/-- the comprehension -/
theorem cm_core (g : Good D d S X F c) {pins : List (Addr × Obj)} {s : Shared} {σ : L2.St} {H : Hp} {Q : VK} {elt tg iter : Expr} {ifs : List Expr} {scope : Scope} {pos pos' : Pos} {t : Tg} {it : It} {cnd : Option E} {e' : E} {n : Nat} {use : Option (Value → Sem Unit)} {Qf : Value → Shared → Prop}
    (I : L2.Inv X pins σ H s) (hi : PI X tg iter (iM F (evI c it))) (ok : BlkOk X.N X.env.scope scope (ownOf S.N scope.names)) (ht : trT (S.blk scope) n tg = some t)
    (ho : ∀ p ∈ ownOf S.N scope.names, p.2 ∈ tgSlots t) (ho2 : ∀ i ∈ tgSlots t, i ∈ (ownOf S.N scope.names).map (·.2))
    (hc : (ifs = [] ∧ cnd = none) ∨ ∃ q q', ifs = [q] ∧ cnd = some q' ∧ ∀ X' F' c', Good D d (S.blk scope) X' F' c' → PT X' q (tT F' (ev c' q').t))
    (he : ∀ X' F' c', Good D d (S.blk scope) X' F' c' → PE X' elt (tE F' (ev c' e').v)) (hs : ∀ x, foldedSetIterable iter X.env x = pure x)
    (h : tN F (cmM c t it cnd e') σ H Q)
    (hRR : ∀ D C s' m H', L2.Inv X pins σ H' s' → Q (.ref D) H' → s'.heap.Ns C m → FpOk X pins H' C → compPost (model X.prog X.w) X.A X.xe use Qf (.ref D) C (.ok .next) s') :
    wpAny (model X.prog X.w) X.A (comprehension (.ListComp elt [⟨tg, iter, ifs, 0⟩] scope pos) scope X.env pos' (newList []) false (eval iter X.env) use) Qf X.xe s := by
  have hfree : ∀ y ∈ scope.names, y.2 = .free → ∃ c, X.env.cells.lookup y.1 = some c := fun y hy e => by
    rcases ok.free y hy e with k | k
    · exact I.ok.has _ (.inl k)
    · exact I.ok.has _ (.inr k)
  obtain ⟨ρ, st, ι, R, h⟩ := h
  refine wpAny_comprehension_free (use := use) rfl hs (closure_ok hfree) ok.kind (fun y hy e => by rw [ok.uniq y hy, e])
    (thn (hi.run pins s σ H (fun J H2 => ∃ ι2 st2 VI, Step ι H ι2 H2 ∧ F.Rl ρ st2 ι2 σ H2 ∧ JV F.C ι2 H2 J VI ∧ AftN F ρ ι2 σ H2 (loopG (cmF c t cnd e' ρ) VI (fuelI c.W VI) 0 st2) Q) I ⟨ρ, st, ι, R, ?_⟩) fun xv s1 hx => thn hx fun itv s2 h2 => ?_)
  · have h : AftN F ρ ι σ H (bnd (evI c it ρ st) fun I st => loopG (cmF c t cnd e' ρ) I (fuelI c.W I) 0 st) Q := h
    revert h
    cases evI c it ρ st with
    | ok VI st2 => exact fun h J ι2 H2 s2 R2 j => ⟨ι2, st2, VI, s2, R2, j, AftN.step h s2⟩
    | exc k v st' => exact fun h => h
    | bad => exact fun h => h
  obtain ⟨it, fp, tn, J, H2, e, I2, T, st20, f2, ι2, st2, VI, s02, R2, jv, hA⟩ := h2
  subst e
  refine wpAny_newObj_type (newEnv_comp ?_) (by show 0 ≤ sizeLine; decide)
  generalize hD : s2.heap.objs.size = Dd
  have hDn : H2 Dd = none := I2.hok.fresh (Nat.le_of_eq hD)
  generalize hs3 : ({ s2 with heap := s2.heap.push { cls := .type "list", data := .seq ([] : List Value).toArray } } : Shared) = s3
  have I3 : L2.Inv X pins σ (upd H2 Dd (.lst [])) s3 := by
    rw [← hs3]
    refine I2.laid (t' := s2.toks) (fun b o e => Heap.get?_push_of_some _ e) (Nat.le_of_eq hD) ⟨Nat.zero_le _, [], 0, .nil, ?_⟩
    rw [← hD]
    exact Heap.get?_push_size _ rfl
  have h3 : s3.heap = s2.heap.push { cls := .type "list", data := .seq ([] : List Value).toArray } := by rw [← hs3]
  have sz : ∀ b ∈ fp, b < s2.heap.objs.size := fun b hb => by
    obtain ⟨o, e, _⟩ := T.obj _ _ st20 b hb
    exact Heap.lt_size e
  have f3 : ∀ b ∈ fp, FpOk X pins (upd H2 Dd (.lst [])) b ∧ b < s3.heap.objs.size := fun b hb => by
    have hlt := sz b hb
    refine ⟨⟨?_, (f2 b hb).2⟩, by rw [h3, Heap.size_push]; exact Nat.lt_succ_of_lt hlt⟩
    rw [upd_ne (by rw [← hD]; exact Nat.ne_of_lt hlt)]
    exact (f2 b hb).1
  have st3 : tn 0 s3.heap := T.keep _ _ _ st20 fun b _ o e => by rw [h3]; exact Heap.get?_push_of_some _ e
  have fpc : ∀ a v, s3.heap.IsCell a v → a ∉ fp := fun a v ⟨o, ho, hd⟩ hb => by
    obtain ⟨o', e, nd⟩ := T.obj _ _ st3 a hb
    rw [ho] at e
    cases e
    exact nd v hd
  have I4 := block_start I3 ok (by rw [g.N]; exact g.nd) f3
  show codeAny _ _ (.compStart (.ListComp elt [⟨tg, iter, ifs, 0⟩] scope pos) 0 (.ref it) (.ref Dd) (compEnvC scope (cellsFrom (s3.heap.objs.size + 1) scope.names (cloFrom X.env.cells scope.names [])) s3.heap.objs.size X.env)) (compPost (model X.prog X.w) X.A X.xe use Qf (.ref Dd) s3.heap.objs.size) { s3 with heap := pushCells (s3.heap.push { cls := .type "dict", data := .dict #[] }) scope.names }
  have nfp : ∀ b ∈ fp, (upd H2 Dd (.lst [])) b = none := fun b hb => (f3 b hb).1.1
  generalize hce : compEnvC scope (cellsFrom (s3.heap.objs.size + 1) scope.names (cloFrom X.env.cells scope.names [])) s3.heap.objs.size X.env = ce at I4 ⊢
  have cL : ce.locals = s3.heap.objs.size := by subst hce; rfl
  have cS : ce.scope = relS scope X.env.scope := by subst hce; rfl
  generalize hH3 : upd H2 Dd (.lst []) = H3 at I3 I4 nfp f3
  have gb : Good D d (S.blk scope) (X.blk s3 H3 scope ce fp) (F.blk c S.own σ ρ ι2 H2 Dd) { c with Φ := fun _ => c.Φ ρ } := g.blkG I3 R2 hDn cS fpc
  have pg := t_ok gb ht
  have pe := he _ _ _ gb
  generalize hs4 : ({ s3 with heap := pushCells (s3.heap.push { cls := .type "dict", data := .dict #[] }) scope.names } : Shared) = s4 at I4 ⊢
  have st4 : tn 0 s4.heap := T.keep _ _ _ st3 fun b _ o e => by rw [← hs4]; exact pushCells_keeps _ _ _ _ (Heap.get?_push_of_some _ e)
  generalize hvs : (ownOf S.N scope.names).map (·.2) = vs at I4 ho2
  have hvt : ∀ v ∈ vs, v ∈ tgSlots t := fun v hv => by
    rw [← hvs] at hv
    obtain ⟨p, hp, rfl⟩ := List.mem_map.mp hv
    exact ho p hp
  -- the frame's values through the block
  have RE : ∀ {ι' : List Addr} {H' : Hp}, Step ι2 H2 ι' H' → REnv (F.C.kill Dd) ι' H' σ ρ := fun s => (R2.env.kill0 hDn).mono s
  have stat : ∀ {σ' : L2.St} {H' : Hp} {s' : Shared}, L2.Inv (X.blk s3 H3 scope ce fp) [] σ' H' s' → (∀ b ∈ fp, H' b = none) → ∀ b ∈ fp, FpOk (X.blk s3 H3 scope ce fp) [] H' b := fun {σ' H' s'} I' hn b hb =>
    ⟨hn b hb, (I'.ok.exf b hb).1, I'.ok.exfs b hb, .inl hb, fun x c e => (I'.ok.exf b hb).2 x c e, fun p hp => absurd (show p ∈ ([] : List (Addr × Obj)) ++ [] from hp) (by simp)⟩
  -- what holds ahead of the turn i
  have loop : codeAny (model X.prog X.w) X.A (.compLoop (.ListComp elt [⟨tg, iter, ifs, 0⟩] scope pos) 0 (.ref it) (.ref Dd) ce) (compPost (model X.prog X.w) X.A X.xe use Qf (.ref Dd) s3.heap.objs.size) s4 := by
    refine compLoop_any (fun n s' => ∃ (i : Nat) (H' : Hp) (ι' : List Addr) (st' : Store) (xs : List V) (acc : List PV), L2.Inv (X.blk s3 H3 scope ce fp) [] (wipe σ vs) H' s' ∧ tn i s'.heap ∧ (∀ b ∈ fp, H' b = none) ∧
      (F.blk c S.own σ ρ ι2 H2 Dd).Rl (wipeE ρ vs) st' ι' (wipe σ vs) H' ∧ JV (F.C.kill Dd) ι' H' J VI ∧ H' Dd = some (.lst xs) ∧ Reps (F.C.kill Dd) ι' H' xs acc ∧ acc.length ≤ i ∧ okI VI n i ∧
      AftN F ρ ι2 σ H2 (bnd (loopG (cmF c t cnd e' ρ) VI n i st') fun ys st => .ok (acc ++ ys) st) Q) ?_ (fuelI c.W VI) ⟨0, H3, ι2, st2, [], [], I4, st4, nfp, ?_, ?_, ?_, .nil, Nat.le_refl _, ?_, ?_⟩
    · rintro n s5 ⟨i, H5, ι5, st5, xs, acc, I5, tn5, n5, R5, j5, hd5, ra, hl, hok, hA5⟩
      rw [loopG_eq hok] at hA5
      cases hn : nextI VI n i st5 with
      | none => rw [hn] at hA5; exact hA5.elim
      | some op =>
        rw [hn] at hA5
        cases op with
        | none =>
          have td := T.done (X.blk s3 H3 scope ce fp) rfl rfl rfl g.calm i [] s5 _ H5 (fun _ _ => False) I5 (stat I5 n5) tn5 (j5.last R5 hn hok)
          refine thnF td fun r s6 ⟨hr, I6⟩ => ?_
          subst hr
          have I7 : L2.Inv X pins σ H5 s6 := I3.call' (ch := fp) I6.os I6.base I6.hok I6.bare fun b hb => ⟨(f3 b hb).1.2.2.2.1, (f3 b hb).1.2.1, (f3 b hb).1.2.2.2.2.1, (f3 b hb).1.2.2.2.2.2⟩
          have nC : H5 s3.heap.objs.size = none := by
            have z : H5 ce.locals = none := I6.free
            rw [cL] at z
            exact z
          obtain ⟨m, hn, _⟩ := I6.loc
          have hn : s6.heap.Ns ce.locals m := hn
          rw [cL] at hn
          have hA6 : AftN F ρ ι2 σ H2 (.ok acc st5) Q := hA5
          refine hRR Dd s3.heap.objs.size s6 m H5 I7 ?_ hn (I3.fpOk (Nat.le_refl _) nC)
          exact hA6 Dd xs ι5 H5 R5.fr0 ⟨R5.rst, RE R5.fr0, R5.tab, R5.tni, R2.fr0.trans R5.fr0, R2.len, R5.ded, R5.low, R5.lown⟩ (R2.fr0.there _ hDn) hDn (fun z => by
            obtain ⟨_, o, ho⟩ := R2.ded Dd z
            rw [hDn] at ho; cases ho) hd5 ra
        | some p =>
          obtain ⟨go, yl⟩ := j5.next R5 hn
          have hlim := j5.lim I5 (show (X.blk s3 H3 scope ce fp).K = (F.C.kill Dd).K from g.K.trans g.Fk.symm) R5 hn
          have ti := T.item (X.blk s3 H3 scope ce fp) rfl rfl rfl g.calm i [] s5 _ H5 (fun _ _ => False) I5 (stat I5 n5) tn5 go
          refine thnF ti fun r s6 ⟨u, hr, h6⟩ => ?_
          subst hr
          refine thnF h6 fun _ s7 ⟨x, H7, I7, r7, y7, tn7, n7⟩ => ?_
          obtain ⟨s57, R7, rp⟩ := yl x H7 y7
          have I7' := I7.pinned (stat I7 n7) (T.obj _ _ tn7)
          have hA7 : AftN F ρ ι2 σ H2 (bnd (cmF c t cnd e' ρ p st5) fun o st => bnd (loopG (cmF c t cnd e' ρ) VI (n - 1) (i + 1) st) fun ys st => .ok (putO acc o ++ ys) st) Q := hA5
          unfold cmF at hA7
          cases ea : asgT t p ρ with
          | none => rw [ea] at hA7; exact hA7.elim
          | some ρ8 =>
            rw [ea] at hA7
            have ea' : asgT t p (wipeE ρ vs) = some ρ8 := by rw [asgT_wipes hvt]; exact ea
            have hd7 : H7 Dd = some (.lst xs) := s57.keep _ _ hd5 (R5.ded Dd List.mem_cons_self).1 fun ps z => by cases z
            refine thnF (pg.run _ s7 _ H7 x u (fun σ8 H8 => H8 = H7 ∧ (F.blk c S.own σ ρ ι2 H2 Dd).Rl ρ8 st5 ι5 σ8 H7 ∧ (∀ i, i ∉ tgSlots t → σ8[i]? = (wipe σ vs)[i]?) ∧ σ8.length = (wipe σ vs).length) I7' r7 ⟨wipeE ρ vs, st5, ι5, p, ρ8, R7, rp, ea', fun σ8 R8 k1 k2 => ⟨rfl, R8, k1, k2⟩⟩) fun _ s8 ⟨σ8, H8, I8, eH8, R8, k1, k2⟩ => ?_
            subst eH8
            -- back to the block's own values
            have weak8 : ∀ (i : Nat) (v : V), (wipe σ vs)[i]? = some (some v) → σ8[i]? = some (some v) := fun i v e => by
              by_cases hi : i ∈ tgSlots t
              · exact absurd (ho2 i hi) (wipe_some e).2
              · rw [k1 i hi]; exact e
            -- the turn's end
            have fin : ∀ {s' : Shared} {H' : Hp} {ι' : List Addr} {st' : Store} {xs' : List V} {acc' : List PV}, L2.Inv (X.blk s3 H3 scope ce fp) ([] ++ pinsAt fp s7.heap) σ8 H' s' → (F.blk c S.own σ ρ ι2 H2 Dd).Rl ρ8 st' ι' σ8 H' → JV (F.C.kill Dd) ι' H' J VI → H' Dd = some (.lst xs') →
                Reps (F.C.kill Dd) ι' H' xs' acc' → acc'.length ≤ i + 1 → AftN F ρ ι2 σ H2 (bnd (loopG (cmF c t cnd e' ρ) VI (n - 1) (i + 1) st') fun ys st => .ok (acc' ++ ys) st) Q →
                ∃ m, m < n ∧ ∃ (i : Nat) (H' : Hp) (ι' : List Addr) (st' : Store) (xs : List V) (acc : List PV), L2.Inv (X.blk s3 H3 scope ce fp) [] (wipe σ vs) H' s' ∧ tn i s'.heap ∧ (∀ b ∈ fp, H' b = none) ∧
                  (F.blk c S.own σ ρ ι2 H2 Dd).Rl (wipeE ρ vs) st' ι' (wipe σ vs) H' ∧ JV (F.C.kill Dd) ι' H' J VI ∧ H' Dd = some (.lst xs) ∧ Reps (F.C.kill Dd) ι' H' xs acc ∧ acc.length ≤ i ∧ okI VI m i ∧
                  AftN F ρ ι2 σ H2 (bnd (loopG (cmF c t cnd e' ρ) VI m i st') fun ys st => .ok (acc ++ ys) st) Q := fun {s' H' ι' st' xs' acc'} I' R' j' hd' ra' hl' hA' => by
              have pin' : ∀ b ∈ fp, ∀ o, s7.heap.get? b = some o → s'.heap.get? b = some o ∧ H' b = none := fun b hb o e =>
                let z := I'.pin (b, o) (List.mem_append_right _ (List.mem_append_right _ (mem_pinsAt hb e)))
                ⟨z.1, z.2.1⟩
              obtain ⟨m1, m2⟩ := nextI_lt hn hok
              refine ⟨n - 1, m1, i + 1, H', ι', st', xs', acc', (I'.unpinned (pins := [])).weak k2.symm weak8, T.keep _ _ _ tn7 fun b hb o e => (pin' b hb o e).1, fun b hb => ?_,
                ⟨R'.rst, (RE R'.fr0).wipe vs, R'.tab, R'.tni, R'.fr0, by rw [wipeE_len, wipe_length, R2.len], R'.ded, R'.low, R'.lown⟩, j', hd', ra', hl', m2, hA'⟩
              obtain ⟨o, e, _⟩ := T.obj _ _ tn7 b hb
              exact (pin' b hb o e).2
            have j7 := j5.mono s57
            have ra7 := ra.mono s57
            -- the element, behind the test
            have elm : ∀ {s9 : Shared} {H9 : Hp} {ι9 : List Addr} {st9 : Store}, L2.Inv (X.blk s3 H3 scope ce fp) ([] ++ pinsAt fp s7.heap) σ8 H9 s9 → (F.blk c S.own σ ρ ι2 H2 Dd).Rl ρ8 st9 ι9 σ8 H9 → Step ι5 H8 ι9 H9 →
                AftN F ρ ι2 σ H2 (bnd (bnd (nox ((ev { c with Φ := fun _ => c.Φ ρ } e').v ρ8 st9)) fun y st => .ok (some y) st) fun o st => bnd (loopG (cmF c t cnd e' ρ) VI (n - 1) (i + 1) st) fun ys st => .ok (putO acc o ++ ys) st) Q →
                wpAny (model X.prog X.w) X.A (eval elt ce) (fun x s₄ => wpAny (model X.prog X.w) X.A (call (.builtin "list.append") [.ref Dd, x]) (fun _ s₅ => ∃ m, m < n ∧ ∃ (i : Nat) (H' : Hp) (ι' : List Addr) (st' : Store) (xs : List V) (acc : List PV), L2.Inv (X.blk s3 H3 scope ce fp) [] (wipe σ vs) H' s₅ ∧ tn i s₅.heap ∧ (∀ b ∈ fp, H' b = none) ∧
                  (F.blk c S.own σ ρ ι2 H2 Dd).Rl (wipeE ρ vs) st' ι' (wipe σ vs) H' ∧ JV (F.C.kill Dd) ι' H' J VI ∧ H' Dd = some (.lst xs) ∧ Reps (F.C.kill Dd) ι' H' xs acc ∧ acc.length ≤ i ∧ okI VI m i ∧
                  AftN F ρ ι2 σ H2 (bnd (loopG (cmF c t cnd e' ρ) VI m i st') fun ys st => .ok (acc ++ ys) st) Q) (notedBy (model X.prog X.w) X.A ce fun e s' => compPost (model X.prog X.w) X.A X.xe use Qf (.ref Dd) s3.heap.objs.size (.error e) s') s₄) (notedBy (model X.prog X.w) X.A ce fun e s' => compPost (model X.prog X.w) X.A X.xe use Qf (.ref Dd) s3.heap.objs.size (.error e) s') s9 := fun {s9 H9 ι9 st9} I9 R9 s79 hA9 => by
              rw [bnd_assoc] at hA9
              cases er : (ev { c with Φ := fun _ => c.Φ ρ } e').v ρ8 st9 with
              | exc k v w => rw [er] at hA9; exact hA9.elim
              | bad => rw [er] at hA9; exact hA9.elim
              | ok y st10 =>
                rw [er] at hA9
                have hA10 : AftN F ρ ι2 σ H2 (bnd (loopG (cmF c t cnd e' ρ) VI (n - 1) (i + 1) st10) fun ys st => .ok ((acc ++ [y]) ++ ys) st) Q := hA9
                refine thnF (pe.run _ s9 σ8 H9 (fun yv H10 => ∃ ι10, Step ι9 H9 ι10 H10 ∧ (F.blk c S.own σ ρ ι2 H2 Dd).Rl ρ8 st10 ι10 σ8 H10 ∧ Rep (F.C.kill Dd) ι10 H10 yv y) I9 ⟨ρ8, st9, ι9, R9, ?_⟩) fun z s10 ⟨yv, H10, I10, r10, ι10, s910, R10, ry⟩ => ?_
                · show Aft _ _ _ _ _ _ ((ev { c with Φ := fun _ => c.Φ ρ } e').v ρ8 st9) _
                  rw [er]
                  exact fun x ι' H' s' R' r' => ⟨ι', s', R', r'⟩
                · have hd10 : H10 Dd = some (.lst xs) := (s79.trans s910).keep _ _ hd7 (R8.ded Dd List.mem_cons_self).1 fun ps z => by cases z
                  have ra10 := (ra7.mono (s79.trans s910)).append (.cons ry .nil)
                  refine app_ok (X := X.blk s3 H3 scope ce fp) I10 hd10 (by rw [ra.length]; omega) r10 fun s11 I11 => ?_
                  exact fin I11 (R10.untold hd10 List.mem_cons_self hDn) ((j7.mono (s79.trans s910)).untold List.mem_cons_self) upd_same (ra10.untold List.mem_cons_self) (by rw [List.length_append]; simp; omega) hA10
            rcases hc with ⟨rfl, rfl⟩ | ⟨q, q', rfl, rfl, hq⟩
            · refine thnF ((pts_nil (X := X.blk s3 H3 scope ce fp)).run _ s8 σ8 H8 (fun b H9 => b = true ∧ H9 = H8) I8 ⟨rfl, rfl⟩) fun b s9 ⟨H9, I9, eb, eH⟩ => ?_
              subst eb eH
              rw [if_pos rfl]
              exact elm I9 R8 Step.refl hA7
            · have hq' := hq _ _ _ gb
              cases er : (ev { c with Φ := fun _ => c.Φ ρ } q').t ρ8 st5 with
              | exc k v w =>
                have hA7 : AftN F ρ ι2 σ H2 (bnd (bnd (nox ((ev { c with Φ := fun _ => c.Φ ρ } q').t ρ8 st5)) _) _) Q := hA7
                rw [er] at hA7
                exact hA7.elim
              | bad =>
                have hA7 : AftN F ρ ι2 σ H2 (bnd (bnd (nox ((ev { c with Φ := fun _ => c.Φ ρ } q').t ρ8 st5)) _) _) Q := hA7
                rw [er] at hA7
                exact hA7.elim
              | ok b st9 =>
                have hA7 : AftN F ρ ι2 σ H2 (bnd (bnd (nox ((ev { c with Φ := fun _ => c.Φ ρ } q').t ρ8 st5)) _) _) Q := hA7
                rw [er] at hA7
                refine thnF ((pts_one hq').run _ s8 σ8 H8 (fun b' H9 => b' = b ∧ ∃ ι9, Step ι5 H8 ι9 H9 ∧ (F.blk c S.own σ ρ ι2 H2 Dd).Rl ρ8 st9 ι9 σ8 H9) I8 ⟨ρ8, st5, ι5, R8, ?_⟩) fun b' s9 ⟨H9, I9, eb, ι9, s89, R9⟩ => ?_
                · show Aft _ _ _ _ _ _ ((ev { c with Φ := fun _ => c.Φ ρ } q').t ρ8 st5) _
                  rw [er]
                  exact fun x ι' H' s' R' r' => ⟨r', ι', s', R'⟩
                · subst eb
                  cases b' with
                  | true =>
                    rw [if_pos rfl]
                    exact elm I9 R9 s89 hA7
                  | false =>
                    rw [if_neg Bool.false_ne_true]
                    have hd9 : H9 Dd = some (.lst xs) := s89.keep _ _ hd7 (R8.ded Dd List.mem_cons_self).1 fun ps z => by cases z
                    exact fin I9 R9 (j7.mono s89) hd9 (ra7.mono s89) (by omega) hA7
    · rw [← hH3]
      have K := R2.kill (xs := []) hDn
      exact ⟨K.rst, K.env.wipe vs, K.tab, K.tni, step_new hDn, by rw [wipeE_len, wipe_length]; exact K.len, K.ded, K.low, K.lown⟩
    · rw [← hH3]; exact jv.kill hDn
    · rw [← hH3]; exact upd_same
    · cases VI with
      | fix xs => exact ⟨Nat.zero_le _, rfl⟩
      | dyn n => exact True.intro
    · have : (bnd (loopG (cmF c t cnd e' ρ) VI (fuelI c.W VI) 0 st2) fun ys st => PM.R.ok (([] : List PV) ++ ys) st) = loopG (cmF c t cnd e' ρ) VI (fuelI c.W VI) 0 st2 := by
        cases loopG (cmF c t cnd e' ρ) VI (fuelI c.W VI) 0 st2 <;> rfl
      rw [this]
      exact hA
  exact codeAny_compStart_list loop (T.self X.A 0 _ _ _ st4 loop)
end
end PM
set_option Elab.async false
set_option linter.all false
set_option maxRecDepth 100000
set_option maxHeartbeats 4000000
/-! PM17: a lambda is made; all expressions are sound. -/
namespace PM
open PySem PySem.Spec PyProof.Rows L2 LamX
theorem Rel.ext {C : Ct} {T : List (Addr × Str)} {ι0 ι : List Addr} {H0 H H1 : Hp} {ρ : Env} {st : Store} {σ : L2.St} (R : Rel C T ι0 H0 ρ st ι σ H) (e : ExtN H H1) (t : Tabs T H1) (th : ∀ a, H1 a = none → H a = none) : Step ι H ι H1 ∧ Rel C T ι0 H0 ρ st ι σ H1 := by
  have s : Step ι H ι H1 := ⟨⟨[], by simp, by simp⟩, fun a o h _ n => e a o h n, th⟩
  refine ⟨s, R.rst.mono s fun a ha => ?_, R.env.mono s, t, R.tni, R.fr0.trans s, R.len, fun d hd => ⟨(R.ded d hd).1, ?_⟩, R.low, R.lown⟩
  · obtain ⟨n, hn⟩ := List.getElem?_of_mem ha
    obtain ⟨ob, _, h⟩ := R.rst.at hn
    cases ob with
    | lst qs => obtain ⟨_, xs, h, _⟩ := h; rw [h]; exact e a _ h fun ps z => by cases z
    | dct ks vs => obtain ⟨_, _, kvs, h, _⟩ := h; rw [h]; exact e a _ h fun ps z => by cases z
  · obtain ⟨xs, h⟩ := (R.ded d hd).2
    exact ⟨xs, e d _ h fun ps z => by cases z⟩
theorem lamB_free {sc scope : Scope} (h : lamB sc scope = true) : scope.kind = .function ∧ scope.isCoroutine = false ∧ scope.isGenerator = false ∧ ∀ y ∈ scope.names, y.2 = .free → sc.names.lookup y.1 = some .cell ∨ sc.names.lookup y.1 = some .free := by
  unfold lamB at h
  simp only [Bool.and_eq_true, Bool.not_eq_true', List.all_eq_true] at h
  obtain ⟨⟨⟨h1, h2⟩, h3⟩, h4⟩ := h
  refine ⟨?_, h2, h3, fun y hy e => ?_⟩
  · cases hk : scope.kind <;> first | rfl | (rw [hk] at h1; cases h1)
  · have q := h4 y hy
    rw [e] at q
    cases hl : sc.names.lookup y.1 with
    | none => rw [hl] at q; cases q
    | some k => rw [hl] at q; cases k <;> first | (exact .inl rfl) | (exact .inr rfl) | cases q
section
variable {D : PD} {d : Nat} {S : SS} {X : Cx} {F : Fm} {c : Cfg}
/-- a lambda is made -/
theorem e_lam (g : Good D d S X F c) {params : Arguments} {body : Expr} {scope : Scope} {pos : Pos} (ho : S.own = true) (hl : S.lam = true) (hb : lamB S.sc scope = true) (hp : noPos params = true) :
    PE X (.Lambda params body scope pos) (tE F fun _ st => .ok (.clo ⟨S.qual ++ "<lambda>", params, body, scope, S.N⟩ c.lv) st) := by
  refine ⟨fun pins s σ H Q I ⟨ρ, st, ι, R, h⟩ => ?_⟩
  obtain ⟨hq, cc, P, TB, hcode, hm, hu⟩ := g.lam hl
  have hT : Tabs D.T H := by rw [← g.FT]; exact R.tab
  obtain ⟨b1, b2, b3, b4⟩ := lamB_free hb
  have hfree : ∀ y ∈ scope.names, y.2 = .free → ∃ c, X.env.cells.lookup y.1 = some c := fun y hy e => by
    rcases b4 y hy e with k | k
    · exact I.ok.has _ (.inl (by show X.env.scope.names.lookup y.1 = _; rw [g.sc]; exact k))
    · exact I.ok.has _ (.inr (by show X.env.scope.names.lookup y.1 = _; rw [g.sc]; exact k))
  have hdef : defaultsOf params X.env = ([], []) := by
    obtain ⟨a1, a2, a3, a4, a5, a6, a7⟩ := params
    cases a5 with
    | cons _ _ => cases hp
    | nil =>
      cases a7 with
      | cons _ _ => cases hp
      | nil => rfl
  rw [← hq] at hm hu
  obtain ⟨ps, hP, ht, ha⟩ := hT _ hm
  obtain ⟨γ1, γ2, γ3⟩ := g.own ho
  -- the end, the function's object new behind h'
  have fin : ∀ (H1 : Hp) (h' : Heap) (tk : Nat) (c' : Addr) (pm ctv : Value), L2.Inv X pins σ H1 { s with heap := h', toks := tk } → ExtN H H1 → Tabs D.T H1 → (∀ a, H1 a = none → H a = none) → H1 c' = some (CodeO c' (X.env.qual ++ "<lambda>")) → H c' = none ∨ (∃ o, H c' = some o ∧ ∀ ps, o ≠ .tbl ps) → c' ∉ ι → c' ∉ F.C.dead →
      EP X pins σ Q (.ref h'.objs.size) { s with heap := h'.push (PySem.W.kla_obj "<lambda>" (X.env.qual ++ "<lambda>") params body scope (cloFrom X.env.cells scope.names []) pm c' ctv), toks := tk } := fun H1 h' tk c' pm ctv I1 eN T1 th hc' _ nι nd => by
    have hf1 : H1 h'.objs.size = none := I1.hok.fresh (Nat.le_refl _)
    obtain ⟨s1, R1⟩ := R.ext eN (by rw [g.FT]; exact T1) th
    have I2 := I1.laid (a := h'.objs.size) (o := CloO h'.objs.size ⟨X.env.qual ++ "<lambda>", params, body, scope, S.N⟩ X.env.cells c') (t' := tk) (h' := h'.push (PySem.W.kla_obj "<lambda>" (X.env.qual ++ "<lambda>") params body scope (cloFrom X.env.cells scope.names []) pm c' ctv)) (fun b o e => Heap.get?_push_of_some _ e) (Nat.le_refl _)
      ⟨⟨pm, ctv, Heap.get?_push_size _ rfl⟩, ⟨_, Heap.get?_push_size _ rfl⟩, fun h1 h2 ⟨pm, ctv, e⟩ st => ⟨pm, ctv, st _ e⟩⟩
    refine ⟨.ref h'.objs.size, _, I2, rfl, ?_⟩
    have R2 := R1.new (o := CloO h'.objs.size ⟨X.env.qual ++ "<lambda>", params, body, scope, S.N⟩ X.env.cells c') hf1
    refine h (.ref h'.objs.size) ι _ (s1.trans (step_new hf1)) R2 ?_
    have hne : c' ≠ h'.objs.size := fun z => by rw [← z, hc'] at hf1; cases hf1
    rw [← hq]
    refine .clo (sc := X.env.scope) (cells := X.env.cells) (c' := c') ?_ ?_ upd_same (R1.fresh hf1) ?_ ⟨nι, nd⟩
    · rw [g.lv ho]; show _ = some (S.N, _, _); rw [← g.N]; exact γ2
    · show lamB X.env.scope scope = true
      rw [g.sc]; exact hb
    · rw [upd_ne hne]; exact hc'
  refine PySem.W.kla_eval hdef ?_
  have bP : s.heap.BuiltinsAt X.mg P := TB.bm.keeps I.bk
  have hP' : s.heap.get? P = some { cls := .none, data := .fields ps } := I.hok P _ hP
  cases hc : codeAmong pos ps.toList with
  | none =>
    refine PySem.W.kla_makeFunction (mg := X.mg) (c := cc) (P := P) (ps := ps) (closure_ok hfree) I.ok.glob (I.mod.glob.keeps I.bk) hcode (TB.code.keeps I.bk) hP' ht hc TB.gP bP fun c' ctv h' tk hx hge hlt hrec htb => ?_
    obtain ⟨c2, oc, vs, t, e2, hoc, hd, hv⟩ := hrec
    cases e2
    have nC : H c' = none := I.hok.fresh hge
    have I1 := inv_table (t' := tk) (more := #[rawInt pos.line, rawInt pos.col, .ref c']) (h' := h') (q := X.env.qual ++ "<lambda>") I hP hx htb hge ⟨oc, vs, t, hoc, hd, hv⟩
    have nPc : P ≠ c' := ne_of_none hP nC
    have hE : ExtN H (upd (upd H P (.tbl (ps ++ #[rawInt pos.line, rawInt pos.col, .ref c']))) c' (CodeO c' (X.env.qual ++ "<lambda>"))) := fun b o e n => by
      rw [upd_ne (ne_of_none e nC), upd_ne (fun z => n ps (Option.some.inj (e.symm.trans (by rw [z]; exact hP))))]
      exact e
    have eL : (ps ++ #[rawInt pos.line, rawInt pos.col, .ref c']).toList = ps.toList ++ [rawInt pos.line, rawInt pos.col, .ref c'] := by simp
    refine fin _ h' tk c' _ ctv I1 hE (fun p hp => ?_) (fun a ha => ?_) upd_same (.inl nC) (R.fresh nC).1 (R.fresh nC).2
    · by_cases hb : p.1 = P
      · rw [hu p hp hb, hb]
        refine ⟨_, by rw [upd_ne nPc, upd_same], by rw [eL]; exact PySem.TriplesOk_snoc _ _ _ _ ht, fun p' cv hcv => ?_⟩
        rw [eL] at hcv
        rcases among_app _ ht hcv with z | z
        · obtain ⟨c0, e1, e2⟩ := ha p' cv z
          exact ⟨c0, e1, hE _ _ e2 codeO_ne⟩
        · exact ⟨c', z, upd_same⟩
      · obtain ⟨ps', a1, a2, a3⟩ := hT p hp
        refine ⟨ps', by rw [upd_ne (ne_of_none a1 nC), upd_ne hb]; exact a1, a2, fun p' cv hcv => ?_⟩
        obtain ⟨c0, e1, e2⟩ := a3 p' cv hcv
        exact ⟨c0, e1, hE _ _ e2 codeO_ne⟩
    · by_cases h1 : a = c'
      · rw [h1, upd_same] at ha; cases ha
      · rw [upd_ne h1] at ha
        by_cases h2 : a = P
        · rw [h2, upd_same] at ha; cases ha
        · rw [upd_ne h2] at ha; exact ha
  | some cv =>
    obtain ⟨c', e, hco⟩ := ha pos cv hc
    subst e
    refine PySem.W.kla_makeFunctionHit (mg := X.mg) (c := cc) (P := P) (ps := ps) (closure_ok hfree) I.ok.glob (I.mod.glob.keeps I.bk) hcode (TB.code.keeps I.bk) hP' ht hc bP fun ctv h' tk hx hsz => ?_
    have I1 : L2.Inv X pins σ H { s with heap := h', toks := tk } := I.kept fun b o e => hx b o e
    refine fin H h' tk c' _ ctv I1 (ExtN.refl H) hT (fun _ e => e) hco (.inr ⟨_, hco, codeO_ne⟩) (fun z => ?_) (fun z => ?_)
    · obtain ⟨n, hn⟩ := List.getElem?_of_mem z
      obtain ⟨ob, _, h⟩ := R.rst.at hn
      cases ob with
      | lst qs => obtain ⟨_, xs, h, _⟩ := h; rw [hco] at h; unfold CodeO at h; cases h
      | dct ks vs => obtain ⟨_, _, kvs, h, _⟩ := h; rw [hco] at h; unfold CodeO at h; cases h
    · obtain ⟨xs, h⟩ := (R.ded c' z).2
      rw [hco] at h; unfold CodeO at h; cases h
theorem e_cm (g : Good D d S X F c) {elt tg iter : Expr} {ifs : List Expr} {scope : Scope} {pos : Pos} {t : Tg} {it : It} {cnd : Option E} {e' : E} {n : Nat}
    (hi : PI X tg iter (iM F (evI c it))) (ok : BlkOk X.N X.env.scope scope (ownOf S.N scope.names)) (ht : trT (S.blk scope) n tg = some t)
    (ho : ∀ p ∈ ownOf S.N scope.names, p.2 ∈ tgSlots t) (ho2 : ∀ i ∈ tgSlots t, i ∈ (ownOf S.N scope.names).map (·.2))
    (hc : (ifs = [] ∧ cnd = none) ∨ ∃ q q', ifs = [q] ∧ cnd = some q' ∧ ∀ X' F' c', Good D d (S.blk scope) X' F' c' → PT X' q (tT F' (ev c' q').t))
    (he : ∀ X' F' c', Good D d (S.blk scope) X' F' c' → PE X' elt (tE F' (ev c' e').v)) (hs : ∀ x, foldedSetIterable iter X.env x = pure x) : NewE X F (.ListComp elt [⟨tg, iter, ifs, 0⟩] scope pos) (cmM c t it cnd e') := by
  refine ⟨⟨fun pins s σ H Q I h => ?_⟩⟩
  rw [eval_ListComp]
  refine cm_core g I hi ok ht ho ho2 hc he hs h fun D C s' m H' I' q hn f => ⟨m, hn, fun h'' sb => ?_⟩
  obtain ⟨f0, f1, f2, f3, f4, f5⟩ := f
  exact ⟨.ref D, H', I'.turned (t' := s'.toks) (fun b o hb e => (sb.2 b hb).trans e) f0 f1 f3 f4 f5, rfl, q⟩
theorem trOp_ok {o : Operator} {o' : Bop} (h : trOp o = some o') : o = opOf o' := by
  cases o <;> first | (cases h; rfl) | cases h
theorem trCop_ok {o : CmpOp} {o' : Cop} (h : trCop o = some o') : o = copOf o' := by
  cases o <;> (cases h; rfl)
theorem noset_fold {iter : Expr} (h : noset iter = true) {env : PySem.Env} : ∀ x, foldedSetIterable iter env x = pure x := by
  intro x
  cases iter <;> first | rfl | cases h
/-- iterables -/
theorem it_ok (g : Good D d S X F c) (ok : D.Ok) {f : Expr → Option E} (hf : ∀ e e', f e = some e' → PE X e (tE F (ev c e').v)) {tg iter : Expr} {tup : Bool} {it : It} (htup : tup = true → ∃ elts k p, tg = .Tuple elts k p) (h : trIt D.G S f tup iter = some it) : PI X tg iter (iM F (evI c it)) := by
  unfold trIt at h
  split at h
  · rename_i x p as pos
    split at h
    · rename_i hx
      simp only [Bool.and_eq_true, decide_eq_true_eq] at hx
      obtain ⟨rfl, hfr⟩ := hx
      split at h
      · rename_i a
        (replace h := gd_some.mp h); obtain ⟨h0, h⟩ := h
        obtain ⟨a', ha, rfl⟩ := Option.map_eq_some_iff.mp h
        exact i_rng1 g ok hfr h0 (hf _ _ ha)
      · rename_i a b
        (replace h := gd_some.mp h); obtain ⟨h0, h⟩ := h
        simp only [Bool.and_eq_true] at h0
        (replace h := Option.bind_eq_some_iff.mp h); obtain ⟨a', ha, h⟩ := h
        obtain ⟨b', hb, rfl⟩ := Option.map_eq_some_iff.mp h
        exact i_rng2 g ok hfr h0.1 h0.2 (hf _ _ ha) (hf _ _ hb)
      · rename_i a b e
        (replace h := gd_some.mp h); obtain ⟨h0, h⟩ := h
        simp only [Bool.and_eq_true] at h0
        (replace h := Option.bind_eq_some_iff.mp h); obtain ⟨a', ha, h⟩ := h
        (replace h := Option.bind_eq_some_iff.mp h); obtain ⟨b', hb, h⟩ := h
        obtain ⟨e', he, rfl⟩ := Option.map_eq_some_iff.mp h
        exact i_rng3 g ok hfr h0.1 h0.2.1 h0.2.2 (hf _ _ ha) (hf _ _ hb) (hf _ _ he)
      · cases h
    · split at h
      · rename_i hx
        simp only [Bool.and_eq_true, decide_eq_true_eq] at hx
        obtain ⟨rfl, hfr⟩ := hx
        split at h
        · rename_i a b
          (replace h := gd_some.mp h); obtain ⟨h0, h⟩ := h
          simp only [Bool.and_eq_true] at h0
          (replace h := Option.bind_eq_some_iff.mp h); obtain ⟨a', ha, h⟩ := h
          obtain ⟨b', hb, rfl⟩ := Option.map_eq_some_iff.mp h
          obtain ⟨elts, k, tp, rfl⟩ := htup h0.2
          exact i_zip g ok hfr h0.1.1 h0.1.2 (hf _ _ ha) (hf _ _ hb)
        · cases h
      · split at h
        · rename_i hx
          simp only [Bool.and_eq_true, decide_eq_true_eq] at hx
          obtain ⟨rfl, hfr⟩ := hx
          split at h
          · rename_i a
            (replace h := gd_some.mp h); obtain ⟨h0, h⟩ := h
            simp only [Bool.and_eq_true] at h0
            obtain ⟨a', ha, rfl⟩ := Option.map_eq_some_iff.mp h
            obtain ⟨elts, k, tp, rfl⟩ := htup h0.2
            exact i_enum g ok hfr h0.1 (hf _ _ ha)
          · cases h
        · obtain ⟨a', ha, rfl⟩ := Option.map_eq_some_iff.mp h
          exact i_seq g (hf _ _ ha)
  · (replace h := gd_some.mp h); obtain ⟨h0, h⟩ := h
    obtain ⟨a', ha, rfl⟩ := Option.map_eq_some_iff.mp h
    exact i_seq g (hf _ _ ha)
theorem isTup_ok {tg : Expr} : isTup tg = true → ∃ elts k p, tg = .Tuple elts k p := fun h => by
  cases tg <;> first | exact ⟨_, _, _, rfl⟩ | cases h
/-- the forms of a list that is just made: all about it -/
theorem NewE.both {e : Expr} {e' : E} {m : Env → Store → R (List PV)} (h : NewE X F e m) (he : ∀ ρ st, (ev c e').v ρ st = bnd (m ρ st) fun ps st => .ok (.lst ps) st) : PE X e (tE F (ev c e').v) := PE.weak h.v fun σ H Q ⟨ρ, st, ι, R, q⟩ => ⟨ρ, st, ι, R, by
  have q : Aft F (rpV F) ρ ι σ H ((ev c e').v ρ st) Q := q
  rw [he] at q; exact q⟩
theorem bn_eq {b : Bn} {es : Es} (ρ : Env) (st : Store) : (ev c (.bn b es)).v ρ st = bnd (mN c b es ρ st) fun ps st => .ok (.lst ps) st := by
  unfold mN
  rw [bnd_assoc]
  rfl
theorem args_st {f : Expr → Option E} (hf : ∀ e e', f e = some e' → PE X e (tE F (ev c e').v)) {as : List Expr} {es : Es} (h : trEs f as = some es) (pos : Pos) : as = [] ∨ ∃ e r, as = e :: r ∧ starEach (e :: r) X.env = (false, eval e X.env) :: starEach r X.env ∧ (backTo pos (starEach r X.env)).any (·.1) = false := by
  cases as with
  | nil => exact .inl rfl
  | cons e r =>
    unfold trEs at h
    (replace h := gd_some.mp h); obtain ⟨h0, h⟩ := h
    (replace h := Option.bind_eq_some_iff.mp h); obtain ⟨e', h1, h⟩ := h
    (replace h := Option.map_eq_some_iff.mp h); obtain ⟨es', h2, h⟩ := h
    obtain ⟨_, i2, _⟩ := a_args hf h2
    exact .inr ⟨e, r, rfl, star_cons h0, i2 pos⟩
/-- a call by name -/
theorem call_ok (g : Good D d S X F c) (ok : D.Ok) (er : D.Err) (gc : CallS D X F c) (gl : CloS D X F c) {f : Expr → Option E} (hf : ∀ e e', f e = some e' → PE X e (tE F (ev c e').v)) {x : Str} {as : List Expr} {kws : List Keyword} {p pos : Pos} {e' : E} (h : trCall D.G S f x as kws = some e') :
    PE X (.Call (.Name x p) as kws pos) (tE F (ev c e').v) ∧ (∀ ρ st, (ev c e').t ρ st = bnd ((ev c e').v ρ st) fun x st => giv (truV (view st x)) st) := by
  unfold trCall at h
  split at h
  · rename_i hv
    split at h
    · (replace h := gd_some.mp h); obtain ⟨h0, h⟩ := h
      (replace h := Option.bind_eq_some_iff.mp h); obtain ⟨i, hi, h⟩ := h
      obtain ⟨es, hes, rfl⟩ := Option.map_eq_some_iff.mp h
      obtain ⟨i1, i2, i3⟩ := a_args hf hes
      exact ⟨e_callv g gl h0 hv hi i1 (trEs_len hes) (args_st hf hes pos), fun _ _ => rfl⟩
    · cases h
  · (replace h := gd_some.mp h); obtain ⟨h0, h⟩ := h
    simp only [Bool.and_eq_true] at h0
    split at h
    · rename_i i hix
      (replace h := gd_some.mp h); obtain ⟨h1, h⟩ := h
      (replace h := Option.bind_eq_some_iff.mp h); obtain ⟨fi, hfi, h⟩ := h
      (replace h := Option.bind_eq_some_iff.mp h); obtain ⟨es, hes, h⟩ := h
      obtain ⟨ks, hks, rfl⟩ := Option.map_eq_some_iff.mp h
      obtain ⟨_, fj, hfj, hname⟩ := fnIx_ok hix
      rw [Nat.sub_zero] at hfj
      rw [hfi] at hfj
      cases hfj
      obtain ⟨i1, i2, i3⟩ := a_args hf hes
      obtain ⟨k1, k2⟩ := a_kws hf hks
      exact ⟨e_call g gc ok h0.2 h0.1 hfi hname (of_decide_eq_true h1) i1 (trEs_len hes) i2 (args_st hf hes pos) k1 (trKw_len hks) k2, fun _ _ => rfl⟩
    · split at h
      · split at h
        · rename_i kc hkc
          split at h
          · (replace h := gd_some.mp h); obtain ⟨n0, h⟩ := h
            obtain ⟨a', ha, rfl⟩ := Option.map_eq_some_iff.mp h
            exact ⟨e_mkV g ok er.mks h0.1 h0.2 hkc n0 (hf _ _ ha), fun _ _ => rfl⟩
          · cases h
        (replace h := gd_some.mp h); obtain ⟨h1, h⟩ := h
        have hfr : frB D.G S x = true := by
          unfold frB
          simp only [Bool.and_eq_true]
          exact ⟨⟨h0.2, h0.1⟩, h1⟩
        split at h
        · cases h
        · rename_i a
          split at h
          · rename_i rs hrs
            unfold isRange at hrs
            split at hrs
            · rename_i y as' p2 p3
              (replace hrs := gd_some.mp hrs); obtain ⟨r0, hrs⟩ := hrs
              simp only [Bool.and_eq_true, decide_eq_true_eq] at r0
              obtain ⟨rfl, hr⟩ := r0
              cases hrs
              split at h
              · rename_i hx
                subst hx
                split at h
                · (replace h := gd_some.mp h); obtain ⟨n0, h⟩ := h
                  obtain ⟨b', hb, rfl⟩ := Option.map_eq_some_iff.mp h
                  exact ⟨(n_lr1 g ok hfr hr n0 (hf _ _ hb)).both bn_eq, fun _ _ => rfl⟩
                · (replace h := gd_some.mp h); obtain ⟨n0, h⟩ := h
                  simp only [Bool.and_eq_true] at n0
                  (replace h := Option.bind_eq_some_iff.mp h); obtain ⟨b', hb, h⟩ := h
                  obtain ⟨c', hc, rfl⟩ := Option.map_eq_some_iff.mp h
                  exact ⟨(n_lr2 g ok hfr hr n0.1 n0.2 (hf _ _ hb) (hf _ _ hc)).both bn_eq, fun _ _ => rfl⟩
                · cases h
              · split at h
                · rename_i hx
                  subst hx
                  split at h
                  · (replace h := gd_some.mp h); obtain ⟨n0, h⟩ := h
                    obtain ⟨b', hb, rfl⟩ := Option.map_eq_some_iff.mp h
                    exact ⟨e_tr1 g ok hfr hr n0 (hf _ _ hb), fun _ _ => rfl⟩
                  · (replace h := gd_some.mp h); obtain ⟨n0, h⟩ := h
                    simp only [Bool.and_eq_true] at n0
                    (replace h := Option.bind_eq_some_iff.mp h); obtain ⟨b', hb, h⟩ := h
                    obtain ⟨c', hc, rfl⟩ := Option.map_eq_some_iff.mp h
                    exact ⟨e_tr2 g ok hfr hr n0.1 n0.2 (hf _ _ hb) (hf _ _ hc), fun _ _ => rfl⟩
                  · cases h
                · cases h
            · cases hrs
          · split at h
            · rename_i b hset
              (replace h := gd_some.mp h); obtain ⟨n0, h⟩ := h
              simp only [Bool.and_eq_true, decide_eq_true_eq] at n0
              obtain ⟨b', hb, rfl⟩ := Option.map_eq_some_iff.mp h
              unfold isSet at hset
              split at hset
              · rename_i y p2 b2 p3
                (replace hset := gd_some.mp hset); obtain ⟨r0, hset⟩ := hset
                simp only [Bool.and_eq_true, decide_eq_true_eq] at r0
                obtain ⟨rfl, hr⟩ := r0
                cases hset
                obtain ⟨rfl, n1⟩ := n0
                exact ⟨(n_sset g ok hfr hr n1 (hf _ _ hb)).both bn_eq, fun _ _ => rfl⟩
              · cases hset
            · (replace h := gd_some.mp h); obtain ⟨n0, h⟩ := h
              (replace h := Option.bind_eq_some_iff.mp h); obtain ⟨a', ha, h⟩ := h
              have A : PA X [a] (tA F (evs c (.cons a' .nil))) := (a_args hf (as := [a]) (by unfold trEs; rw [n0, ha]; rfl)).1
              split at h
              · rename_i b hb
                cases h
                exact ⟨e_bi g ok hfr hb A (star_cons n0) rfl, fun _ _ => rfl⟩
              · obtain ⟨b, hb, rfl⟩ := Option.map_eq_some_iff.mp h
                exact ⟨(n_bn g ok hfr hb A (star_cons n0) rfl).both bn_eq, fun _ _ => rfl⟩
        · rename_i a b
          split at h
          · rename_i hx
            subst hx
            (replace h := gd_some.mp h); obtain ⟨n0, h⟩ := h
            simp only [Bool.and_eq_true] at n0
            (replace h := Option.bind_eq_some_iff.mp h); obtain ⟨a', ha, h⟩ := h
            obtain ⟨cl, hcl, rfl⟩ := Option.map_eq_some_iff.mp h
            obtain ⟨_, u, v, hb, hco⟩ := cl_ok g ok hcl
            exact ⟨e_isi g ok er hfr n0.1 n0.2 (hf _ _ ha) hb hco, fun _ _ => rfl⟩
          · (replace h := Option.bind_eq_some_iff.mp h); obtain ⟨es, hes, h⟩ := h
            obtain ⟨o, ho, rfl⟩ := Option.map_eq_some_iff.mp h
            obtain ⟨i1, i2, i3⟩ := a_args hf hes
            obtain e0 | ⟨_, _, e0, s1, s2⟩ := args_st hf hes pos
            · cases e0
            · cases e0
              exact ⟨e_bi g ok hfr ho i1 s1 s2, fun _ _ => rfl⟩
        · cases h
      · cases h
end
end PM
set_option Elab.async false
set_option linter.all false
set_option maxRecDepth 100000
set_option maxHeartbeats 4000000
/-! PM18: all expressions are sound. -/
namespace PM
open PySem PySem.Spec PyProof.Rows L2 LamX
section
variable {D : PD} {d : Nat}
theorem mnames_ok {F : Fm} {X : Cx} {nb : Nat} (hK : X.K = F.C.K) (hnb : ∀ q ∈ F.C.lows, q.1 ≤ nb) {x : Str} {n : Nat} {m : Mt} (h : find3 x n mnames = some m) : ∃ (T id : String), PlainAttrs T ∧ Slot T x id ∧ typeOf (.builtin id) = pure (.type "method_descriptor") ∧ MtR X id (rMt F nb m) ∧ T = mtT m ∧ (n = 0 ∨ n = 1) := by
  unfold mnames at h
  unfold find3 at h
  split at h
  · rename_i z
    obtain ⟨rfl, rfl⟩ := z
    cases h
    exact ⟨"list", "list.append", PySem.F.plainAttrs_list, PySem.F.slot_list_append, PySem.F.type_list_append, m_append hnb, rfl, .inr rfl⟩
  unfold find3 at h
  split at h
  · rename_i z
    obtain ⟨rfl, rfl⟩ := z
    cases h
    exact ⟨"list", "list.extend", PySem.F.plainAttrs_list, PySem.F.slot_list_extend, PySem.F.type_list_extend, m_extend hK, rfl, .inr rfl⟩
  unfold find3 at h
  split at h
  · rename_i z
    obtain ⟨rfl, rfl⟩ := z
    cases h
    exact ⟨"list", "list.pop", PySem.F.plainAttrs_list, PySem.F.slot_list_pop, PySem.F.type_list_pop, m_pop, rfl, .inl rfl⟩
  unfold find3 at h
  split at h
  · rename_i z
    obtain ⟨rfl, rfl⟩ := z
    cases h
    exact ⟨"list", "list.pop", PySem.F.plainAttrs_list, PySem.F.slot_list_pop, PySem.F.type_list_pop, m_popAt, rfl, .inr rfl⟩
  unfold find3 at h
  split at h
  · rename_i z
    obtain ⟨rfl, rfl⟩ := z
    cases h
    exact ⟨"str", "str.upper", PySem.F.plainAttrs_str, PySem.F.slot_str_upper, PySem.F.type_str_upper, m_upper, rfl, .inl rfl⟩
  cases h
/-- all of an expression -/
structure Snd (D : PD) (d : Nat) (S : SS) (X : Cx) (F : Fm) (c : Cfg) (e : Expr) (e' : E) : Prop where
  v : PE X e (tE F (ev c e').v)
  t : PT X e (tT F (ev c e').t)
  w : ∀ o l p, e = .BoolOp o l p → PW X e (tT F (ev c e').t)
theorem Snd.pl {S : SS} {X : Cx} {F : Fm} {c : Cfg} {e : Expr} {e' : E} (g : Good D d S X F c) (h : PE X e (tE F (ev c e').v)) (hp : plainT e = true) (hm : ∀ ρ st, (ev c e').t ρ st = bnd ((ev c e').v ρ st) fun x st => giv (truV (view st x)) st) : Snd D d S X F c e e' :=
  ⟨h, t_plain g hp hm h, fun o l p z => by rw [z] at hp; cases hp⟩
theorem e_dc0 {S : SS} {X : Cx} {F : Fm} {c : Cfg} (g : Good D d S X F c) {pos : Pos} : PE X (.Dict [] [] pos) (tE F (ev c (.dc [] [])).v) := PE.weak pe_dnewK fun σ H Q ⟨ρ, st, ι, R, h⟩ p hp => by
  obtain ⟨s2, R2, r2⟩ := R.dctN hp (kvs := []) .nil
  exact h _ _ _ s2 R2 r2
theorem e_dc1 {S : SS} {X : Cx} {F : Fm} {c : Cfg} (g : Good D d S X F c) {k : Str} {i : Int} {j j2 : Nat} {p1 p2 pos : Pos} : PE X (.Dict [some (.Constant (.str k) j p1)] [.Constant (.int i) j2 p2] pos) (tE F (ev c (.dc [k] [.int i])).v) :=
  PE.weak (pe_disp (pps_cons pe_str pe_int pps_nil) rfl rfl (by simp) (by simp)) fun σ H Q ⟨ρ, st, ι, R, h⟩ p hp => by
  obtain ⟨s2, R2, r2⟩ := R.dctN hp (kvs := [(.inr k, .int i)]) (.cons (.int i) .nil)
  refine ⟨upd_same, [(.inr k, .int i)], rfl, by simp, ?_⟩
  rw [upd_upd]
  exact h _ _ _ s2 R2 r2
theorem e_all (ok : D.Ok) (er : D.Err) (ca : CallAll D d) : ∀ (n : Nat) (S : SS) (e : Expr) (e' : E), trE D.G n S e = some e' → ∀ X F c, Good D d S X F c → Snd D d S X F c e e'
  | 0, S, e, e', h, X, F, c, g => by cases h
  | n + 1, S, e, e', h, X, F, c, g => by
    have ih := fun e e' (h : trE D.G n S e = some e') => e_all ok er ca n S e e' h X F c g
    have ihv : ∀ e e', trE D.G n S e = some e' → PE X e (tE F (ev c e').v) := fun e e' h => (ih e e' h).v
    have iht : ∀ e e', trE D.G n S e = some e' → PT X e (tT F (ev c e').t) := fun e e' h => (ih e e' h).t
    unfold trE at h
    split at h
    · -- Name
      rename_i x pos
      (replace h := gd_some.mp h); obtain ⟨h0, h⟩ := h
      split at h
      · rename_i hv
        obtain ⟨i, hi, rfl⟩ := Option.map_eq_some_iff.mp h
        exact .pl g (e_var g h0 hv hi) rfl fun _ _ => rfl
      · (replace h := gd_some.mp h); obtain ⟨h1, h⟩ := h
        obtain ⟨v, hv, rfl⟩ := Option.map_eq_some_iff.mp h
        exact .pl g (e_gl ok g h0 h1 hv) rfl fun _ _ => rfl
    · -- Constant
      rename_i k kk pos
      split at h
      · cases h; exact .pl g (e_const .non .non (fun _ _ _ => .non) pe_non) rfl fun _ _ => rfl
      · cases h; exact .pl g (e_const (.bl _) (.bl _) (fun _ _ _ => .bl _) pe_bl) rfl fun _ _ => rfl
      · cases h; exact .pl g (e_const (.int _) (.int _) (fun _ _ _ => .int _) pe_int) rfl fun _ _ => rfl
      · cases h; exact .pl g (e_const (.str _) (.str _) (fun _ _ _ => .str _) pe_str) rfl fun _ _ => rfl
      · cases h
    · -- BinOp
      rename_i a o b pos
      (replace h := Option.bind_eq_some_iff.mp h); obtain ⟨o', ho, h⟩ := h
      (replace h := Option.bind_eq_some_iff.mp h); obtain ⟨a', ha, h⟩ := h
      obtain ⟨b', hb, rfl⟩ := Option.map_eq_some_iff.mp h
      rw [trOp_ok ho]
      exact .pl g (e_bin g (ihv _ _ ha) (ihv _ _ hb)) rfl fun _ _ => rfl
    · -- UnaryOp
      rename_i o a pos
      split at h
      · obtain ⟨a', ha, rfl⟩ := Option.map_eq_some_iff.mp h
        exact .pl g (e_neg g (ihv _ _ ha)) rfl fun _ _ => rfl
      · obtain ⟨a', ha, rfl⟩ := Option.map_eq_some_iff.mp h
        exact ⟨e_not g (ihv _ _ ha), t_not g (iht _ _ ha), fun o l p z => by cases z⟩
      · cases h
    · -- Compare
      rename_i a o b pos
      (replace h := gd_some.mp h); obtain ⟨h0, h⟩ := h
      (replace h := Option.bind_eq_some_iff.mp h); obtain ⟨o', ho, h⟩ := h
      (replace h := Option.bind_eq_some_iff.mp h); obtain ⟨a', ha, h⟩ := h
      obtain ⟨b', hb, rfl⟩ := Option.map_eq_some_iff.mp h
      have eo := trCop_ok ho
      subst eo
      have h0 : behindInMarks (copOf o') b = false := by simpa using h0
      exact ⟨e_cmp g h0 (ihv _ _ ha) (ihv _ _ hb), t_cmp g h0 (ihv _ _ ha) (ihv _ _ hb), fun o l p z => by cases z⟩
    · -- chain
      rename_i a o p b cc pos
      (replace h := gd_some.mp h); obtain ⟨h0, h⟩ := h
      (replace h := Option.bind_eq_some_iff.mp h); obtain ⟨o', ho, h⟩ := h
      (replace h := Option.bind_eq_some_iff.mp h); obtain ⟨p', hp, h⟩ := h
      (replace h := Option.bind_eq_some_iff.mp h); obtain ⟨a', ha, h⟩ := h
      (replace h := Option.bind_eq_some_iff.mp h); obtain ⟨b', hb, h⟩ := h
      obtain ⟨c', hc, rfl⟩ := Option.map_eq_some_iff.mp h
      have eo := trCop_ok ho
      have ep := trCop_ok hp
      subst eo
      subst ep
      have h0 : lastMarks [copOf o', copOf p'] [b, cc] = false := by simpa using h0
      exact ⟨e_chain g h0 (ihv _ _ ha) (ihv _ _ hb) (ihv _ _ hc), t_chain g h0 (ihv _ _ ha) (ihv _ _ hb) (ihv _ _ hc), fun o l p z => by cases z⟩
    · -- BoolOp, one
      rename_i o a pos
      have k := ih _ _ h
      cases o with
      | And => exact ⟨pe_one k.v, (pw_and1 k.t).pt, fun o l p z => pw_and1 k.t⟩
      | Or => exact ⟨pe_one k.v, (pw_or1 k.t).pt, fun o l p z => pw_or1 k.t⟩
    · -- BoolOp
      rename_i o a b r pos
      (replace h := Option.bind_eq_some_iff.mp h); obtain ⟨a', ha, h⟩ := h
      obtain ⟨b', hb, rfl⟩ := Option.map_eq_some_iff.mp h
      have k := ih _ _ hb
      have W := k.w _ _ _ rfl
      cases o with
      | And =>
        have z := t_and g (iht _ _ ha) W
        exact ⟨e_and g (ihv _ _ ha) k.v, z.pt, fun _ _ _ _ => z⟩
      | Or =>
        have z := t_or g (iht _ _ ha) W
        exact ⟨e_or g (ihv _ _ ha) k.v, z.pt, fun _ _ _ _ => z⟩
    · -- IfExp
      rename_i t a b pos
      (replace h := Option.bind_eq_some_iff.mp h); obtain ⟨t', ht, h⟩ := h
      (replace h := Option.bind_eq_some_iff.mp h); obtain ⟨a', ha, h⟩ := h
      obtain ⟨b', hb, rfl⟩ := Option.map_eq_some_iff.mp h
      exact ⟨e_ite g (iht _ _ ht) (ihv _ _ ha) (ihv _ _ hb), t_ite g (iht _ _ ht) (iht _ _ ha) (iht _ _ hb), fun o l p z => by cases z⟩
    · -- Tuple
      rename_i es k pos
      (replace h := gd_some.mp h); obtain ⟨h0, h⟩ := h
      obtain ⟨es', hes, rfl⟩ := Option.map_eq_some_iff.mp h
      exact .pl g (e_tup g (by rw [trEs_len hes]; exact of_decide_eq_true h0) (a_args ihv hes).1) rfl fun _ _ => rfl
    · -- List
      rename_i es pos
      (replace h := gd_some.mp h); obtain ⟨h0, h⟩ := h
      obtain ⟨es', hes, rfl⟩ := Option.map_eq_some_iff.mp h
      exact .pl g ((n_lst g (by rw [trEs_len hes]; exact of_decide_eq_true h0) (a_args ihv hes).1).both fun _ _ => rfl) rfl fun _ _ => rfl
    · -- the other way about
      obtain ⟨a', ha, rfl⟩ := Option.map_eq_some_iff.mp h
      exact .pl g (e_rev g (ihv _ _ ha)) rfl fun _ _ => rfl
    · -- slices
      rename_i a lo hi p2 pos
      (replace h := Option.bind_eq_some_iff.mp h); obtain ⟨a', ha, h⟩ := h
      (replace h := Option.bind_eq_some_iff.mp h); obtain ⟨lo', hlo, h⟩ := h
      obtain ⟨hi', hhi, rfl⟩ := Option.map_eq_some_iff.mp h
      refine .pl g (e_sl g (ihv _ _ ha) ?_ ?_) rfl fun _ _ => by simp only [ev, plain]
      · cases lo with
        | none => cases hlo; exact .inl ⟨rfl, rfl⟩
        | some l =>
          obtain ⟨l', hl, rfl⟩ := Option.map_eq_some_iff.mp hlo
          exact .inr ⟨l, l', rfl, rfl, ihv _ _ hl⟩
      · cases hi with
        | none => cases hhi; exact .inl ⟨rfl, rfl⟩
        | some l =>
          obtain ⟨l', hl, rfl⟩ := Option.map_eq_some_iff.mp hhi
          exact .inr ⟨l, l', rfl, rfl, ihv _ _ hl⟩
    · -- items
      rename_i a i pos _ _
      (replace h := gd_some.mp h); obtain ⟨h0, h⟩ := h
      (replace h := Option.bind_eq_some_iff.mp h); obtain ⟨a', ha, h⟩ := h
      obtain ⟨i', hi, rfl⟩ := Option.map_eq_some_iff.mp h
      exact .pl g (e_ix g h0 (ihv _ _ ha) (ihv _ _ hi)) rfl fun _ _ => rfl
    · -- e.value
      rename_i a x pos
      (replace h := gd_some.mp h); obtain ⟨h0, h⟩ := h
      simp only [Bool.and_eq_true, decide_eq_true_eq] at h0
      obtain ⟨rfl, h0⟩ := h0
      obtain ⟨a', ha, rfl⟩ := Option.map_eq_some_iff.mp h
      exact .pl g (e_at g er h0 (ihv _ _ ha)) rfl fun _ _ => rfl
    · -- lambda
      rename_i params body scope pos
      (replace h := gd_some.mp h); obtain ⟨h0, h⟩ := h
      simp only [Bool.and_eq_true] at h0
      cases h
      exact .pl g (e_lam g h0.1.1.1 h0.1.1.2 h0.1.2 h0.2) rfl fun _ _ => rfl
    · -- comprehension
      rename_i elt tg iter ifs scope pos
      (replace h := gd_some.mp h); obtain ⟨h0, h⟩ := h
      simp only [Bool.and_eq_true] at h0
      (replace h := Option.bind_eq_some_iff.mp h); obtain ⟨t, ht, h⟩ := h
      (replace h := gd_some.mp h); obtain ⟨h1, h⟩ := h
      simp only [Bool.and_eq_true, List.all_eq_true, decide_eq_true_eq] at h1
      (replace h := Option.bind_eq_some_iff.mp h); obtain ⟨it, hit, h⟩ := h
      (replace h := Option.bind_eq_some_iff.mp h); obtain ⟨cnd, hcnd, h⟩ := h
      obtain ⟨e2, he2, rfl⟩ := Option.map_eq_some_iff.mp h
      have N : NewE X F (.ListComp elt [⟨tg, iter, ifs, 0⟩] scope pos) (cmM c t it cnd e2) := by
        refine e_cm g (it_ok g ok ihv isTup_ok hit) ?_ ht h1.1 h1.2 ?_ (fun X' F' c' g' => (e_all ok er ca n (S.blk scope) elt e2 he2 X' F' c' g').v) (noset_fold h0.2)
        · rw [g.N, g.sc]; exact blkOk_by h0.1
        · split at hcnd
          · cases hcnd; exact .inl ⟨rfl, rfl⟩
          · rename_i q
            obtain ⟨q', hq, rfl⟩ := Option.map_eq_some_iff.mp hcnd
            exact .inr ⟨q, q', rfl, rfl, fun X' F' c' g' => (e_all ok er ca n (S.blk scope) q q' hq X' F' c' g').t⟩
          · cases hcnd
      exact .pl g (N.both fun ρ st => ev_cm c t it cnd e2 ρ st) rfl fun _ _ => by simp only [ev, plain]
    · cases h; exact .pl g (e_dc0 g) rfl fun _ _ => rfl
    · cases h; exact .pl g (e_dc1 g) rfl fun _ _ => rfl
    · -- a call by name
      obtain ⟨k1, k2⟩ := call_ok g ok er (ca S X F c g).1 (ca S X F c g).2 ihv h
      exact .pl g k1 rfl k2
    · -- a method
      rename_i o m ap as cp
      (replace h := gd_some.mp h); obtain ⟨h0, h⟩ := h
      simp only [Bool.and_eq_true, decide_eq_true_eq] at h0
      (replace h := Option.bind_eq_some_iff.mp h); obtain ⟨o', ho, h⟩ := h
      (replace h := Option.bind_eq_some_iff.mp h); obtain ⟨es, hes, h⟩ := h
      obtain ⟨k, hk, rfl⟩ := Option.map_eq_some_iff.mp h
      obtain ⟨T, id, pa, sl, ty, hm, hT, hn⟩ := mnames_ok (X := X) (by rw [g.K, g.Fk]) g.nb hk
      refine .pl g ?_ rfl fun _ _ => rfl
      obtain ⟨i1, i2, i3⟩ := a_args ihv hes
      rcases args_st ihv hes cp with rfl | ⟨e1, r, rfl, s1, s2⟩
      · have z : es = .nil := by
          have := trEs_len hes
          cases es with
          | nil => rfl
          | cons _ _ => cases this
        subst z
        exact e_mt0 g pa sl ty hm hT h0.1 h0.2 (ihv _ _ ho)
      · exact e_mt1 g pa sl ty hm hT h0.1 h0.2 (by rcases hn with z | z <;> omega) (ihv _ _ ho) i1 s1 s2 (i3 cp)
    · cases h
end
end PM
set_option Elab.async false
set_option linter.all false
set_option maxRecDepth 100000
set_option maxHeartbeats 4000000
/-! PM19: statements: the form, small ones. -/
namespace PM
open PySem PySem.Spec PyProof.Rows L2 LamX
/-- the value is a list that is just made -/
def newB (G : SI) (S : SS) : Expr → Bool
  | .List .. => true
  | .ListComp .. => true
  | .Call (.Name x _) _ _ _ => (decide (x = "list") || decide (x = "sorted")) && frB G S x && !visB S.sc x && (fnIx x G.fns 0).isNone
  | .BinOp (.List ..) .Mult _ _ => true
  | _ => false
def swB (S : SS) (x : Str) (py : Pos) : Expr → Bool
  | .ListComp _ _ scope pos => (S.sc.names.lookup x == some .local) && py.line == pos.line && !(scope.names.any fun (n, k) => n == x && (k == .local || k == .cell))
  | _ => false
/-- the names of a swapped store -/
def swNm (sc : Scope) (line : Nat) : Expr → Option Str
  | .Name id pos => if sc.names.lookup id == some .local && pos.line == line then some id else none
  | _ => none
def isStarE : Expr → Bool | .Starred .. => true | _ => false
def swS (sc : Scope) (ts vs : List Expr) : Option (Option (List Str)) :=
  if !(ts.length == 2 || ts.length == 3) || vs.length != ts.length then some none
  else if vs.any isStarE then some none
  else if (ts.filterMap (swNm sc ((ts.head?.map (·.pos.line)).getD 0))).length != ts.length || (ts.filterMap (swNm sc ((ts.head?.map (·.pos.line)).getD 0))).eraseDups.length != (ts.filterMap (swNm sc ((ts.head?.map (·.pos.line)).getD 0))).length then some none
  else if vs.all (foldedForSure 8) then some none
  else if vs.all (constantsAlone 8) then none
  else some (some (ts.filterMap (swNm sc ((ts.head?.map (·.pos.line)).getD 0))))
def isDoc : Expr → Bool | .Constant (.str _) _ _ => true | _ => false
theorem bk_fn {env : PySem.Env} (h : env.scope.kind = .function) : env.blockKind = .function := by unfold Env.blockKind; rw [h]; rfl
theorem sw_stores {env : PySem.Env} {ts vs : List Expr} {k1 k2 : Nat} {p1 p2 : Pos} {o : Option (List Str)} (hk : env.scope.kind = .function) (h : swS env.scope ts vs = some o) : swappedStores [.Tuple ts k1 p1] (.Tuple vs k2 p2) env = pure o := by
  unfold swS at h
  unfold swappedStores
  have hb := bk_fn hk
  simp only [hb, show (ScopeKind.function != ScopeKind.function) = false from rfl, Bool.or_false]
  show (if (!(ts.length == 2 || ts.length == 3) || vs.length != ts.length) = true then (pure none : Sem (Option (List Str))) else if vs.any isStarE = true then pure none
    else if ((ts.filterMap (swNm env.scope ((ts.head?.map (·.pos.line)).getD 0))).length != ts.length || (ts.filterMap (swNm env.scope ((ts.head?.map (·.pos.line)).getD 0))).eraseDups.length != (ts.filterMap (swNm env.scope ((ts.head?.map (·.pos.line)).getD 0))).length) = true then pure none
    else if vs.all (foldedForSure 8) = true then pure none else if vs.all (constantsAlone 8) = true then _ else pure (some (ts.filterMap (swNm env.scope ((ts.head?.map (·.pos.line)).getD 0))))) = _
  split at h
  · rename_i c1
    rw [if_pos c1]
    cases h; rfl
  · rename_i c1
    rw [if_neg c1]
    split at h
    · rename_i c2
      rw [if_pos c2]
      cases h; rfl
    · rename_i c2
      rw [if_neg c2]
      split at h
      · rename_i c3
        rw [if_pos c3]
        cases h; rfl
      · rename_i c3
        rw [if_neg c3]
        split at h
        · rename_i c4
          rw [if_pos c4]
          cases h; rfl
        · rename_i c4
          rw [if_neg c4]
          split at h
          · cases h
          · rename_i c5
            rw [if_neg c5]
            cases h; rfl
/-! ### small statements -/
/-- what is wanted behind a statement -/
def AftS (F : Fm) (ι : List Addr) (H : Hp) (r : R Fl) (D : Ends) : Prop := match r with
  | .ok (.nx ρ) st => ∀ (ι' : List Addr) (H' : Hp) (σ' : L2.St), Step ι H ι' H' → F.Rl ρ st ι' σ' H' → D.nx σ' H'
  | .ok (.bk ρ) st => ∀ (ι' : List Addr) (H' : Hp) (σ' : L2.St), Step ι H ι' H' → F.Rl ρ st ι' σ' H' → D.bk σ' H'
  | .ok (.ct ρ) st => ∀ (ι' : List Addr) (H' : Hp) (σ' : L2.St), Step ι H ι' H' → F.Rl ρ st ι' σ' H' → D.ct σ' H'
  | .ok (.rt v) st => ∀ (x : V) (ρ : Env) (ι' : List Addr) (H' : Hp) (σ' : L2.St), Step ι H ι' H' → F.Rl ρ st ι' σ' H' → Rep F.C ι' H' x v → D.rt x H'
  | .exc k v st => ∀ (d : Addr) (x : V) (ρ : Env) (ι' : List Addr) (H' : Hp) (σ' : L2.St), Step ι H ι' H' → F.Rl ρ st ι' σ' H' → H' d = some (.xd [(("value" : Str), x)]) → d ∉ ι' → Rep F.C ι' H' x v → F.W (.ref (F.C.cA k)) (some d) σ' H'
  | .bad => False
def tS (F : Fm) (m : Env → Store → R Fl) : TS := fun D σ H => ∃ (ρ : Env) (st : Store) (ι : List Addr), F.Rl ρ st ι σ H ∧ AftS F ι H (m ρ st) D
section
variable {F : Fm} {ρ : Env} {ι ι1 : List Addr} {σ : L2.St} {H H1 : Hp} {st : Store} {D : Ends}
theorem AftS.step {r : R Fl} (h : AftS F ι H r D) (s : Step ι H ι1 H1) : AftS F ι1 H1 r D := by
  cases r with
  | ok a st' =>
    cases a with
    | nx ρ => exact fun ι' H' σ' s' R => h ι' H' σ' (s.trans s') R
    | bk ρ => exact fun ι' H' σ' s' R => h ι' H' σ' (s.trans s') R
    | ct ρ => exact fun ι' H' σ' s' R => h ι' H' σ' (s.trans s') R
    | rt v => exact fun x ρ ι' H' σ' s' R r => h x ρ ι' H' σ' (s.trans s') R r
  | exc k v st' => exact fun d x ρ ι' H' σ' s' R e n q => h d x ρ ι' H' σ' (s.trans s') R e n q
  | bad => exact h
/-- behind an expression -/
theorem seqS {α β : Type} {rp : List Addr → Hp → β → α → Prop} {m : Env → Store → R α} {f : α → Store → R Fl} {K : β → Hp → Prop}
    (R : F.Rl ρ st ι σ H) (h : AftS F ι H (bnd (m ρ st) f) D)
    (k : ∀ st1 a x ι1 H1, Step ι H ι1 H1 → F.Rl ρ st1 ι1 σ H1 → rp ι1 H1 x a → AftS F ι1 H1 (f a st1) D → K x H1) : tG F rp m σ H K := by
  refine ⟨ρ, st, ι, R, ?_⟩
  revert h
  cases m ρ st with
  | ok a st1 => exact fun h x ι1 H1 s1 R1 r1 => k st1 a x ι1 H1 s1 R1 r1 (AftS.step h s1)
  | exc c v st1 => exact fun h d x ι' H' s' R' e n q => h d x ρ ι' H' σ s' R' e n q
  | bad => exact fun h => h
theorem seqSN {m : Env → Store → R (List PV)} {f : PV → Store → R Fl} {K : VK} (R : F.Rl ρ st ι σ H) (g : List PV → Store → PM.R PV) (hg : g = (fun ps st => .ok (.lst ps) st) ∨ g = fun ps st => if nrfs ps then .ok (.ref st.length) (st ++ [.lst ps]) else .bad)
    (h : AftS F ι H (bnd (bnd (m ρ st) g) f) D) (k : ∀ st1 a x ι1 H1, Step ι H ι1 H1 → F.Rl ρ st1 ι1 σ H1 → Rep F.C ι1 H1 x a → AftS F ι1 H1 (f a st1) D → K x H1) : tN F m σ H K := by
  have t : tE F (fun ρ st => bnd (m ρ st) g) σ H K := by
    refine seqS (m := fun ρ st => bnd (m ρ st) g) R h k
  rcases hg with rfl | rfl
  · exact tN.lst t
  · exact tN.mut t
/-- one statement after another -/
theorem seqSS {m : Env → Store → R Fl} {f : Env → Store → R Fl} (R : F.Rl ρ st ι σ H) (h : AftS F ι H (bnd (m ρ st) fun fl st => match fl with | .nx ρ => f ρ st | fl => .ok fl st) D) : tS F m { D with nx := tS F f D } σ H := by
  refine ⟨ρ, st, ι, R, ?_⟩
  revert h
  cases m ρ st with
  | ok a st1 =>
    cases a with
    | nx ρ1 => exact fun h ι' H' σ' s' R' => ⟨ρ1, st1, ι', R', AftS.step h s'⟩
    | bk ρ1 => exact fun h => h
    | ct ρ1 => exact fun h => h
    | rt v => exact fun h => h
  | exc c v st1 => exact fun h => h
  | bad => exact fun h => h
end
section
variable {D : PD} {d : Nat} {S : SS} {X : Cx} {F : Fm} {c : Cfg}
theorem sw_no {e : Expr} {tgt : Option Expr} {l : Nat} {env : PySem.Env} (h : nocomp e = true) : swapsWith e tgt l env = pure false := by
  cases e <;> first | rfl | cases h
theorem s_expr (g : Good D d S X F c) {e : Expr} {e' : E} {pos : Pos} (hn : nocomp e = true) (he : PE X e (tE F (ev c e').v)) : PS X (.Expr e pos) (tS F (exS c (.ex e'))) := by
  refine PS.weak (ps_expr he (sw_no hn)) fun D σ H ⟨ρ, st, ι, R, h⟩ => ?_
  refine seqS R h fun st1 x xv ι1 H1 s1 R1 r1 h1 => ?_
  exact h1 ι1 H1 σ Step.refl R1
theorem s_doc {x : Str} {j : Nat} {pos pos' : Pos} : PS X (.Expr (.Constant (.str x) j pos) pos') (tS F (exS c .pass)) := PS.weak ps_doc fun D σ H ⟨ρ, st, ι, R, h⟩ => h ι H σ Step.refl R
theorem s_pass {pos : Pos} : PS X (.Pass pos) (tS F (exS c .pass)) := PS.weak ps_pass fun D σ H ⟨ρ, st, ι, R, h⟩ => h ι H σ Step.refl R
theorem s_brk {pos : Pos} : PS X (.Break pos) (tS F (exS c .brk)) := PS.weak ps_break fun D σ H ⟨ρ, st, ι, R, h⟩ => h ι H σ Step.refl R
theorem s_cnt {pos : Pos} : PS X (.Continue pos) (tS F (exS c .cnt)) := PS.weak ps_continue fun D σ H ⟨ρ, st, ι, R, h⟩ => h ι H σ Step.refl R
theorem s_ret {e : Expr} {m : Env → Store → R PV} {s : PM.S} {pos : Pos} (hs : ∀ ρ st, exS c s ρ st = bnd (m ρ st) fun x st => .ok (.rt x) st) (he : PE X e (tE F m)) : PS X (.Return (some e) pos) (tS F (exS c s)) := by
  refine PS.weak (ps_ret he) fun D σ H ⟨ρ, st, ι, R, h⟩ => ?_
  rw [hs] at h
  refine seqS R h fun st1 x xv ι1 H1 s1 R1 r1 h1 => ?_
  exact h1 xv ρ ι1 H1 σ Step.refl R1 r1
theorem s_retn {pos : Pos} : PS X (.Return none pos) (tS F (exS c .retn)) := PS.weak ps_retN fun D σ H ⟨ρ, st, ι, R, h⟩ => h .non ρ ι H σ Step.refl R .non
theorem s_if {t : Expr} {a b : List Stmt} {t' : E} {a' b' : Ss} {pos : Pos} (ht : PT X t (tT F (ev c t').t)) (ha : PSs X a (tS F (exSs c a'))) (hb : PSs X b (tS F (exSs c b'))) : PS X (.If t a b pos) (tS F (exS c (.ite t' a' b'))) := by
  refine PS.weak (ps_if ht ha hb) fun D σ H ⟨ρ, st, ι, R, h⟩ => ?_
  refine seqS R h fun st1 x xv ι1 H1 s1 R1 r1 h1 => ?_
  have r1 : xv = x := r1
  subst r1
  cases xv with
  | true => exact ⟨ρ, st1, ι1, R1, h1⟩
  | false => exact ⟨ρ, st1, ι1, R1, h1⟩
theorem ss_nil : PSs X [] (tS F (exSs c .nil)) := PSs.weak pss_nil fun D σ H ⟨ρ, st, ι, R, h⟩ => h ι H σ Step.refl R
theorem ss_cons {st : Stmt} {r : List Stmt} {s : PM.S} {ss : Ss} (h1 : PS X st (tS F (exS c s))) (h2 : PSs X r (tS F (exSs c ss))) : PSs X (st :: r) (tS F (exSs c (.cons s ss))) :=
  PSs.weak (pss_cons h1 h2) fun D σ H ⟨ρ, st, ι, R, h⟩ => seqSS R h
/-- name = value, any reading -/
theorem s_asg (g : Good D d S X F c) {x : Str} {i : Nat} {e : Expr} {m : Env → Store → R PV} {s : PM.S} {pos py : Pos} (hl : locB S x = true) (hi : slot S.N x = some i) (hs : ∀ ρ st, exS c s ρ st = bnd (m ρ st) fun x st => .ok (.nx (ρ.set i (some x))) st)
    (h : (PE X e (tE F m) ∧ swapsWith e (some (.Name x py)) pos.line X.env = pure false) ∨ PS X (.Assign [.Name x py] e pos) (tAsg (tE F m) (gName i))) : PS X (.Assign [.Name x py] e pos) (tS F (exS c s)) := by
  obtain ⟨l1, l2⟩ := g.loc hl
  have P : PS X (.Assign [.Name x py] e pos) (tAsg (tE F m) (gName i)) := by
    rcases h with ⟨he, hs⟩ | h
    · exact ps_set (by rw [g.N]; exact g.nd) (by rw [g.N]; exact slot_ok hi) l1 he hs l2
    · exact h
  refine PS.weak P fun D σ H ⟨ρ, st, ι, R, h⟩ => ?_
  rw [hs] at h
  refine seqS R h fun st1 x xv ι1 H1 s1 R1 r1 h1 => ?_
  exact h1 ι1 H1 _ Step.refl (R1.setE r1)
/-- a tuple of targets -/
theorem s_unp (g : Good D d S X F c) {n : Nat} {es : List Expr} {k : Nat} {tp pos : Pos} {t : Tg} {e : Expr} {e' : E} (ht : trT S n (.Tuple es k tp) = some t) (he : PE X e (tE F (ev c e').v)) (hs : swapsWithSole [.Tuple es k tp] e pos.line X.env = pure false) (hw : swappedStores [.Tuple es k tp] e X.env = pure none) :
    PS X (.Assign [.Tuple es k tp] e pos) (tS F (exS c (.asg t e'))) := by
  refine PS.weak (ps_asg he (t_ok g ht) hs hw rfl) fun D σ H ⟨ρ, st, ι, R, h⟩ => ?_
  refine seqS R h fun st1 x xv ι1 H1 s1 R1 r1 h1 => ?_
  have h1 : AftS F ι1 H1 (match asgT t x ρ with | some ρ => .ok (.nx ρ) st1 | none => .bad) D := h1
  cases ea : asgT t x ρ with
  | none => rw [ea] at h1; exact h1.elim
  | some ρ' =>
    rw [ea] at h1
    exact ⟨ρ, st1, ι1, x, ρ', R1, r1, ea, fun σ' R' _ _ => h1 ι1 H1 σ' Step.refl R'⟩
/-- o[i] = value -/
theorem s_seti (g : Good D d S X F c) {o i e : Expr} {o' i' e' : E} {tp pos : Pos} (hn : nocomp e = true) (hi : noslice i = true) (ho : PE X o (tE F (ev c o').v)) (hi' : PE X i (tE F (ev c i').v)) (he : PE X e (tE F (ev c e').v)) : PS X (.Assign [.Subscript o i tp] e pos) (tS F (exS c (.seti o' i' e'))) := by
  have ha : ∀ v, assign (.Subscript o i tp) X.env v = (do
      let ov ← holding [v] (eval o X.env)
      let iv ← holding [v, ov] (eval i X.env)
      standAt tp
      holding [v, ov, iv] (setItem ov iv v)
      release [v, ov, iv] []) := by
    intro v
    cases i <;> first | rfl | cases hi
  refine PS.weak (ps_asg he (pg_sub ho hi' set_list ha) (by unfold swapsWithSole; exact sw_no hn) rfl rfl) fun D σ H ⟨ρ, st, ι, R, h⟩ => ?_
  refine seqS R h fun st1 x xv ι1 H1 s1 R1 r1 h1 => ?_
  refine seqS R1 h1 fun st2 y yv ι2 H2 s2 R2 r2 h2 => ?_
  refine seqS R2 h2 fun st3 z zv ι3 H3 s3 R3 r3 h3 => ?_
  have h3 : AftS F ι3 H3 (match setV st3 y z x with | some st => .ok (.nx ρ) st | none => .bad) D := h3
  cases ea : setV st3 y z x with
  | none => rw [ea] at h3; exact h3.elim
  | some st4 =>
    rw [ea] at h3
    unfold setV at ea
    split at ea
    · rename_i k
      obtain ⟨⟨n, qs⟩, e1, e2⟩ := Option.bind_eq_some_iff.mp ea
      obtain ⟨rfl, e3⟩ := getL_ok e1
      split at e2
      · rename_i hx
        obtain ⟨j, hj, rfl⟩ := Option.map_eq_some_iff.mp e2
        obtain ⟨a, ys, rfl, hai, hH, hn, rr⟩ := R3.refI (r2.mono s3) e3
        have rx := r1.mono (s2.trans s3)
        have set_nr : nrfs (qs.set j x) = true := by
          have go : ∀ (l : List PV) (j : Nat), nrfs l = true → nrfs (l.set j x) = true := by
            intro l
            induction l with
            | nil => intro j h; exact h
            | cons y r ih =>
              intro j h
              simp only [nrfs, Bool.and_eq_true] at h
              cases j with
              | zero => simp [nrfs, nrf_of hx, h.2]
              | succ j => simp [nrfs, h.1, ih j h.2]
          exact go qs j hn
        have set_cl : ∀ lv, clows lv qs = true → clows lv (qs.set j x) = true := by
          intro lv
          have go : ∀ (l : List PV) (j : Nat), clows lv l = true → clows lv (l.set j x) = true := by
            intro l
            induction l with
            | nil => intro j h; exact h
            | cons y r ih =>
              intro j h
              simp only [clows, Bool.and_eq_true] at h
              cases j with
              | zero => simp [clows, clow_of hx, h.2]
              | succ j => simp [clows, h.1, ih j h.2]
          exact go qs j
        obtain ⟨s4, R4⟩ := R3.write hai (rr.set rx j) set_nr (fun q hq hq2 => set_cl _ (low_of R3 e3 q hq hq2))
        exact ⟨a, ys, k, j, rfl, r3.intI, hH, by rw [rr.length]; exact hj, h3 ι3 _ σ s4 R4⟩
      · cases e2
    · cases ea
/-- name += value -/
theorem s_aug (g : Good D d S X F c) {x : Str} {i : Nat} {e : Expr} {e' : E} {o : Bop} {pos py : Pos} (ho : o = .add ∨ o = .sub) (hl : locB S x = true) (hi : slot S.N x = some i) (he : PE X e (tE F (ev c e').v)) : PS X (.AugAssign (.Name x py) (opOf o) e pos) (tS F (exS c (.aug i o e'))) := by
  obtain ⟨l1, l2⟩ := g.loc hl
  have main : ∀ (ti : TIp) (f : Int → Int → Int), PIp X (opOf o) ti → ti = ipI f → (∀ ρ st, exS c (.aug i o e') ρ st = match gv ρ i with
    | some (.int x) => bnd ((ev c e').v ρ st) fun y st => match y with | .int j => .ok (.nx (ρ.set i (some (.int (f x j))))) st | _ => .bad
    | _ => .bad) → PS X (.AugAssign (.Name x py) (opOf o) e pos) (tS F (exS c (.aug i o e'))) := fun ti f hp ht hx => by
    subst ht
    refine PS.weak (ps_aug (by rw [g.N]; exact g.nd) (by rw [g.N]; exact slot_ok hi) l1 he hp l2) fun D σ H ⟨ρ, st, ι, R, h⟩ => ?_
    rw [hx] at h
    split at h
    · rename_i n en
      obtain ⟨xv, e1, r⟩ := R.env.gv en
      have := r.intI
      subst this
      refine ⟨_, e1, ?_⟩
      refine seqS R h fun st1 y yv ι1 H1 s1 R1 r1 h1 => ?_
      cases y with
      | int j => exact ⟨n, j, rfl, r1.intI, h1 ι1 H1 _ Step.refl (R1.setE (.int _))⟩
      | _ => exact h1.elim
    · exact h.elim
  rcases ho with rfl | rfl
  · refine main _ (fun i j => i + j) ip_add rfl fun ρ st => ?_
    show (match gv ρ i with | some (.int x) => _ | _ => _) = _
    split
    · congr 1
      funext y st1
      cases y <;> rfl
    · rfl
  · refine main _ (fun i j => i - j) ip_sub rfl fun ρ st => ?_
    show (match gv ρ i with | some (.int x) => _ | _ => _) = _
    split
    · congr 1
      funext y st1
      cases y <;> rfl
    · rfl
end
end PM
set_option Elab.async false
set_option linter.all false
set_option maxRecDepth 100000
set_option maxHeartbeats 4000000
/-! PM20: lists that are just made and stay; swaps; loops. -/
namespace PM
open PySem PySem.Spec PyProof.Rows L2 LamX
def repL : PV → PV → Option (List PV)
  | .lst xs, .int k => if xs.length * k.toNat ≤ SZ ∧ -(2 ^ 62) ≤ k ∧ k < 2 ^ 62 then some (List.replicate k.toNat xs).flatten else none
  | _, _ => none
def mRep (c : Cfg) (es : Es) (b : E) : Env → Store → R (List PV) := fun ρ st => bnd ((ev c (.lst es)).v ρ st) fun x st => bnd ((ev c b).v ρ st) fun y st => giv (repL x y) st
theorem repL_view {xs : List PV} {st : Store} {y : PV} : binV .mul (.lst xs) (view st y) = (repL (.lst xs) y).map .lst := by
  cases y with
  | int k =>
    show (if xs.length * k.toNat ≤ SZ ∧ -(2 ^ 62) ≤ k ∧ k < 2 ^ 62 then some (PV.lst (List.replicate k.toNat xs).flatten) else none) = (if xs.length * k.toNat ≤ SZ ∧ -(2 ^ 62) ≤ k ∧ k < 2 ^ 62 then some (List.replicate k.toNat xs).flatten else none).map PV.lst
    split <;> rfl
  | ref n =>
    show binV .mul (.lst xs) (match st[n]? with | some (.lst xs) => .lst xs | some (.dct ks vs) => .dct ks vs | none => .ref n) = none
    split <;> rfl
  | _ => rfl
theorem mRep_eq (c : Cfg) (es : Es) (b : E) (ρ : Env) (st : Store) : (ev c (.bin .mul (.lst es) b)).v ρ st = bnd (mRep c es b ρ st) fun ps st => .ok (.lst ps) st := by
  show bnd (bnd (evs c es ρ st) fun xs st => .ok (.lst xs) st) (fun x st => bnd ((ev c b).v ρ st) fun y st => giv (binV .mul (view st x) (view st y)) st) = bnd (bnd (bnd (evs c es ρ st) fun xs st => .ok (.lst xs) st) fun x st => bnd ((ev c b).v ρ st) fun y st => giv (repL x y) st) _
  rw [bnd_assoc, bnd_assoc, bnd_assoc]
  congr 1
  funext xs st1
  show bnd ((ev c b).v ρ st1) _ = bnd (bnd ((ev c b).v ρ st1) _) _
  rw [bnd_assoc]
  congr 1
  funext y st2
  show giv (binV .mul (.lst xs) (view st2 y)) st2 = _
  rw [repL_view]
  cases repL (.lst xs) y <;> rfl
section
variable {D : PD} {d : Nat} {S : SS} {X : Cx} {F : Fm} {c : Cfg}
theorem n_rep (g : Good D d S X F c) {es : List Expr} {lp pos : Pos} {b : Expr} {es' : Es} {b' : E} (ha : PE X (.List es lp) (tE F (ev c (.lst es')).v)) (hb : PE X b (tE F (ev c b').v)) : NewE X F (.BinOp (.List es lp) .Mult b pos) (mRep c es' b') := by
  refine ⟨PE.weak (pe_op op_rep ha hb) fun σ H Q ⟨ρ, st, ι, R, h⟩ => ?_⟩
  refine seqN R h fun st1 x xv ι1 H1 s1 R1 r1 h1 => ?_
  refine seqN R1 h1 fun st2 y yv ι2 H2 s2 R2 r2 h2 => ?_
  obtain ⟨z, e, h2⟩ := AftN.giv h2
  unfold repL at e
  split at e
  · rename_i xs k
    split at e
    · rename_i hz
      cases e
      obtain ⟨a, vs, rfl, ha, ho, rr⟩ := (r1.mono s2).lstJ
      have zs := zline
      refine ⟨a, k, vs, rfl, r2.intI, ha, by omega, by omega, by rw [rr.length, ← zs]; exact hz.1, fun p hp => ?_⟩
      exact AftN.new h2 R2 hp (rr.rep _)
    · cases e
  · cases e
/-- what a list that is just made reads as -/
theorem NewE.mut' {e : Expr} {e' : E} {m : Env → Store → R (List PV)} (h : NewE X F e m) (he : ∀ ρ st, (ev c e').v ρ st = bnd (m ρ st) fun ps st => .ok (.lst ps) st) : PE X e (tE F (ev c (.mut e')).v) := PE.weak h.m fun σ H Q ⟨ρ, st, ι, R, q⟩ => ⟨ρ, st, ι, R, by
  have q : Aft F (rpV F) ρ ι σ H ((ev c (.mut e')).v ρ st) Q := q
  have e1 : (ev c (.mut e')).v ρ st = bnd (m ρ st) fun ps st => if nrfs ps then .ok (.ref st.length) (st ++ [.lst ps]) else .bad := by
    show bnd ((ev c e').v ρ st) _ = _
    rw [he, bnd_assoc]
    rfl
  rw [e1] at q; exact q⟩
theorem fnIx_none {x : Str} : ∀ {l : List FnI} {i : Nat}, fnIx x l i = none ∨ ∃ j, fnIx x l i = some j := fun {l i} => by
  cases fnIx x l i with
  | none => exact .inl rfl
  | some j => exact .inr ⟨j, rfl⟩
theorem new_call (g : Good D d S X F c) (ok : D.Ok) {f : Expr → Option E} (hf : ∀ e e', f e = some e' → PE X e (tE F (ev c e').v)) {x : Str} {as : List Expr} {kws : List Keyword} {p pos : Pos} {e' : E} (hn : newB D.G S (.Call (.Name x p) as kws pos) = true) (hs : (match as with | [a] => (isSet D.G S a).isNone | _ => true) = true) (h : trCall D.G S f x as kws = some e') :
    ∃ m, NewE X F (.Call (.Name x p) as kws pos) m ∧ ∀ ρ st, (ev c e').v ρ st = bnd (m ρ st) fun ps st => .ok (.lst ps) st := by
  unfold newB at hn
  simp only [Bool.and_eq_true, Bool.or_eq_true, decide_eq_true_eq, Bool.not_eq_true'] at hn
  obtain ⟨⟨⟨hx, hfr⟩, hv⟩, hi⟩ := hn
  unfold trCall at h
  rw [hv] at h
  rw [if_neg Bool.false_ne_true] at h
  (replace h := gd_some.mp h); obtain ⟨h0, h⟩ := h
  have hi : fnIx x D.G.fns 0 = none := by
    cases e : fnIx x D.G.fns 0 with
    | none => rfl
    | some j => rw [e] at hi; cases hi
  rw [hi] at h
  dsimp only at h
  have hec : find2 x D.G.ec = none := by
    cases e : find2 x D.G.ec with
    | none => rfl
    | some kc =>
      obtain ⟨_, h2, _, _⟩ := frB_of g ok hfr
      rw [g.mg, ok.ec x kc e] at h2
      cases h2
  rw [hec] at h
  dsimp only at h
  split at h
  · (replace h := gd_some.mp h); obtain ⟨h1, h⟩ := h
    split at h
    · cases h
    · rename_i a
      split at h
      · rename_i rs hrs
        unfold isRange at hrs
        split at hrs
        · rename_i y as' p2 p3
          (replace hrs := gd_some.mp hrs); obtain ⟨r0, hrs⟩ := hrs
          simp only [Bool.and_eq_true, decide_eq_true_eq] at r0
          obtain ⟨rfl, hr⟩ := r0
          cases hrs
          split at h
          · rename_i hx
            subst hx
            split at h
            · (replace h := gd_some.mp h); obtain ⟨n0, h⟩ := h
              obtain ⟨b', hb, rfl⟩ := Option.map_eq_some_iff.mp h
              exact ⟨_, n_lr1 g ok hfr hr n0 (hf _ _ hb), bn_eq⟩
            · (replace h := gd_some.mp h); obtain ⟨n0, h⟩ := h
              simp only [Bool.and_eq_true] at n0
              (replace h := Option.bind_eq_some_iff.mp h); obtain ⟨b', hb, h⟩ := h
              obtain ⟨c', hc, rfl⟩ := Option.map_eq_some_iff.mp h
              exact ⟨_, n_lr2 g ok hfr hr n0.1 n0.2 (hf _ _ hb) (hf _ _ hc), bn_eq⟩
            · cases h
          · rename_i hxl
            rcases hx with rfl | rfl
            · exact absurd rfl hxl
            · rw [if_neg (by decide)] at h
              cases h
        · cases hrs
      · split at h
        · rename_i b hb
          dsimp only at hs
          rw [hb] at hs
          cases hs
        · (replace h := gd_some.mp h); obtain ⟨n0, h⟩ := h
          (replace h := Option.bind_eq_some_iff.mp h); obtain ⟨a', ha, h⟩ := h
          have A : PA X [a] (tA F (evs c (.cons a' .nil))) := (a_args hf (as := [a]) (by unfold trEs; rw [n0, ha]; rfl)).1
          have nb : find3 x 1 bnames = none := by rcases hx with rfl | rfl <;> decide
          rw [nb] at h
          obtain ⟨b, hb, rfl⟩ := Option.map_eq_some_iff.mp h
          exact ⟨_, n_bn g ok hfr hb A (star_cons n0) rfl, bn_eq⟩
    · rename_i a b
      rw [if_neg (by rcases hx with rfl | rfl <;> decide)] at h
      (replace h := Option.bind_eq_some_iff.mp h); obtain ⟨es, hes, h⟩ := h
      obtain ⟨o, ho, rfl⟩ := Option.map_eq_some_iff.mp h
      have nb : find3 x 2 bnames = none := by rcases hx with rfl | rfl <;> decide
      rw [nb] at ho
      cases ho
    · cases h
  · cases h
/-! ### loops -/
def forG (f : PV → Env → Store → R Fl) : ItV → Nat → Nat → Env → Store → R Fl
  | .fix xs, _, i, ρ, st => forL f (xs.drop i) ρ st
  | .dyn n, m, i, ρ, st => forD f n m i ρ st
theorem forG_eq {f : PV → Env → Store → R Fl} {I : ItV} {m i : Nat} {ρ : Env} {st : Store} (o : okI I m i) : forG f I m i ρ st = match nextI I m i st with
    | none => .bad
    | some none => .ok (.nx ρ) st
    | some (some x) => bnd (f x ρ st) fun fl st => match fl with
      | .nx ρ => forG f I (m - 1) (i + 1) ρ st | .ct ρ => forG f I (m - 1) (i + 1) ρ st | .bk ρ => .ok (.nx ρ) st | .rt v => .ok (.rt v) st := by
  cases I with
  | fix xs =>
    obtain ⟨o1, o2⟩ := o
    simp only [nextI, forG]
    cases e : xs[i]? with
    | none =>
      rw [List.drop_eq_nil_of_le (List.getElem?_eq_none_iff.mp e)]
      rfl
    | some x =>
      obtain ⟨h1, h2⟩ := List.getElem?_eq_some_iff.mp e
      rw [List.drop_eq_getElem_cons h1, h2]
      rfl
  | dyn n =>
    cases m with
    | zero => rfl
    | succ m =>
      simp only [nextI, forG, forD, Nat.add_sub_cancel]
      cases e : st[n]? with
      | none => rfl
      | some ob =>
        cases ob with
        | dct ks vs => rfl
        | lst xs =>
          cases e2 : xs[i]? with
          | none => simp [e2]
          | some x => simp [e2] <;> rfl
def foF (c : Cfg) (t : Tg) (b : Ss) : PV → Env → Store → R Fl := fun x ρ st => match asgT t x ρ with | some ρ => exSs c b ρ st | none => .bad
theorem ex_fo (c : Cfg) (t : Tg) (it : PM.It) (b : Ss) (ρ : Env) (st : Store) : exS c (.fo t it b) ρ st = bnd (evI c it ρ st) fun I st => forG (foF c t b) I (fuelI c.W I) 0 ρ st := by
  show bnd (evI c it ρ st) _ = _
  congr 1
  funext I st1
  cases I <;> rfl
theorem s_for (g : Good D d S X F c) (hp : PassesOwn (model X.prog X.w) X.A X.env X.xe) {tg iter : Expr} {body : List Stmt} {pos : Pos} {n : Nat} {t : Tg} {it : PM.It} {b : Ss} (hi : PI X tg iter (iM F (evI c it))) (ht : trT S n tg = some t) (hb : PSs X body (tS F (exSs c b))) (hs : ∀ x, foldedSetIterable iter X.env x = pure x) :
    PS X (.For tg iter body [] pos) (tS F (exS c (.fo t it b))) := by
  refine PS.weak (ps_for hp g.calm hi (t_ok g ht) hb hs) fun D0 σ H ⟨ρ, st, ι, R, h⟩ => ?_
  rw [ex_fo] at h
  refine ⟨ρ, st, ι, R, ?_⟩
  revert h
  cases evI c it ρ st with
  | exc k v st1 => exact fun h d x ι' H' s' R' e n q => h d x ρ ι' H' σ s' R' e n q
  | bad => exact fun h => h
  | ok VI st1 =>
    intro h J ι1 H1 s1 R1 j1
    have h : AftS F ι H (forG (foF c t b) VI (fuelI c.W VI) 0 ρ st1) D0 := h
    refine ⟨fun i m σ H => ∃ (ρ : Env) (st : Store) (ι : List Addr), F.Rl ρ st ι σ H ∧ JV F.C ι H J VI ∧ okI VI m i ∧ AftS F ι H (forG (foF c t b) VI m i ρ st) D0, ⟨fuelI c.W VI, ρ, st1, ι1, R1, j1, ?_, AftS.step h s1⟩, ?_⟩
    · cases VI with
      | fix xs => exact ⟨Nat.zero_le _, rfl⟩
      | dyn n => exact True.intro
    · rintro i m σ2 H2 ⟨ρ2, st2, ι2, R2, j2, o2, h2⟩
      rw [forG_eq o2] at h2
      cases hn : nextI VI m i st2 with
      | none => rw [hn] at h2; exact h2.elim
      | some op =>
        rw [hn] at h2
        cases op with
        | none =>
          exact .inl ⟨j2.last R2 hn o2, h2 ι2 H2 σ2 Step.refl R2⟩
        | some x =>
          obtain ⟨go, yl⟩ := j2.next R2 hn
          obtain ⟨m1, o3⟩ := nextI_lt hn o2
          refine .inr ⟨go, fun σ' H' => ∃ (ρ : Env) (st : Store) (ι : List Addr), F.Rl ρ st ι σ' H' ∧ JV F.C ι H' J VI ∧ AftS F ι H' (forG (foF c t b) VI (m - 1) (i + 1) ρ st) D0, fun σ' H' ⟨ρ', st', ι', R', j', h'⟩ => ⟨m - 1, m1, ρ', st', ι', R', j', o3, h'⟩, fun xv H3 y => ?_⟩
          obtain ⟨s3, R3, r3⟩ := yl xv H3 y
          have h3 : AftS F ι2 H3 (bnd (foF c t b x ρ2 st2) fun fl st => match fl with
            | .nx ρ => forG (foF c t b) VI (m - 1) (i + 1) ρ st | .ct ρ => forG (foF c t b) VI (m - 1) (i + 1) ρ st | .bk ρ => .ok (.nx ρ) st | .rt v => .ok (.rt v) st) D0 := AftS.step h2 s3
          unfold foF at h3
          cases ea : asgT t x ρ2 with
          | none => rw [ea] at h3; exact h3.elim
          | some ρ4 =>
            rw [ea] at h3
            refine ⟨ρ2, st2, ι2, x, ρ4, R3, r3, ea, fun σ4 R4 _ _ => ⟨ρ4, st2, ι2, R4, ?_⟩⟩
            have h3 : AftS F ι2 H3 (bnd (exSs c b ρ4 st2) fun fl st => match fl with
              | .nx ρ => forG (foF c t b) VI (m - 1) (i + 1) ρ st | .ct ρ => forG (foF c t b) VI (m - 1) (i + 1) ρ st | .bk ρ => .ok (.nx ρ) st | .rt v => .ok (.rt v) st) D0 := h3
            have j3 := j2.mono s3
            revert h3
            cases exSs c b ρ4 st2 with
            | bad => exact fun h => h
            | exc k v st5 => exact fun h => h
            | ok fl st5 =>
              cases fl with
              | nx ρ5 => exact fun h ι' H' σ' s' R' => ⟨ρ5, st5, ι', R', j3.mono s', AftS.step h s'⟩
              | ct ρ5 => exact fun h ι' H' σ' s' R' => ⟨ρ5, st5, ι', R', j3.mono s', AftS.step h s'⟩
              | bk ρ5 => exact fun h ι' H' σ' s' R' => h ι' H' σ' s' R'
              | rt v => exact fun h => h
theorem s_wh (g : Good D d S X F c) (hp : PassesOwn (model X.prog X.w) X.A X.env X.xe) {t : Expr} {body : List Stmt} {pos : Pos} {t' : E} {b : Ss} (ht : PT X t (tT F (ev c t').t)) (hb : PSs X body (tS F (exSs c b))) :
    PS X (.While t body [] pos) (tS F (exS c (.wh t' b))) := by
  refine PS.weak (ps_while hp ht hb) fun D0 σ H ⟨ρ, st, ι, R, h⟩ => ?_
  have h : AftS F ι H (whl (fun ρ st => (ev c t').t ρ st) (fun ρ st => exSs c b ρ st) c.W ρ st) D0 := h
  refine ⟨fun m σ H => ∃ (ρ : Env) (st : Store) (ι : List Addr), F.Rl ρ st ι σ H ∧ AftS F ι H (whl (fun ρ st => (ev c t').t ρ st) (fun ρ st => exSs c b ρ st) m ρ st) D0, ⟨c.W, ρ, st, ι, R, h⟩, ?_⟩
  rintro m σ1 H1 ⟨ρ1, st1, ι1, R1, h1⟩
  cases m with
  | zero => exact h1.elim
  | succ m =>
    have h1 : AftS F ι1 H1 (bnd ((ev c t').t ρ1 st1) fun k st => if k then bnd (exSs c b ρ1 st) fun fl st => (match fl with
      | .nx ρ => whl (fun ρ st => (ev c t').t ρ st) (fun ρ st => exSs c b ρ st) m ρ st | .ct ρ => whl (fun ρ st => (ev c t').t ρ st) (fun ρ st => exSs c b ρ st) m ρ st | .bk ρ => .ok (.nx ρ) st | .rt v => .ok (.rt v) st) else .ok (.nx ρ1) st) D0 := h1
    refine seqS R1 h1 fun st2 x xv ι2 H2 s2 R2 r2 h2 => ?_
    have r2 : xv = x := r2
    subst r2
    cases xv with
    | false =>
      rw [if_neg Bool.false_ne_true] at h2 ⊢
      exact h2 ι2 H2 σ1 Step.refl R2
    | true =>
      rw [if_pos rfl] at h2 ⊢
      refine ⟨fun σ' H' => ∃ (ρ : Env) (st : Store) (ι : List Addr), F.Rl ρ st ι σ' H' ∧ AftS F ι H' (whl (fun ρ st => (ev c t').t ρ st) (fun ρ st => exSs c b ρ st) m ρ st) D0, fun σ' H' z => ⟨m, Nat.lt_succ_self m, z⟩, ρ1, st2, ι2, R2, ?_⟩
      revert h2
      cases exSs c b ρ1 st2 with
      | bad => exact fun h => h
      | exc k v st5 => exact fun h => h
      | ok fl st5 =>
        cases fl with
        | nx ρ5 => exact fun h ι' H' σ' s' R' => ⟨ρ5, st5, ι', R', AftS.step h s'⟩
        | ct ρ5 => exact fun h ι' H' σ' s' R' => ⟨ρ5, st5, ι', R', AftS.step h s'⟩
        | bk ρ5 => exact fun h ι' H' σ' s' R' => h ι' H' σ' s' R'
        | rt v => exact fun h => h
/-! ### swaps -/
theorem swNm_ok {sc : Scope} {l : Nat} {e : Expr} {x : Str} (h : swNm sc l e = some x) : ∃ p, e = .Name x p ∧ sc.names.lookup x = some .local := by
  unfold swNm at h
  split at h
  · rename_i id pos
    split at h
    · rename_i z
      simp only [Bool.and_eq_true, beq_iff_eq] at z
      cases h
      exact ⟨pos, rfl, z.1⟩
    · cases h
  · cases h
theorem s_par2 (g : Good D d S X F c) {x y : Str} {px py tp vp pos : Pos} {kt kv : Nat} {a b : Expr} {i j : Nat} {es : Es} (hx : S.sc.names.lookup x = some .local) (hy : S.sc.names.lookup y = some .local) (hi : slot S.N x = some i) (hj : slot S.N y = some j) (hij : i ≠ j)
    (ha : PA X [a, b] (tA F (evs c es))) (hw : swappedStores [.Tuple [.Name x px, .Name y py] kt tp] (.Tuple [a, b] kv vp) X.env = pure (some [x, y])) :
    PS X (.Assign [.Tuple [.Name x px, .Name y py] kt tp] (.Tuple [a, b] kv vp) pos) (tS F (exS c (.asg (.t [.n i, .n j]) (.tup es)))) := by
  refine PS.weak (ps_par g.calm (by rw [g.N]; exact g.nd) (by rw [g.N]; exact slot_ok hi) (by rw [g.N]; exact slot_ok hj) hij (by rw [g.sc]; exact hx) (by rw [g.sc]; exact hy) ha hw) fun D0 σ H ⟨ρ, st, ι, R, h⟩ => ?_
  have h : AftS F ι H (bnd (bnd (evs c es ρ st) fun xs st => .ok (.tup xs) st) fun x st => match asgT (.t [.n i, .n j]) x ρ with | some ρ => .ok (.nx ρ) st | none => .bad) D0 := h
  rw [bnd_assoc] at h
  refine seqS R h fun st1 xs xvs ι1 H1 s1 R1 r1 h1 => ?_
  have h1 : AftS F ι1 H1 (match asgTs [.n i, .n j] xs ρ with | some ρ => .ok (.nx ρ) st1 | none => .bad) D0 := h1
  cases r1 with
  | nil => exact h1.elim
  | cons r1 r1' =>
    cases r1' with
    | nil => exact h1.elim
    | cons r2 r2' =>
      cases r2' with
      | cons _ _ => exact h1.elim
      | nil => exact ⟨_, _, rfl, h1 ι1 H1 _ Step.refl ((R1.setE r1).setE r2)⟩
theorem s_par3 (g : Good D d S X F c) {x y z : Str} {px py pz tp vp pos : Pos} {kt kv : Nat} {a b e : Expr} {i j k : Nat} {es : Es} (hx : S.sc.names.lookup x = some .local) (hy : S.sc.names.lookup y = some .local) (hz : S.sc.names.lookup z = some .local) (hi : slot S.N x = some i) (hj : slot S.N y = some j) (hk : slot S.N z = some k) (hij : i ≠ j) (hik : i ≠ k) (hjk : j ≠ k)
    (ha : PA X [a, b, e] (tA F (evs c es))) (hw : swappedStores [.Tuple [.Name x px, .Name y py, .Name z pz] kt tp] (.Tuple [a, b, e] kv vp) X.env = pure (some [x, y, z])) :
    PS X (.Assign [.Tuple [.Name x px, .Name y py, .Name z pz] kt tp] (.Tuple [a, b, e] kv vp) pos) (tS F (exS c (.asg (.t [.n i, .n j, .n k]) (.tup es)))) := by
  refine PS.weak (ps_par3 g.calm (by rw [g.N]; exact g.nd) (by rw [g.N]; exact slot_ok hi) (by rw [g.N]; exact slot_ok hj) (by rw [g.N]; exact slot_ok hk) hij hik hjk (by rw [g.sc]; exact hx) (by rw [g.sc]; exact hy) (by rw [g.sc]; exact hz) ha hw) fun D0 σ H ⟨ρ, st, ι, R, h⟩ => ?_
  have h : AftS F ι H (bnd (bnd (evs c es ρ st) fun xs st => .ok (.tup xs) st) fun x st => match asgT (.t [.n i, .n j, .n k]) x ρ with | some ρ => .ok (.nx ρ) st | none => .bad) D0 := h
  rw [bnd_assoc] at h
  refine seqS R h fun st1 xs xvs ι1 H1 s1 R1 r1 h1 => ?_
  have h1 : AftS F ι1 H1 (match asgTs [.n i, .n j, .n k] xs ρ with | some ρ => .ok (.nx ρ) st1 | none => .bad) D0 := h1
  cases r1 with
  | nil => exact h1.elim
  | cons r1 r1' =>
    cases r1' with
    | nil => exact h1.elim
    | cons r2 r2' =>
      cases r2' with
      | nil => exact h1.elim
      | cons r3 r3' =>
        cases r3' with
        | cons _ _ => exact h1.elim
        | nil => exact ⟨_, _, _, rfl, h1 ι1 H1 _ Step.refl (((R1.setE r1).setE r2).setE r3)⟩
/-- name = [..] on one line -/
theorem s_setLc (g : Good D d S X F c) {y : Str} {j : Nat} {py spos : Pos} {elt tg iter : Expr} {ifs : List Expr} {scope : Scope} {pos : Pos} {t : Tg} {it : PM.It} {cnd : Option E} {e' : E} {n : Nat}
    (hy : S.sc.names.lookup y = some .local) (hj : slot S.N y = some j) (hsw : swapsWith (.ListComp elt [⟨tg, iter, ifs, 0⟩] scope pos) (some (.Name y py)) spos.line X.env = pure true)
    (hi : PI X tg iter (iM F (evI c it))) (ok : BlkOk X.N X.env.scope scope (ownOf S.N scope.names)) (ht : trT (S.blk scope) n tg = some t)
    (ho : ∀ p ∈ ownOf S.N scope.names, p.2 ∈ tgSlots t) (ho2 : ∀ i ∈ tgSlots t, i ∈ (ownOf S.N scope.names).map (·.2))
    (hc : (ifs = [] ∧ cnd = none) ∨ ∃ q q', ifs = [q] ∧ cnd = some q' ∧ ∀ X' F' c', Good D d (S.blk scope) X' F' c' → PT X' q (tT F' (ev c' q').t))
    (he : ∀ X' F' c', Good D d (S.blk scope) X' F' c' → PE X' elt (tE F' (ev c' e').v)) (hs : ∀ x, foldedSetIterable iter X.env x = pure x) :
    PS X (.Assign [.Name y py] (.ListComp elt [⟨tg, iter, ifs, 0⟩] scope pos) spos) (tAsg (tN F (cmM c t it cnd e')) (gName j)) := by
  have hyl : X.env.scope.names.lookup y = some .local := by rw [g.sc]; exact hy
  refine ⟨fun pins s σ H D0 I h => ?_⟩
  rw [exec_Assign_Name_used _ _ _ _ hsw]
  refine wpAny_bind (wpAny_standAt (wpAny_bind ?_))
  show wpAny _ X.A (do let _ ← comprehension (.ListComp elt [⟨tg, iter, ifs, 0⟩] scope pos) scope X.env (firstIterPos [⟨tg, iter, ifs, 0⟩] pos) (newList []) false (eval iter X.env) (some (assign (.Name y py) X.env))) _ _ s
  have h : tN F (cmM c t it cnd e') σ H (fun x H1 => gName j x σ H1 D0.nx) := h
  refine wpAny_bind (thn (cm_core (Qf := fun _ s' => SP X pins D0 .next s') g I hi ok ht ho ho2 hc he hs h fun L C s' m H' I' q hn f => ?_) fun _ s' hq => wpAny_pure (wpAny_pure hq))
  show wpAny _ _ (assign (.Name y py) X.env (.ref L)) _ _ _
  refine wpAny_assign_Name (store_ok2 (v := V.ref L) I' (by rw [g.N]; exact g.nd) (by rw [g.N]; exact slot_ok hj) (.inl hyl) rfl (fun s2 I2 ⟨a, sb, ha⟩ => ?_) (.inr hyl))
  obtain ⟨f0, f1, f2, f3, f4, f5⟩ := f
  have haC : C ≠ a := by
    rcases ha with z | z
    · rw [z]; exact f1
    · exact fun e => f4 y a z e.symm
  refine ⟨m, hn.sameBut sb haC, fun h3 sb3 => ?_⟩
  exact ⟨_, H', I2.turned (t' := s2.toks) (fun b o hb e => (sb3.2 b hb).trans e) f0 f1 f3 f4 f5, q⟩
end
end PM
set_option Elab.async false
set_option linter.all false
set_option maxRecDepth 100000
set_option maxHeartbeats 4000000
/-! PM21: try. -/
namespace L2
open PySem PySem.Spec PyProof.Rows
section
variable {X : Cx} {pins : List (Addr × Obj)} {σ : St} {H : Hp} {s : Shared}
/-- an object that is there and not told is told from here on -/
theorem Inv.note {a : Addr} {o : HO} (I : Inv X pins σ H s) (ha : H a = none) (n0 : X.s_0.heap.get? a = none) (nL : a ≠ X.env.locals) (nc : ∀ x c, X.env.cells.lookup x = some c → c ≠ a) (np : ∀ p ∈ X.pn ++ pins, p.1 ≠ a) (new : ObjOk X.prog X.w (upd H a o) s.heap a o) : Inv X pins σ (upd H a o) s := by
  have ne : ∀ {b u}, H b = some u → b ≠ a := fun h => ne_of_none h ha
  refine ⟨I.ok, I.os, I.bare, ⟨I.base.keep, I.base.slot, fun b u e n hx => ?_, I.base.there, fun b xs e => ?_, fun b u w e => ?_, fun b ps e => ?_⟩, I.loc, I.cell, ?_, fun x c e => ?_, fun p hp => ?_, fun b u e => ?_, I.len⟩
  · rw [upd_ne (fun z => by rw [z, n0] at e; cases e)]
    exact I.base.free b u e n hx
  · have h := I.base.tups b xs e
    rw [upd_ne (ne h)]; exact h
  · have h := I.base.frzs b u w e
    rw [upd_ne (ne h)]; exact h
  · obtain ⟨m, h⟩ := I.base.tbls b ps e
    exact ⟨m, by rw [upd_ne (ne h)]; exact h⟩
  · rw [upd_ne (Ne.symm nL)]; exact I.free
  · rw [upd_ne (nc x c e)]; exact I.freeC x c e
  · obtain ⟨h1, h2, h3⟩ := I.pin p hp
    exact ⟨h1, by rw [upd_ne (np p hp)]; exact h2, h3⟩
  · by_cases hb : b = a
    · subst hb; rw [upd_same] at e; cases e; exact new
    · rw [upd_ne hb] at e
      exact (I.hok b u e).stay (fun c v _ q => q) (fun c q => by rw [upd_ne (ne q)]; exact q) fun c xs q => by rw [upd_ne (ne q)]; exact q
/-- name = name, in an except suite -/
theorem ps_copy {i j : Nat} {x y : Str} {px py pos : Pos} (hN : X.N.Nodup) (hi : X.N[i]? = some x) (hj : X.N[j]? = some y) (hx : Loc X.env.scope x) (hf : X.fn x = true ∨ X.env.scope.names.lookup x = some .local) (hy : Vis X.env.scope y) (hd : (y == ("__debug__" : Str)) = false) (hcd : (y == ("__classdict__" : Str)) = false) :
    PSs X [.Assign [.Name x px] (.Name y py) pos] (fun D σ H => ∃ v, σ[j]? = some (some v) ∧ D.nx (σ.set i (some v)) H) :=
  PM.PSs.weak (pss_cons (ps_set hN hi hx (pe_var hj hy hd hcd) rfl hf) pss_nil) fun D σ H ⟨v, e, q⟩ => ⟨v, e, q⟩
end
/-- what 'except x as n: z = n' wishes of an error of the body -/
def wOne (K : PySem.W.Frag) (c : Value) (i j : Nat) (Wout : WX) (D : Ends) : WX := fun cls d σ H =>
  ∃ b, PySem.W.exmOne K cls c = some b ∧ (b = true → ∃ dd, d = some dd ∧ ∀ a, H a = none → D.nx (((σ.set i (some (.ref a))).set j (some (.ref a))).set i none) (upd H a (PM.ExD cls dd a))) ∧ (b = false → Wout cls d σ H)
section
variable {X : Cx} {x n z : Str} {c : Value} {i j : Nat} {body : List Stmt} {np pz pn pos pos' pos2 : Pos} {tb : WX → TS} {Wout : WX}
theorem ps_try_one (hex : X.ex = []) (hs : X.stack = X.env :: X.outer) (hf : X.env.frame = some X.env.locals) (hN : X.N.Nodup) (hi : X.N[i]? = some n) (hln : X.env.kindOf n = some .local) (hj : X.N[j]? = some z) (hz : Loc X.env.scope z) (hzf : X.fn z = true ∨ X.env.scope.names.lookup z = some .local)
    (hd1 : (n == ("__debug__" : Str)) = false) (hd2 : (n == ("__classdict__" : Str)) = false) (hc : Names X x c) (tk : Takes X Wout)
    (hb : ∀ (W : WX) (pn : List (Addr × Obj)) (xe : Value → Shared → Prop), Takes (X.tr pn xe) W → PassesOwn (model X.prog X.w) X.A X.env xe → PSs (X.tr pn xe) body (tb W)) :
    PS X (.Try body [.ExceptHandler (some (.Name x np)) (some n) [.Assign [.Name z pz] (.Name n pn) pos2] pos'] [] [] pos) (fun D σ H => tb (wOne X.K c i j Wout D) D σ H) := by
  refine ⟨fun pins s σ H D I h => ?_⟩
  have ok := I.ok
  have hfr : X.A.frames = some (X.env :: X.outer) := by rw [ok.frames, hs]
  have hloc : Loc X.env.scope n := .inl hln
  refine wpAny_Try_except ?_
  refine wpAny_mono ((hb (wOne X.K c i j Wout D) (X.pn ++ pins) (fun e s₁ => wpAny (model X.prog X.w) X.A (noteFrame e X.env) (fun _ s₂ => wpAny (model X.prog X.w) X.A (setFlight e none) (fun _ s₃ =>
    wpAny (model X.prog X.w) X.A (handleBy e X.env [.ExceptHandler (some (.Name x np)) (some n) [.Assign [.Name z pz] (.Name n pn) pos2] pos']) (SP X pins D) X.xe s₃) X.xe s₂) X.xe s₁) (fun u s' xx => ?_) PassesOwn.looking).run [] s σ H D (I.toTry _) h) (fun f s1 hsp => ?_) (fun e s1 he => he)
  · -- caught
    obtain ⟨a, B, sI, pins', σ', H', cls, d, rfl, J', nb, up, sky, na, os, ag, b, hb1, hyes, hno⟩ := xx
    have J : Inv X pins σ' H' sI := J'.ofTry ok
    have sky' : Sky B (X.env :: X.outer) a (Zc cls d) X.env.locals s'.heap := by rw [← hs]; exact sky
    have hBa : B.get? a = none := by
      rcases sky' with ⟨_, q, _⟩ | q | q
      · exact q
      · exact q.2.1
      · exact q.2.1
    show wpAny (model X.prog X.w) X.A (noteFrame (.ref a) X.env) _ _ _
    refine Sky.land Zc.steady hfr hf sky' fun h3 fl3 up3 => ?_
    have J3 : Inv X pins σ' H' { s' with heap := h3 } := J.landed nb fl3.1 (up.trans up3) os ag
    obtain ⟨oe3, vs3, he3, hz3, hd3⟩ := fl3.there
    have nfr : a ∉ frs (X.env :: X.outer) := fun hm => by
      obtain ⟨_, o', e', hnf⟩ := fl3.2.2.1.mem hm
      rw [he3] at e'; cases e'
      exact hnf _ hd3
    have nL : a ≠ X.env.locals := fun z => nfr (List.mem_filterMap.mpr ⟨X.env, List.mem_cons_self, by rw [hf, z]⟩)
    have nF : a ∉ X.fs := fun hm => by
      obtain ⟨e, he, q⟩ := List.mem_filterMap.mp hm
      exact nfr (List.mem_filterMap.mpr ⟨e, List.mem_cons_of_mem _ he, q⟩)
    have nst : a ∉ frs X.stack := by rw [hs]; exact nfr
    have nsI : sI.heap.get? a = none := by
      cases q : sI.heap.get? a with
      | none => rfl
      | some o =>
        have w := nb a o q nst
        rw [hBa] at w; cases w
    have n0 : X.s_0.heap.get? a = none := by
      cases q : X.s_0.heap.get? a with
      | none => rfl
      | some o =>
        have hx : a ∉ X.ex := by rw [hex]; simp
        obtain ⟨o', w⟩ := J.base.there a o q hx
        rw [nsI] at w; cases w
    have npin : ∀ p ∈ X.pn ++ pins, p.1 ≠ a := fun p hp w => by
      have q := (J.pin p hp).1
      rw [w, nsI] at q; cases q
    have S3 := J3.suite he3 hd3 na nL nF
    refine wpAny_handleBy_cons (codeAny_handlers_test ?_) (by intro q; cases q)
    have LT : PySem.W.Looks (model X.prog X.w) h3 (typeOf (.ref a)) cls := fun A Q E s k q => wpAny_typeOf_ref (k _ _ he3) (by rw [hz3.1]; exact q)
    have LM := PySem.W.exm_one (M := model X.prog X.w) (J3.kIn) LT hb1
    have test : ∀ {Q : Value → Shared → Prop} {E : Value → Shared → Prop}, Q c { s' with heap := h3 } → wpAny (model X.prog X.w) (X.A.mark (some (.ref a))) (eval (.Name x np) X.env) Q E { s' with heap := h3 } := fun {Q E} q => by
      obtain ⟨hg, hdbg, hm | ⟨hm, hv, hnn⟩⟩ := hc
      · exact ld_glob (X := X.suite a ((a, oe3) :: (X.pn ++ pins))) S3 hg hm q hdbg
      · exact ld_blt (X := X.suite a ((a, oe3) :: (X.pn ++ pins))) S3 hg hm hv q hnn hdbg
    refine test (LM.here ?_)
    cases b with
    | true =>
      (replace hyes := hyes rfl); obtain ⟨dd, rfl, hyes⟩ := hyes
      refine codeAny_handlers_suite_as ?_
      refine HandSPX.lands_againZ fl3 fun h4 fl4 up4 => ?_
      have J4 : Inv X pins σ' H' { s' with heap := h4 } := J.landed nb fl4.1 ((up.trans up3).trans up4) os ag
      obtain ⟨oe4, vs4, he4, hz4, hd4⟩ := fl4.there
      have S4 := J4.suite he4 hd4 na nL nF
      have hiσ : i < σ'.length := by rw [J.len]; exact (List.getElem?_eq_some_iff.mp hi).1
      refine store_ok (X := X.suite a ((a, oe4) :: (X.pn ++ pins))) (v := .ref a) S4 hN hi hloc rfl (fun s5 S5 => ?_) (.inr hln)
      refine wpAny_mono ((ps_copy (X := X.suite a ((a, oe4) :: (X.pn ++ pins))) hN hj hi hz hzf (.inl hln) hd1 hd2).run [] s5 _ H' { nx := fun σ6 H6 => σ6 = (σ'.set i (some (.ref a))).set j (some (.ref a)) ∧ H6 = H', rt := fun _ _ => False } S5 ⟨.ref a, by rw [List.getElem?_set_self hiσ], rfl, rfl⟩) (fun f s6 hsp => ?_) (fun _ _ z => False.elim z)
      cases f with
      | next =>
        obtain ⟨σ6, H6, S6, e6, e7⟩ := hsp
        subst e6 e7
        have ha6 := (S6.pin (a, oe4) (List.mem_append_left _ List.mem_cons_self)).1
        have J6 : Inv X pins _ H6 s6 := S6.unsuite ok
        have J7 := J6.note (o := PM.ExD cls dd a) na n0 nL (fun x c e w => by
          obtain ⟨v, oc, q, qd⟩ := J6.cell x c e
          rw [w, ha6] at q; cases q
          rw [hd4] at qd; cases qd) npin ⟨⟨oe4, vs4, ha6, hz4, hd4⟩, ⟨_, ha6⟩, fun h1 h2 ⟨oe, vs, e1, e2, e3⟩ st => ⟨oe, vs, st _ e1, e2, e3⟩⟩
        exact gone_ok J7 hN hi hln fun s7 J8 => ⟨_, _, J8, hyes a na⟩
      | brk => obtain ⟨_, _, _, q⟩ := hsp; exact q.elim
      | cont => obtain ⟨_, _, _, q⟩ := hsp; exact q.elim
      | ret u => obtain ⟨_, _, _, _, _, q⟩ := hsp; exact q.elim
    | false =>
      show wpAny _ X.A (handleBy (.ref a) X.env []) _ _ _
      refine wpAny_handleBy_nil ?_
      obtain ⟨k1, k2, k3, oe, vs, T, oT, ts', he, hz, hd, h1, hr⟩ := id fl3
      unfold PySem.passOn
      refine wpAny_bind (wpAny_field he hd h1 ?_)
      rw [if_neg (show ¬ ((Value.ref T == Value.none) = true) from by simp)]
      have fin : wpAny (model X.prog X.w) X.A (setFlight (.ref a) X.env.frame) (fun _ s4 => wpAny (model X.prog X.w) X.A (throw (.ref a) : Sem Flow) (SP X pins D) X.xe s4) X.xe { s' with heap := h3 } := by
        rw [hf]
        refine HandSPX.setFlight_upZ fl3 fun h4 hh4 up4 => wpAny_throw (tk _ _ ?_)
        exact ⟨a, B, sI, pins, σ', H', cls, d, rfl, J, nb, (up.trans up3).trans up4, .inr (.inr (by rw [hs]; exact hh4)), na, os, ag, hno rfl⟩
      first
        | exact wpAny_bind (wpAny_pure (wpAny_bind fin))
        | exact wpAny_bind fin
  · cases f with
    | next =>
      obtain ⟨σ', H', J', q⟩ := hsp
      exact wpAny_execs_nil ⟨σ', H', J'.ofTry ok, q⟩
    | brk =>
      obtain ⟨σ', H', J', q⟩ := hsp
      exact ⟨σ', H', J'.ofTry ok, q⟩
    | cont =>
      obtain ⟨σ', H', J', q⟩ := hsp
      exact ⟨σ', H', J'.ofTry ok, q⟩
    | ret u =>
      obtain ⟨v, σ', H', J', r, q⟩ := hsp
      exact ⟨v, σ', H', J'.ofTry ok, r, q⟩
end
end L2
namespace PM
open PySem PySem.Spec PyProof.Rows L2 LamX
/-- a context of a def's own frame -/
structure Own (X : Cx) : Prop where
  st : X.stack = X.env :: X.outer
  fr : X.env.frame = some X.env.locals
  ps : PassesOwn (model X.prog X.w) X.A X.env X.xe
  ex : X.ex = []
structure PD.Tr (D : PD) : Prop where
  ex : ∀ c x d, find2 x D.G.ec = some d → PySem.W.exmOne D.K (.ref (D.cA c)) (.ref (D.cA d)) = some (subE c d)
section
variable {D : PD} {d : Nat} {S : SS} {X : Cx} {F : Fm} {c : Cfg}
theorem Good.tr (g : Good D d S X F c) {pn : List (Addr × Obj)} {xe : Value → Shared → Prop} {W : WX} (tk : Takes (X.tr pn xe) W) : Good D d S (X.tr pn xe) { F with W := W } c :=
  ⟨g.prog, g.w, g.K, g.mg, g.base, g.calm, g.gds, g.room, g.N, g.nd, g.sc, g.fn, g.Fk, g.FcA, g.FT, tk, g.nb, g.cf, g.cl, g.lv, g.lZ, g.own, g.blk, g.lev, g.cells, g.lvok, g.lam⟩
theorem REnv.setN {C : Ct} {ι : List Addr} {H : Hp} {σ : L2.St} {ρ : Env} (r : REnv C ι H σ ρ) (hl : ρ.length = σ.length) (i : Nat) : REnv C ι H (σ.set i none) (ρ.set i none) := fun k v e => by
  by_cases hk : k = i
  · subst hk
    by_cases hlt : k < ρ.length
    · rw [List.getElem?_set_self hlt] at e; cases e
    · rw [List.getElem?_eq_none (by simpa using hlt)] at e; cases e
  · rw [List.getElem?_set_ne (Ne.symm hk)] at e
    obtain ⟨x, e1, e2⟩ := r k v e
    exact ⟨x, by rw [List.getElem?_set_ne (Ne.symm hk)]; exact e1, e2⟩
theorem s_try (g : Good D d S X F c) (O : Own X) (ok : D.Ok) (tr : D.Tr) {y x n z : Str} {py pos1 np pz pn pos2 pos' pos : Pos} {e : Expr} {e' : E} {i k err dst : Nat} (hy : locB S y = true) (hi : slot S.N y = some i) (hx : glB S.sc x = true) (hxn : okName x = true) (hk : find2 x D.G.ec = some k)
    (hn : S.sc.names.lookup n = some .local) (hnn : okName n = true) (hni : slot S.N n = some err) (hz : locB S z = true) (hzi : slot S.N z = some dst) (hne : err ≠ dst) (hc : nocomp e = true)
    (he : ∀ X' F', Good D d S X' F' c → PE X' e (tE F' (ev c e').v)) :
    PS X (.Try [.Assign [.Name y py] e pos1] [.ExceptHandler (some (.Name x np)) (some n) [.Assign [.Name z pz] (.Name n pn) pos2] pos'] [] [] pos) (tS F (exS c (.tryc i e' k err dst))) := by
  obtain ⟨y1, y2⟩ := g.loc hy
  obtain ⟨z1, z2⟩ := g.loc hz
  obtain ⟨n1, n2, _⟩ := okName_of hnn
  obtain ⟨x1, _, _⟩ := okName_of hxn
  have body : ∀ (W : WX) (pn : List (Addr × Obj)) (xe : Value → Shared → Prop), Takes (X.tr pn xe) W → PassesOwn (model X.prog X.w) X.A X.env xe → PSs (X.tr pn xe) [.Assign [.Name y py] e pos1] ((fun W => tAsg (tE { F with W := W } (ev c e').v) (gName i)) W) := fun W pn xe tk _ => by
    have g' := g.tr tk
    refine PSs.weak (pss_cons (ps_set (X := X.tr pn xe) (by show X.N.Nodup; rw [g.N]; exact g.nd) (by show X.N[i]? = _; rw [g.N]; exact slot_ok hi) y1 (he _ _ g') (sw_no hc) y2) pss_nil) fun D0 σ H q => q
  refine PS.weak (ps_try_one O.ex O.st O.fr (by rw [g.N]; exact g.nd) (by rw [g.N]; exact slot_ok hni) (by show X.env.scope.names.lookup n = _; rw [g.sc]; exact hn) (by rw [g.N]; exact slot_ok hzi) z1 z2 n1 n2 ⟨g.gl hx, x1, .inl (by rw [g.mg]; exact ok.ec x k hk)⟩ g.tk body) fun D0 σ H ⟨ρ, st, ι, R, h⟩ => ?_
  refine ⟨ρ, st, ι, R, ?_⟩
  have h : AftS F ι H (match (ev c e').v ρ st with
    | .ok v st => .ok (.nx (ρ.set i (some v))) st
    | .exc d' v st => if subE d' k then .ok (.nx ((ρ.set dst (some (.exc d' v))).set err none)) st else .exc d' v st
    | .bad => .bad) D0 := h
  revert h
  cases (ev c e').v ρ st with
  | bad => exact fun h => h
  | ok v st1 => exact fun h xv ι1 H1 s1 R1 r1 => h ι1 H1 _ s1 (Rel.setE R1 r1)
  | exc kk v st1 =>
    intro h dd xv ι1 H1 s1 R1 ed nd rv
    refine ⟨subE kk k, ?_, fun eb => ⟨dd, rfl, fun a na => ?_⟩, fun eb => ?_⟩
    · show PySem.W.exmOne X.K (.ref (F.C.cA kk)) (.ref (D.cA k)) = _
      rw [g.K, g.FcA]
      exact tr.ex kk x k hk
    · have h : AftS F ι H (if subE kk k = true then PM.R.ok (.nx ((ρ.set dst (some (.exc kk v))).set err none)) st1 else .exc kk v st1) D0 := h
      rw [if_pos eb] at h
      have R1 : Rel F.C F.T F.ι0 F.H0 ρ st1 ι1 σ H1 := R1
      have R2 := R1.new (o := ExD (.ref (F.C.cA kk)) dd a) na
      have rn := R1.fresh na
      have hde : dd ≠ a := ne_of_none ed na
      have rx : Rep F.C ι1 (upd H1 a (ExD (.ref (F.C.cA kk)) dd a)) (.ref a) (.exc kk v) := by
        refine .exc upd_same rn (by rw [upd_ne hde]; exact ed) ⟨nd, fun z => ?_⟩ (rv.mono (step_new na))
        obtain ⟨xs, q⟩ := (R1.ded dd z).2
        rw [ed] at q; cases q
      have R3 := R2.setE (i := dst) rx
      refine h ι1 _ _ (s1.trans (step_new na)) ⟨R3.rst, ?_, R3.tab, R3.tni, R3.fr0, by simp [R3.len], R3.ded, R3.low, R3.lown⟩
      have E := R3.env.setN R3.len err
      have e1 : ((σ.set err (some (V.ref a))).set dst (some (V.ref a))).set err none = (σ.set dst (some (V.ref a))).set err none := by
        rw [List.set_comm _ _ hne, List.set_set]
      rw [e1]
      exact E
    · have h : AftS F ι H (if subE kk k = true then PM.R.ok (.nx ((ρ.set dst (some (.exc kk v))).set err none)) st1 else .exc kk v st1) D0 := h
      rw [eb, if_neg Bool.false_ne_true] at h
      exact h dd xv ρ ι1 H1 σ s1 R1 ed nd rv
end
end PM
set_option Elab.async false
set_option linter.all false
set_option maxRecDepth 100000
set_option maxHeartbeats 4000000
/-! PM23: raise. -/
namespace L2
open PySem PySem.Spec PyProof.Rows
section
variable {X : Cx} {C C0 fI cc cda : Addr}
def tMkE (C : Addr) (ta : TA) : St → Hp → XK → Prop := fun σ H Q => ta σ H fun vs H1 => ∃ v, vs = [v] ∧ ∀ d, H1 d = none → Q (.ref C) (some d) (upd H1 d (.xd [(("value" : Str), v)]))
theorem pmk_err {a : Expr} {ta : TA} {x : Str} {p pos : Pos} {k : Nat} (T : PySem.KnE.Txt X.prog X.K X.mg C C0 fI cc cda) (hr : Room (k + 1) X.A) (ha : PA X [a] ta) (hg : Gl X x) (hx : X.mg x = some (.ref C)) (hdb : (x == ("__debug__" : Str)) = false)
    (he : starEach (a :: []) X.env = (false, eval a X.env) :: starEach [] X.env) :
    PMk X (.Call (.Name x p) [a] [] pos) (tMkE C ta) := by
  intro pins s σ H Q I h
  refine wpAny_Call_Name_kw (ld_glob I hg hx ?_ hdb)
  refine PySem.W.callWith_K (h₀ := X.base) I.ok.mod.kin T.kC (thn (ha.run pos pins s σ H _ I h) fun us s1 hh => ?_) he rfl
  obtain ⟨vs, H1, I1, r1, v, ev, q1⟩ := hh
  subst ev
  refine ⟨I1.kIn, ?_⟩
  cases r1 with
  | cons rv rn =>
    rename_i v' us'
    cases rn
    show wpAny _ _ (call (.ref C) [v']) _ _ _
    have hlim := I1.nolimit
    have hgl := I1.mod.glob.keeps I1.bk
    obtain ⟨mb, hb1, hb2⟩ := I1.mod.blt
    have hbl := hb1.keeps I1.bk
    have hbs : mb "super" = some (.type "super") := (hb2 _ (by decide)).trans (by decide +kernel)
    obtain ⟨hp, g, dr, tk, os⟩ := s1
    refine wpAny_call (PySem.KnE.made_ok T I1.kIn hgl hbl hbs hlim (by have := hr.dp; omega) fun h' tk' e d M => ?_)
    show MkP X pins σ Q (.ref e) ⟨h', g, dr, tk', os⟩
    obtain ⟨oe, fv, hoe, hc, hd, hdat, h1, _⟩ := M.obj
    have hns := M.ns
    obtain ⟨G', g1, g2⟩ := restrict h' fun b => decide (b ≠ e)
    have gk : ∀ b, b ≠ e → G'.get? b = h'.get? b := fun b hb => g1 b (decide_eq_true hb)
    have ge : G'.get? e = none := g2 e (by simp)
    have old : ∀ b o, hp.get? b = some o → G'.get? b = some o := fun b o q => (gk b (Nat.ne_of_lt (Nat.lt_of_lt_of_le (Heap.lt_size q) M.new))).trans (M.keep b o q)
    have ob : ObjOk X.prog X.w (upd H1 d (.xd [(("value" : Str), v)])) G' d (.xd [(("value" : Str), v)]) :=
      ⟨_, hns.at (fun o q => (gk d M.dne).trans q), fun f => relO_val rv f⟩
    have J : Inv X pins σ (upd H1 d (.xd [(("value" : Str), v)])) ⟨G', g, dr, tk', os⟩ := I1.laid (t' := tk') old M.dbig ob
    refine ⟨e, oe, fv, ⟨G', g, dr, tk', os⟩, _, .ref C, some d, rfl, J, fun b o q => ?_, ge, hoe, ⟨hc, hd⟩, hdat, h1, ?_, rfl, I1.bare, raises_own T.exC T.tyC, q1 d (I1.hok.fresh M.dbig)⟩
    · by_cases hb : b = e
      · have q' : G'.get? b = some o := q
        rw [hb, ge] at q'; cases q'
      · exact (gk b hb).symm.trans q
    · rw [upd_ne (Ne.symm M.dne)]
      exact I1.hok.fresh M.new
end
end L2
namespace PM
open PySem PySem.Spec PyProof.Rows L2 LamX
section
variable {D : PD} {d : Nat} {S : SS} {X : Cx} {F : Fm} {c : Cfg}
theorem s_rais (g : Good D d S X F c) (ok : D.Ok) (mk : D.Mk) {x : Str} {k : Nat} {a : Expr} {a' : E} {p pos pos2 : Pos} (hx : glB S.sc x = true) (hxn : okName x = true) (hk : find2 x D.G.ec = some k) (hn : nostar a = true) (ha : PE X a (tE F (ev c a').v)) :
    PS X (.Raise (some (.Call (.Name x p) [a] [] pos)) none pos2) (tS F (exS c (.rais k a'))) := by
  obtain ⟨C0, fI, cc, cda, T⟩ := mk.all x k hk
  obtain ⟨x1, _, _⟩ := okName_of hxn
  have hmg : X.mg x = some (.ref (D.cA k)) := by rw [g.mg]; exact ok.ec x k hk
  have A : PA X [a] (tCons (tE F (ev c a').v) tNil) := pa_cons ha pa_nil (star_cons hn)
  refine PS.weak (ps_raise g.calm g.tk (pmk_err (C := D.cA k) (k := d + 7) (by rw [g.prog, g.K, g.mg]; exact T) g.room A (g.gl hx) hmg x1 (star_cons hn))) fun D0 σ H ⟨ρ, st, ι, R, h⟩ => ?_
  refine seqS R h fun st1 v xv ι1 H1 s1 R1 r1 h1 => ?_
  refine ⟨xv, rfl, fun dd hd => ?_⟩
  have h1 : AftS F ι1 H1 (if nor v = true then PM.R.exc k v st1 else .bad) D0 := h1
  split at h1
  · have z := h1 dd xv ρ ι1 (upd H1 dd (.xd [(("value" : Str), xv)])) σ (step_new hd) (R1.new hd) upd_same (R1.fresh hd).1 (r1.mono (step_new hd))
    rw [g.FcA] at z
    exact z
  · exact h1.elim
end
end PM
set_option Elab.async false
set_option linter.all false
set_option maxRecDepth 100000
set_option maxHeartbeats 4000000
/-! PM24: statements: the translation and its soundness. -/
namespace PM
open PySem PySem.Spec PyProof.Rows L2 LamX
def isMut (S : SS) : Expr → Bool | .Name x _ => decide (x ∈ S.muts) | _ => false
def oneSet (G : SI) (S : SS) : Expr → Bool | .Call _ [a] _ _ => (isSet G S a).isNone | _ => true
def newC (G : SI) (S : SS) (e : Expr) : Bool := newB G S e && oneSet G S e
def trV (G : SI) (n : Nat) (S : SS) (mt : Bool) (e : Expr) : Option E := (trE G n S e).map fun e' => if mt && newC G S e then .mut e' else e'
def trEm (G : SI) (n : Nat) (S : SS) : List Expr → List Expr → Option Es
  | [], [] => some .nil
  | t :: ts, v :: vs => gd (nostar v) ((trV G n S (isMut S t) v).bind fun e' => (trEm G n S ts vs).map (.cons e'))
  | _, _ => none
def locL (sc : Scope) (x : Str) : Bool := match sc.names.lookup x with | some .local => true | _ => false
def parB (S : SS) : List Expr → List Str → Option Tg
  | [.Name x _, .Name y _], [x', y'] => gd (decide (x = x' ∧ y = y') && locL S.sc x && locL S.sc y) ((slot S.N x).bind fun i => (slot S.N y).bind fun j => gd (decide (i ≠ j)) (some (.t [.n i, .n j])))
  | [.Name x _, .Name y _, .Name z _], [x', y', z'] => gd (decide (x = x' ∧ y = y' ∧ z = z') && locL S.sc x && locL S.sc y && locL S.sc z) ((slot S.N x).bind fun i => (slot S.N y).bind fun j => (slot S.N z).bind fun k => gd (decide (i ≠ j ∧ i ≠ k ∧ j ≠ k)) (some (.t [.n i, .n j, .n k])))
  | _, _ => none
def trPar (G : SI) (n : Nat) (S : SS) (ts vs : List Expr) (k : Nat) (tp : Pos) : Option PM.S := match swS S.sc ts vs with
  | none => none
  | some none => (trT S 9 (.Tuple ts k tp)).bind fun t => gd (decide (vs.length ≤ 1000)) ((trEm G n S ts vs).map fun es => .asg t (.tup es))
  | some (some names) => (parB S ts names).bind fun t => (trEm G n S ts vs).map fun es => .asg t (.tup es)
def trAsg (G : SI) (n : Nat) (S : SS) (e : Expr) : Expr → Option PM.S
  | .Name x _ => gd (locB S x) ((slot S.N x).bind fun i => (trV G n S (decide (x ∈ S.muts)) e).map fun e' => .asg (.n i) e')
  | .Tuple ts k tp => (match e with
    | .Tuple vs _ _ => trPar G n S ts vs k tp
    | e => (trT S 9 (.Tuple ts k tp)).bind fun t => (trE G n S e).map fun e' => .asg t e')
  | .Subscript o i _ => gd (nocomp e && noslice i) ((trE G n S o).bind fun o' => (trE G n S i).bind fun i' => (trE G n S e).map fun e' => .seti o' i' e')
  | _ => none
def trSs (f : Stmt → Option PM.S) : List Stmt → Option Ss
  | [] => some .nil
  | s :: r => (f s).bind fun s' => (trSs f r).map (.cons s')
def augO : Operator → Option Bop | .Add => some .add | .Sub => some .sub | _ => none
def trSt (G : SI) : Nat → SS → Stmt → Option PM.S
  | 0, _, _ => none
  | n + 1, S, st => match st with
    | .Assign [tg] e _ => trAsg G n S e tg
    | .AugAssign (.Name x _) op e _ => gd (locB S x) ((slot S.N x).bind fun i => (augO op).bind fun o => (trE G n S e).map fun e' => .aug i o e')
    | .Expr e _ => if isDoc e then some .pass else gd (nocomp e) ((trE G n S e).map .ex)
    | .Return none _ => some .retn
    | .Return (some e) _ => (trV G n S S.ret e).map .ret
    | .If t a b _ => (trE G n S t).bind fun t' => (trSs (trSt G n S) a).bind fun a' => (trSs (trSt G n S) b).map fun b' => .ite t' a' b'
    | .While t b [] _ => (trE G n S t).bind fun t' => (trSs (trSt G n S) b).map fun b' => .wh t' b'
    | .For tg it b [] _ => gd (noset it) ((trT S 9 tg).bind fun t => (trIt G S (trE G n S) (isTup tg) it).bind fun it' => (trSs (trSt G n S) b).map fun b' => .fo t it' b')
    | .Break _ => some .brk
    | .Continue _ => some .cnt
    | .Pass _ => some .pass
    | .Raise (some (.Call (.Name x _) [a] [] _)) none _ => gd (glB S.sc x && okName x && nostar a) ((find2 x G.ec).bind fun k => (trE G n S a).map fun a' => .rais k a')
    | .Try [.Assign [.Name y _] e _] [.ExceptHandler (some (.Name x _)) (some m) [.Assign [.Name z _] (.Name m' _) _] _] [] [] _ =>
      gd (decide (m' = m) && locB S y && glB S.sc x && okName x && locL S.sc m && okName m && locB S z && nocomp e) ((slot S.N y).bind fun i => (find2 x G.ec).bind fun k => (slot S.N m).bind fun err => (slot S.N z).bind fun dst => gd (decide (err ≠ dst)) ((trE G n S e).map fun e' => .tryc i e' k err dst))
    | _ => none
theorem locL_of {sc : Scope} {x : Str} (h : locL sc x = true) : sc.names.lookup x = some .local := by
  unfold locL at h
  split at h
  · assumption
  · cases h
section
variable {D : PD} {d : Nat} {S : SS} {X : Cx} {F : Fm} {c : Cfg}
/-- what a comprehension's translation tells -/
structure CmP (D : PD) (d n : Nat) (S : SS) (X : Cx) (F : Fm) (c : Cfg) (elt tg iter : Expr) (ifs : List Expr) (scope : Scope) (t : Tg) (it : PM.It) (cnd : Option E) (e2 : E) : Prop where
  hi : PI X tg iter (iM F (evI c it))
  ok : BlkOk X.N X.env.scope scope (ownOf S.N scope.names)
  ht : trT (S.blk scope) 9 tg = some t
  ho : ∀ p ∈ ownOf S.N scope.names, p.2 ∈ tgSlots t
  ho2 : ∀ i ∈ tgSlots t, i ∈ (ownOf S.N scope.names).map (·.2)
  hc : (ifs = [] ∧ cnd = none) ∨ ∃ q q', ifs = [q] ∧ cnd = some q' ∧ ∀ X' F' c', Good D d (S.blk scope) X' F' c' → PT X' q (tT F' (ev c' q').t)
  he : ∀ X' F' c', Good D d (S.blk scope) X' F' c' → PE X' elt (tE F' (ev c' e2).v)
  hs : ∀ x, foldedSetIterable iter X.env x = pure x
theorem cm_p (ok : D.Ok) (er : D.Err) (ca : CallAll D d) {n : Nat} {elt : Expr} {cs : List Comprehension} {scope : Scope} {pos : Pos} {e' : E} (h : trE D.G n S (.ListComp elt cs scope pos) = some e') (g : Good D d S X F c) :
    ∃ tg iter ifs t it cnd e2, cs = [⟨tg, iter, ifs, 0⟩] ∧ e' = .cm t it cnd e2 ∧ CmP D d n S X F c elt tg iter ifs scope t it cnd e2 := by
  cases n with
  | zero => cases h
  | succ n =>
    have ihv : ∀ e e', trE D.G n S e = some e' → PE X e (tE F (ev c e').v) := fun e e' h => (e_all ok er ca n S e e' h X F c g).v
    unfold trE at h
    split at h <;> first | cases h | skip
    all_goals try (exfalso; rename_i hh; cases hh; done)
    rename_i elt2 tg iter ifs scope2 pos2 hh
    cases hh
    (replace h := gd_some.mp h); obtain ⟨h0, h⟩ := h
    simp only [Bool.and_eq_true] at h0
    (replace h := Option.bind_eq_some_iff.mp h); obtain ⟨t, ht, h⟩ := h
    (replace h := gd_some.mp h); obtain ⟨h1, h⟩ := h
    simp only [Bool.and_eq_true, List.all_eq_true, decide_eq_true_eq] at h1
    (replace h := Option.bind_eq_some_iff.mp h); obtain ⟨it, hit, h⟩ := h
    (replace h := Option.bind_eq_some_iff.mp h); obtain ⟨cnd, hcnd, h⟩ := h
    obtain ⟨e2, he2, rfl⟩ := Option.map_eq_some_iff.mp h
    refine ⟨tg, iter, ifs, t, it, cnd, e2, rfl, rfl, it_ok g ok ihv isTup_ok hit, ?_, ht, h1.1, h1.2, ?_, (fun X' F' c' g' => (e_all ok er ca n (S.blk scope) elt e2 he2 X' F' c' g').v), noset_fold h0.2⟩
    · rw [g.N, g.sc]; exact blkOk_by h0.1
    · split at hcnd
      · cases hcnd; exact .inl ⟨rfl, rfl⟩
      · rename_i q
        obtain ⟨q', hq, rfl⟩ := Option.map_eq_some_iff.mp hcnd
        exact .inr ⟨q, q', rfl, rfl, fun X' F' c' g' => (e_all ok er ca n (S.blk scope) q q' hq X' F' c' g').t⟩
      · cases hcnd
theorem new_ok (ok : D.Ok) (er : D.Err) (ca : CallAll D d) (g : Good D d S X F c) {n : Nat} {e : Expr} {e' : E} (hn : newC D.G S e = true) (h : trE D.G n S e = some e') : ∃ m, NewE X F e m ∧ ∀ ρ st, (ev c e').v ρ st = bnd (m ρ st) fun ps st => .ok (.lst ps) st := by
  cases n with
  | zero => cases h
  | succ n =>
    have ihv : ∀ e e', trE D.G n S e = some e' → PE X e (tE F (ev c e').v) := fun e e' h => (e_all ok er ca n S e e' h X F c g).v
    unfold newC at hn
    rw [Bool.and_eq_true] at hn
    obtain ⟨hn, hs⟩ := hn
    have hn0 := hn
    unfold newB at hn
    split at hn
    · -- list
      rename_i es pos
      unfold trE at h
      (replace h := gd_some.mp h); obtain ⟨h0, h⟩ := h
      obtain ⟨es', hes, rfl⟩ := Option.map_eq_some_iff.mp h
      exact ⟨_, n_lst g (by rw [trEs_len hes]; exact of_decide_eq_true h0) (a_args ihv hes).1, fun _ _ => rfl⟩
    · rename_i elt cs scope pos
      obtain ⟨tg, iter, ifs, t, it, cnd, e2, rfl, rfl, P⟩ := cm_p ok er ca h g
      exact ⟨_, e_cm g P.hi P.ok P.ht P.ho P.ho2 P.hc P.he P.hs, fun ρ st => ev_cm c t it cnd e2 ρ st⟩
    · rename_i x p as kws pos
      unfold trE at h
      refine new_call g ok ihv hn0 ?_ h
      unfold oneSet at hs
      cases as with
      | nil => rfl
      | cons a r => cases r with
        | nil => exact hs
        | cons _ _ => rfl
    · rename_i es lp b pos
      have hl := h
      unfold trE at h
      (replace h := Option.bind_eq_some_iff.mp h); obtain ⟨o', ho, h⟩ := h
      (replace h := Option.bind_eq_some_iff.mp h); obtain ⟨a', ha, h⟩ := h
      obtain ⟨b', hb, rfl⟩ := Option.map_eq_some_iff.mp h
      cases ho
      have hA := ihv _ _ ha
      cases n with
      | zero => cases ha
      | succ n =>
        unfold trE at ha
        (replace ha := gd_some.mp ha); obtain ⟨h0, ha⟩ := ha
        obtain ⟨es', hes, rfl⟩ := Option.map_eq_some_iff.mp ha
        exact ⟨_, n_rep g hA (ihv _ _ hb), mRep_eq c es' b'⟩
    · cases hn
/-- a value to be held -/
theorem v_ok (ok : D.Ok) (er : D.Err) (ca : CallAll D d) (g : Good D d S X F c) {n : Nat} {mt : Bool} {e : Expr} {e' : E} (h : trV D.G n S mt e = some e') : PE X e (tE F (ev c e').v) := by
  unfold trV at h
  obtain ⟨e1, h1, rfl⟩ := Option.map_eq_some_iff.mp h
  split
  · rename_i hm
    rw [Bool.and_eq_true] at hm
    obtain ⟨m, N, hN⟩ := new_ok ok er ca g hm.2 h1
    exact N.mut' hN
  · exact (e_all ok er ca n S e e1 h1 X F c g).v
theorem em_ok (ok : D.Ok) (er : D.Err) (ca : CallAll D d) (g : Good D d S X F c) {n : Nat} : ∀ {ts vs : List Expr} {es : Es}, trEm D.G n S ts vs = some es → PA X vs (tA F (evs c es)) ∧ es.len = vs.length
  | [], [], es, h => by
    cases h
    exact ⟨PA.weak pa_nil fun σ H Q ⟨ρ, st, ι, R, h⟩ => h.ok R .nil, rfl⟩
  | [], _ :: _, es, h => by cases h
  | _ :: _, [], es, h => by cases h
  | t :: ts, e :: r, es, h => by
    unfold trEm at h
    (replace h := gd_some.mp h); obtain ⟨h0, h⟩ := h
    (replace h := Option.bind_eq_some_iff.mp h); obtain ⟨e', h1, h⟩ := h
    obtain ⟨es', h2, rfl⟩ := Option.map_eq_some_iff.mp h
    obtain ⟨i1, i2⟩ := em_ok ok er ca g h2
    refine ⟨PA.weak (pa_cons (v_ok ok er ca g h1) i1 (star_cons h0)) fun σ H Q ⟨ρ, st, ι, R, h⟩ => ?_, by show es'.len + 1 = r.length + 1; rw [i2]⟩
    refine seqA R h fun st1 x xv ι1 H1 s1 R1 r1 h1 => ?_
    refine seqA R1 h1 fun st2 xs xvs ι2 H2 s2 R2 r2 h2 => ?_
    exact h2.ok R2 (.cons (r1.mono s2) r2)
theorem sw_comp {elt : Expr} {gs : List Comprehension} {scope : Scope} {pos py : Pos} {y : Str} {l : Nat} {env : PySem.Env} (S : SS) (hs : env.scope = S.sc) (hk : env.scope.kind = .function) : swapsWith (.ListComp elt gs scope pos) (some (.Name y py)) l env = pure (swB S y py (.ListComp elt gs scope pos)) := by
  have hb := bk_fn hk
  unfold swapsWith
  simp only [hb]
  show (pure (ScopeKind.function == .function && env.scope.names.lookup y == some .local && py.line == pos.line && !(scope.names.any fun (n, k) => n == y && (k == .local || k == .cell))) : Sem Bool) = _
  rw [hs]
  rfl
/-- name = value -/
theorem as_ok (ok : D.Ok) (er : D.Err) (ca : CallAll D d) (g : Good D d S X F c) (hk : X.env.scope.kind = .function) {n i : Nat} {mt : Bool} {x : Str} {e : Expr} {e' : E} {py pos : Pos} (hl : locB S x = true) (hi : slot S.N x = some i) (h : trV D.G n S mt e = some e') :
    PS X (.Assign [.Name x py] e pos) (tS F (exS c (.asg (.n i) e'))) := by
  refine s_asg g hl hi (m := (ev c e').v) (fun _ _ => rfl) ?_
  by_cases hn : nocomp e = true
  · exact .inl ⟨v_ok ok er ca g h, sw_no hn⟩
  · cases e with
    | ListComp elt cs scope p2 =>
      have hsw := sw_comp (elt := elt) (gs := cs) (scope := scope) (pos := p2) (py := py) (y := x) (l := pos.line) S g.sc hk
      cases hb : swB S x py (.ListComp elt cs scope p2) with
      | false =>
        rw [hb] at hsw
        exact .inl ⟨v_ok ok er ca g h, hsw⟩
      | true =>
        rw [hb] at hsw
        refine .inr ?_
        have hloc : S.sc.names.lookup x = some .local := by
          unfold swB at hb
          simp only [Bool.and_eq_true, beq_iff_eq] at hb
          exact hb.1.1
        unfold trV at h
        obtain ⟨e1, h1, he'⟩ := Option.map_eq_some_iff.mp h
        obtain ⟨tg, iter, ifs, t, it, cnd, e2, rfl, rfl, P⟩ := cm_p ok er ca h1 g
        refine PS.weak (s_setLc g hloc hi hsw P.hi P.ok P.ht P.ho P.ho2 P.hc P.he P.hs) fun D0 σ H q => ?_
        have q : tE F (ev c e').v σ H (fun x H1 => gName i x σ H1 D0.nx) := q
        show tN F (cmM c t it cnd e2) σ H (fun x H1 => gName i x σ H1 D0.nx)
        have e0 : (ev c (.cm t it cnd e2)).v = fun ρ st => bnd (cmM c t it cnd e2 ρ st) fun ps st => .ok (.lst ps) st := by
          funext ρ st
          exact ev_cm c t it cnd e2 ρ st
        subst he'
        by_cases hm : (mt && newC D.G S (.ListComp elt [⟨tg, iter, ifs, 0⟩] scope p2)) = true
        · rw [if_pos hm] at q
          refine tN.mut ?_
          have e1 : (ev c (.mut (.cm t it cnd e2))).v = fun ρ st => bnd (cmM c t it cnd e2 ρ st) fun ps st => if nrfs ps then .ok (.ref st.length) (st ++ [.lst ps]) else .bad := by
            funext ρ st
            show bnd ((ev c (.cm t it cnd e2)).v ρ st) _ = _
            rw [ev_cm, bnd_assoc]
            rfl
          rw [e1] at q
          exact q
        · rw [if_neg hm] at q
          rw [e0] at q
          exact tN.lst q
    | SetComp _ _ _ _ =>
      unfold trV at h
      obtain ⟨e1, h1, _⟩ := Option.map_eq_some_iff.mp h
      cases n <;> cases h1
    | DictComp _ _ _ _ _ =>
      unfold trV at h
      obtain ⟨e1, h1, _⟩ := Option.map_eq_some_iff.mp h
      cases n <;> cases h1
    | _ => exact absurd rfl hn
theorem sw_tup {ts : List Expr} {k : Nat} {tp : Pos} {e : Expr} {l : Nat} {env : PySem.Env} : swapsWithSole [.Tuple ts k tp] e l env = pure false := by
  unfold swapsWithSole swapsWith
  cases e <;> rfl
theorem em_len {G : SI} {n : Nat} : ∀ {ts vs : List Expr} {es : Es}, trEm G n S ts vs = some es → vs.length = ts.length
  | [], [], _, _ => rfl
  | [], _ :: _, _, h => by cases h
  | _ :: _, [], _, h => by cases h
  | t :: ts, v :: vs, es, h => by
    unfold trEm at h
    (replace h := gd_some.mp h); obtain ⟨_, h⟩ := h
    (replace h := Option.bind_eq_some_iff.mp h); obtain ⟨_, _, h⟩ := h
    obtain ⟨_, h, _⟩ := Option.map_eq_some_iff.mp h
    simp [em_len h]
/-- a pair of names = a pair -/
theorem par_ok (ok : D.Ok) (er : D.Err) (ca : CallAll D d) (g : Good D d S X F c) (hk : X.env.scope.kind = .function) {n : Nat} {ts vs : List Expr} {kt kv : Nat} {tp vp pos : Pos} {s : PM.S} (h : trPar D.G n S ts vs kt tp = some s) : PS X (.Assign [.Tuple ts kt tp] (.Tuple vs kv vp) pos) (tS F (exS c s)) := by
  unfold trPar at h
  split at h
  · cases h
  · rename_i hsw
    rw [← g.sc] at hsw
    (replace h := Option.bind_eq_some_iff.mp h); obtain ⟨t, ht, h⟩ := h
    (replace h := gd_some.mp h); obtain ⟨h0, h⟩ := h
    obtain ⟨es, hes, rfl⟩ := Option.map_eq_some_iff.mp h
    obtain ⟨i1, i2⟩ := em_ok ok er ca g hes
    exact s_unp g ht (e_tup g (by rw [i2]; exact of_decide_eq_true h0) i1) sw_tup (sw_stores hk hsw)
  · rename_i names hsw
    rw [← g.sc] at hsw
    have hw := fun (k1 k2 : Nat) (p1 p2 : Pos) => sw_stores (k1 := k1) (k2 := k2) (p1 := p1) (p2 := p2) hk hsw
    (replace h := Option.bind_eq_some_iff.mp h); obtain ⟨t, ht, h⟩ := h
    obtain ⟨es, hes, rfl⟩ := Option.map_eq_some_iff.mp h
    obtain ⟨i1, i2⟩ := em_ok ok er ca g hes
    unfold parB at ht
    split at ht
    · rename_i x px y py x' y'
      (replace ht := gd_some.mp ht); obtain ⟨h0, ht⟩ := ht
      simp only [Bool.and_eq_true, decide_eq_true_eq] at h0
      obtain ⟨⟨⟨rfl, rfl⟩, l1⟩, l2⟩ := h0
      (replace ht := Option.bind_eq_some_iff.mp ht); obtain ⟨i, hi, ht⟩ := ht
      (replace ht := Option.bind_eq_some_iff.mp ht); obtain ⟨j, hj, ht⟩ := ht
      (replace ht := gd_some.mp ht); obtain ⟨hij, ht⟩ := ht
      cases ht
      have hv : ∃ a b, vs = [a, b] := by
        have l : vs.length = 2 := em_len hes
        match vs, l with
        | [a, b], _ => exact ⟨a, b, rfl⟩
      obtain ⟨a, b, rfl⟩ := hv
      exact s_par2 g (locL_of l1) (locL_of l2) hi hj (of_decide_eq_true hij) i1 (hw _ _ _ _)
    · rename_i x px y py z pz x' y' z'
      (replace ht := gd_some.mp ht); obtain ⟨h0, ht⟩ := ht
      simp only [Bool.and_eq_true, decide_eq_true_eq] at h0
      obtain ⟨⟨⟨⟨rfl, rfl, rfl⟩, l1⟩, l2⟩, l3⟩ := h0
      (replace ht := Option.bind_eq_some_iff.mp ht); obtain ⟨i, hi, ht⟩ := ht
      (replace ht := Option.bind_eq_some_iff.mp ht); obtain ⟨j, hj, ht⟩ := ht
      (replace ht := Option.bind_eq_some_iff.mp ht); obtain ⟨k, hk2, ht⟩ := ht
      (replace ht := gd_some.mp ht); obtain ⟨hij, ht⟩ := ht
      cases ht
      obtain ⟨n1, n2, n3⟩ := of_decide_eq_true hij
      have hv : ∃ a b c, vs = [a, b, c] := by
        have l : vs.length = 3 := em_len hes
        match vs, l with
        | [a, b, c], _ => exact ⟨a, b, c, rfl⟩
      obtain ⟨a, b, e, rfl⟩ := hv
      exact s_par3 g (locL_of l1) (locL_of l2) (locL_of l3) hi hj hk2 n1 n2 n3 i1 (hw _ _ _ _)
    · cases ht
theorem notup_st {ts : List Expr} {k : Nat} {tp : Pos} {e : Expr} {env : PySem.Env} (h : ∀ vs k p, e ≠ .Tuple vs k p) : swappedStores [.Tuple ts k tp] e env = pure none := by
  cases e <;> first | rfl | exact absurd rfl (h _ _ _)
theorem asg_all (ok : D.Ok) (er : D.Err) (ca : CallAll D d) (g : Good D d S X F c) (hk : X.env.scope.kind = .function) {n : Nat} {tg e : Expr} {pos : Pos} {s : PM.S} (h : trAsg D.G n S e tg = some s) : PS X (.Assign [tg] e pos) (tS F (exS c s)) := by
  unfold trAsg at h
  split at h
  · rename_i x py
    (replace h := gd_some.mp h); obtain ⟨h0, h⟩ := h
    (replace h := Option.bind_eq_some_iff.mp h); obtain ⟨i, hi, h⟩ := h
    obtain ⟨e', he, rfl⟩ := Option.map_eq_some_iff.mp h
    exact as_ok ok er ca g hk h0 hi he
  · rename_i ts k tp
    split at h
    · exact par_ok ok er ca g hk h
    · rename_i hne
      (replace h := Option.bind_eq_some_iff.mp h); obtain ⟨t, ht, h⟩ := h
      obtain ⟨e', he, rfl⟩ := Option.map_eq_some_iff.mp h
      exact s_unp g ht (e_all ok er ca n S e e' he X F c g).v sw_tup (notup_st fun vs k p z => hne vs k p z)
  · rename_i o i tp
    (replace h := gd_some.mp h); obtain ⟨h0, h⟩ := h
    rw [Bool.and_eq_true] at h0
    (replace h := Option.bind_eq_some_iff.mp h); obtain ⟨o', ho, h⟩ := h
    (replace h := Option.bind_eq_some_iff.mp h); obtain ⟨i', hi, h⟩ := h
    obtain ⟨e', he, rfl⟩ := Option.map_eq_some_iff.mp h
    have v := fun e e' (h : trE D.G n S e = some e') => (e_all ok er ca n S e e' h X F c g).v
    exact s_seti g h0.1 h0.2 (v _ _ ho) (v _ _ hi) (v _ _ he)
  · cases h
theorem ss_all {f : Stmt → Option PM.S} (hf : ∀ s s', f s = some s' → PS X s (tS F (exS c s'))) : ∀ {l : List Stmt} {ss : Ss}, trSs f l = some ss → PSs X l (tS F (exSs c ss))
  | [], ss, h => by cases h; exact ss_nil
  | s :: r, ss, h => by
    unfold trSs at h
    (replace h := Option.bind_eq_some_iff.mp h); obtain ⟨s', h1, h⟩ := h
    obtain ⟨r', h2, rfl⟩ := Option.map_eq_some_iff.mp h
    exact ss_cons (hf _ _ h1) (ss_all hf h2)
theorem s_all (ok : D.Ok) (er : D.Err) (tr : D.Tr) (mk : D.Mk) (ca : CallAll D d) : ∀ (n : Nat) (S : SS) (st : Stmt) (s : PM.S), trSt D.G n S st = some s → ∀ X F c, Good D d S X F c → Own X → X.env.scope.kind = .function → PS X st (tS F (exS c s))
  | 0, S, st, s, h, X, F, c, g, O, hk => by cases h
  | n + 1, S, st, s, h, X, F, c, g, O, hk => by
    have ih : ∀ l ss, trSs (trSt D.G n S) l = some ss → PSs X l (tS F (exSs c ss)) := fun l ss h => ss_all (fun s s' h => s_all ok er tr mk ca n S s s' h X F c g O hk) h
    have ev_ : ∀ e e', trE D.G n S e = some e' → Snd D d S X F c e e' := fun e e' h => e_all ok er ca n S e e' h X F c g
    unfold trSt at h
    split at h
    · exact asg_all ok er ca g hk h
    · rename_i x px op e pos
      (replace h := gd_some.mp h); obtain ⟨h0, h⟩ := h
      (replace h := Option.bind_eq_some_iff.mp h); obtain ⟨i, hi, h⟩ := h
      (replace h := Option.bind_eq_some_iff.mp h); obtain ⟨o, ho, h⟩ := h
      obtain ⟨e', he, rfl⟩ := Option.map_eq_some_iff.mp h
      have hop : op = opOf o ∧ (o = .add ∨ o = .sub) := by
        unfold augO at ho
        split at ho
        · cases ho; exact ⟨rfl, .inl rfl⟩
        · cases ho; exact ⟨rfl, .inr rfl⟩
        · cases ho
      obtain ⟨rfl, ho2⟩ := hop
      exact s_aug g ho2 h0 hi (ev_ _ _ he).v
    · rename_i e pos
      split at h
      · rename_i hd
        cases h
        unfold isDoc at hd
        split at hd
        · exact s_doc
        · cases hd
      · (replace h := gd_some.mp h); obtain ⟨h0, h⟩ := h
        obtain ⟨e', he, rfl⟩ := Option.map_eq_some_iff.mp h
        exact s_expr g h0 (ev_ _ _ he).v
    · cases h; exact s_retn
    · obtain ⟨e', he, rfl⟩ := Option.map_eq_some_iff.mp h
      exact s_ret (fun _ _ => rfl) (v_ok ok er ca g he)
    · (replace h := Option.bind_eq_some_iff.mp h); obtain ⟨t', ht, h⟩ := h
      (replace h := Option.bind_eq_some_iff.mp h); obtain ⟨a', ha, h⟩ := h
      obtain ⟨b', hb, rfl⟩ := Option.map_eq_some_iff.mp h
      exact s_if (ev_ _ _ ht).t (ih _ _ ha) (ih _ _ hb)
    · (replace h := Option.bind_eq_some_iff.mp h); obtain ⟨t', ht, h⟩ := h
      obtain ⟨b', hb, rfl⟩ := Option.map_eq_some_iff.mp h
      exact s_wh g O.ps (ev_ _ _ ht).t (ih _ _ hb)
    · (replace h := gd_some.mp h); obtain ⟨h0, h⟩ := h
      (replace h := Option.bind_eq_some_iff.mp h); obtain ⟨t, ht, h⟩ := h
      (replace h := Option.bind_eq_some_iff.mp h); obtain ⟨it, hit, h⟩ := h
      obtain ⟨b', hb, rfl⟩ := Option.map_eq_some_iff.mp h
      exact s_for g O.ps (it_ok g ok (fun e e' h => (ev_ e e' h).v) isTup_ok hit) ht (ih _ _ hb) (noset_fold h0)
    · cases h; exact s_brk
    · cases h; exact s_cnt
    · cases h; exact s_pass
    · (replace h := gd_some.mp h); obtain ⟨h0, h⟩ := h
      simp only [Bool.and_eq_true] at h0
      (replace h := Option.bind_eq_some_iff.mp h); obtain ⟨k, hk2, h⟩ := h
      obtain ⟨a', ha, rfl⟩ := Option.map_eq_some_iff.mp h
      exact s_rais g ok mk h0.1.1 h0.1.2 hk2 h0.2 (ev_ _ _ ha).v
    · (replace h := gd_some.mp h); obtain ⟨h0, h⟩ := h
      simp only [Bool.and_eq_true, decide_eq_true_eq] at h0
      obtain ⟨⟨⟨⟨⟨⟨⟨rfl, q1⟩, q2⟩, q3⟩, q4⟩, q5⟩, q6⟩, q7⟩ := h0
      (replace h := Option.bind_eq_some_iff.mp h); obtain ⟨i, hi, h⟩ := h
      (replace h := Option.bind_eq_some_iff.mp h); obtain ⟨k, hk2, h⟩ := h
      (replace h := Option.bind_eq_some_iff.mp h); obtain ⟨err, herr, h⟩ := h
      (replace h := Option.bind_eq_some_iff.mp h); obtain ⟨dst, hdst, h⟩ := h
      (replace h := gd_some.mp h); obtain ⟨hne, h⟩ := h
      obtain ⟨e', he, rfl⟩ := Option.map_eq_some_iff.mp h
      exact s_try g O ok tr q1 hi q2 q3 hk2 (locL_of q4) q5 herr q6 hdst (of_decide_eq_true hne) q7 fun X' F' g' => (e_all ok er ca n S _ e' he X' F' c g').v
    · cases h
end
end PM
set_option Elab.async false
set_option linter.all false
set_option maxRecDepth 100000
set_option maxHeartbeats 4000000
/-! PM25: a frame is left; calls. -/
namespace PM
open PySem PySem.Spec PyProof.Rows L2 LamX
/-! ### leaving a frame -/
mutual
theorem cok_cls {n lv : Nat} : ∀ {p : PV}, cls n lv p = true → cok n lv p = true
  | .tup xs, a => by simp only [cls, cok] at *; exact coks_cls a
  | .lst xs, a => by simp only [cls, cok] at *; exact coks_cls a
  | .dct ks vs, a => by simp only [cls, cok, Bool.and_eq_true] at *; exact coks_of (nrfs_of a.2) (clows_of a.2)
  | .exc c v, a => by simp only [cls, cok] at *; exact cok_of (nrf_of a) (clow_of a)
  | .mkd c m v, a => by simp only [cls, cok] at *; exact cok_of (nrf_of a) (clow_of a)
  | .ref m, a => by simpa [cls, cok] using a
  | .clo l k, a => by simpa [cls, cok] using a
  | .set xs, _ => rfl
  | .non, _ => rfl
  | .bl _, _ => rfl
  | .int _, _ => rfl
  | .str _, _ => rfl
  | .scr _, _ => rfl
theorem coks_cls {n lv : Nat} : ∀ {ps : List PV}, clss n lv ps = true → coks n lv ps = true
  | [], _ => rfl
  | x :: xs, a => by simp only [clss, coks, Bool.and_eq_true] at *; exact ⟨cok_cls a.1, coks_cls a.2⟩
end
theorem nodup_at {α : Type} {l : List α} (h : l.Nodup) {i j : Nat} {x : α} (a : l[i]? = some x) (b : l[j]? = some x) : i = j := by
  obtain ⟨h1, e1⟩ := List.getElem?_eq_some_iff.mp a
  obtain ⟨h2, e2⟩ := List.getElem?_eq_some_iff.mp b
  exact (List.getElem_inj h).mp (e1.trans e2.symm)
/-- of a frame that ends -/
structure Ends2 (C C' : Ct) (ι ι' : List Addr) (H' : Hp) (st' : Store) (n lv : Nat) : Prop where
  m : Mv C' C ι' ι H' H' n lv
  r : RSt C' ι' H' st'
  hn : n = ι.length
  ap : ∃ l, ι' = ι ++ l
  ded : ∀ d ∈ C.dead, d ∉ ι'
section
variable {C C' : Ct} {ι ι' : List Addr} {H' : Hp} {st' : Store} {n lv : Nat}
mutual
theorem Rep.exit (e : Ends2 C C' ι ι' H' st' n lv) : ∀ {x : V} {p : PV}, Rep C' ι' H' x p → cls n lv (frz st' n p) = true → Rep C ι H' x (frz st' n p)
  | _, _, .non, _ => .non
  | _, _, .bl b, _ => .bl b
  | _, _, .int i, _ => .int i
  | _, _, .str z, _ => .str z
  | _, _, .tup h r, c => .tup (h.imp (fun ⟨r, k⟩ => by
      rcases r with r | ⟨o, r⟩
      · exact ⟨.inl r, e.m.out _ _ r k⟩
      · exact ⟨.inr ⟨o, r⟩, e.m.out _ _ r k⟩) (fun h => by rw [e.m.K]; exact h)) (Reps.exit e r (by simpa [frz, cls] using c))
  | _, _, .lst h k r, c => .lst h (e.m.out _ _ h k) (Reps.exit e r (by simpa [frz, cls] using c))
  | _, _, .scr h, c => Rep.mv e.m (.scr h) (cok_cls c)
  | _, _, .dct h k r, c => Rep.mv e.m (.dct h k r) (cok_cls c)
  | _, _, .exc h k hd nd r, c => Rep.mv e.m (.exc h k hd nd r) (cok_cls c)
  | _, _, .mkd m h k hd nd ht nt r, c => Rep.mv e.m (.mkd m h k hd nd ht nt r) (cok_cls c)
  | _, _, .clo b lb h k hc nc, c => Rep.mv e.m (.clo b lb h k hc nc) (cok_cls c)
  | _, _, @Rep.ref _ _ _ a m h, c => by
    unfold frz at c ⊢
    by_cases hm : m < n
    · rw [if_pos hm]
      exact .ref (e.m.ix _ _ hm h)
    · rw [if_neg hm] at c ⊢
      obtain ⟨ob, e1, r⟩ := e.r.at h
      rw [e1] at c ⊢
      have hout : ∀ o, H' a = some o → Out C ι a := fun o ho => by
        refine ⟨fun z => ?_, fun z => e.ded a z (List.mem_of_getElem? h)⟩
        obtain ⟨l, el⟩ := e.ap
        obtain ⟨j, hj⟩ := List.getElem?_of_mem z
        have hj2 : ι'[j]? = some a := by
          rw [el, List.getElem?_append_left (List.getElem?_eq_some_iff.mp hj).1]
          exact hj
        have hlt := (List.getElem?_eq_some_iff.mp hj).1
        have := nodup_at e.r.nd h hj2
        have hn := e.hn
        omega
      cases ob with
      | lst ps =>
        obtain ⟨_, xs, eH, rr⟩ := r
        exact .lst eH (hout _ eH) (rr.mv e.m (coks_cls (by simpa [cls] using c)))
      | dct ks vs =>
        obtain ⟨_, _, kvs, eH, ek, rr⟩ := r
        subst ek
        exact .dct eH (hout _ eH) (rr.mv e.m (by simpa [cok] using cok_cls c))
theorem Reps.exit (e : Ends2 C C' ι ι' H' st' n lv) : ∀ {x : List V} {p : List PV}, Reps C' ι' H' x p → clss n lv (frzs st' n p) = true → Reps C ι H' x (frzs st' n p)
  | _, _, .nil, _ => .nil
  | _, _, .cons a r, c => by
    simp only [frzs, clss, Bool.and_eq_true] at c ⊢
    exact .cons (Rep.exit e a c.1) (Reps.exit e r c.2)
end
end
section
variable {F : Fm} {ρ ρ' : Env} {ι ι' : List Addr} {σ σ' : L2.St} {H H' : Hp} {st st' : Store} {Q : VK} {gs : List (List Str × Scope × List (Str × Addr))} {ls : List (Nat × Nat)} {T' : List (Addr × Str)}
/-- the callee's knowledge of values -/
abbrev Ct.call (C : Ct) (gs : List (List Str × Scope × List (Str × Addr))) (ls : List (Nat × Nat)) : Ct := { C with γ := C.γ ++ gs, lows := ls ++ C.lows }
theorem step_back (s : Step ι H ι' H') : Step ι H ι H' := ⟨⟨[], by simp, by simp⟩, s.keep, s.there⟩
theorem ends_of (R : F.Rl ρ st ι σ H) (s : Step ι H ι' H') (R' : Rel (F.C.call gs ls) T' ι H ρ' st' ι' σ' H') : Ends2 F.C (F.C.call gs ls) ι ι' H' st' st.length F.C.γ.length := by
  obtain ⟨l, el, fl⟩ := s.more
  refine ⟨⟨rfl, rfl, fun a o h _ _ => h, fun a o h k => ⟨fun z => k.1 (by rw [el]; exact List.mem_append_left _ z), k.2⟩, fun m a hm h => ?_, fun l g hl h => ?_⟩, R'.rst, R.rst.len.symm, ⟨l, el⟩, fun d hd => (R'.ded d hd).1⟩
  · rw [el, List.getElem?_append_left (by rw [R.rst.len]; exact hm)] at h
    exact h
  · have h : (F.C.γ ++ gs)[l]? = some g := h
    rw [List.getElem?_append_left hl] at h
    exact h
/-- the caller's state behind -/
theorem Rel.exit (R : F.Rl ρ st ι σ H) (s : Step ι H ι' H') (R' : Rel (F.C.call gs ls) F.T ι H ρ' st' ι' σ' H') (hl : ∀ m ob, m < st.length → st'[m]? = some ob → obLow F.C.γ.length ob) : F.Rl ρ (st'.take st.length) ι σ H' := by
  have e := ends_of R s R'
  obtain ⟨l, el, fl⟩ := s.more
  have sb := step_back s
  have hle : st.length ≤ st'.length := by rw [← R.rst.len, ← R'.rst.len, el, List.length_append]; omega
  refine ⟨⟨R.rst.nd, by rw [List.length_take, R.rst.len]; omega, fun m a ob e1 e2 => ?_⟩, R.env.mono sb, R'.tab, R.tni, R.fr0.trans sb, R.len, fun d hd => ⟨(R.ded d hd).1, (R'.ded d hd).2⟩, fun q hq m ob hm e2 => ?_, fun q hq => ?_⟩
  · have hm : m < st.length := by rw [← R.rst.len]; exact (List.getElem?_eq_some_iff.mp e1).1
    rw [List.getElem?_take_of_lt hm] at e2
    have e1' : ι'[m]? = some a := by rw [el, List.getElem?_append_left (List.getElem?_eq_some_iff.mp e1).1]; exact e1
    have h := R'.rst.ob m a ob e1' e2
    have hlow := hl m ob hm e2
    cases ob with
    | lst ps => obtain ⟨z, xs, e3, q⟩ := h; exact ⟨z, xs, e3, q.mv e.m (coks_of z hlow)⟩
    | dct ks vs => obtain ⟨z, z2, kvs, e3, q1, q⟩ := h; exact ⟨z, z2, kvs, e3, q1, q.mv e.m (coks_of (nrfs_of z2) (clows_of z2))⟩
  · have hq1 := R.lown q hq
    have e2 : (st'.take st.length)[m]? = some ob := e2
    rw [List.getElem?_take_of_lt (by omega)] at e2
    exact R'.low q (List.mem_append_right _ hq) m ob hm e2
  · have := R.lown q hq
    rw [List.length_take]
    omega
theorem fin_ok {ret : Bool} {v : PV} {x : V} (R : F.Rl ρ st ι σ H) (s : Step ι H ι' H') (R' : Rel (F.C.call gs ls) F.T ι H ρ' st' ι' σ' H') (hl : ∀ m ob, m < st.length → st'[m]? = some ob → obLow F.C.γ.length ob) (r : Rep (F.C.call gs ls) ι' H' x v)
    (h : Aft F (rpV F) ρ ι σ H (fin ret F.C.γ.length st.length (.ok v st')) Q) : Q x H' := by
  have e := ends_of R s R'
  have RX := Rel.exit R s R' hl
  have sb := step_back s
  have gen : Aft F (rpV F) ρ ι σ H (if cls st.length F.C.γ.length (frz st' st.length v) = true then .ok (frz st' st.length v) (st'.take st.length) else .bad) Q → Q x H' := fun h => by
    split at h
    · rename_i hc
      exact h x ι H' sb RX (r.exit e hc)
    · exact h.elim
  cases ret with
  | false => exact gen h
  | true =>
   cases v with
   | ref m =>
    have h : Aft F (rpV F) ρ ι σ H (if m < st.length then .ok (.ref m) (st'.take st.length) else match st'[m]? with | some ob => (if obC st.length F.C.γ.length ob then .ok (.ref st.length) (st'.take st.length ++ [ob]) else .bad) | none => .bad) Q := h
    obtain ⟨l, el, fl⟩ := s.more
    by_cases hm : m < st.length
    · rw [if_pos hm] at h
      cases r with
      | ref hr => exact h _ ι H' sb RX (.ref (e.m.ix _ _ hm hr))
    · rw [if_neg hm] at h
      cases r with
      | @ref a _ hr =>
        obtain ⟨ob, e1, ro⟩ := R'.rst.at hr
        rw [e1] at h
        dsimp only at h
        by_cases hc : obC st.length F.C.γ.length ob = true
        · rw [if_pos hc] at h
          have hmem : a ∈ ι' := List.mem_of_getElem? hr
          have hnι : a ∉ ι := fun z => by
            obtain ⟨j, hj⟩ := List.getElem?_of_mem z
            have hj2 : ι'[j]? = some a := by rw [el, List.getElem?_append_left (List.getElem?_eq_some_iff.mp hj).1]; exact hj
            have hlt := (List.getElem?_eq_some_iff.mp hj).1
            have := nodup_at R'.rst.nd hr hj2
            have := R.rst.len
            omega
          have hal : a ∈ l := by
            rw [el] at hmem
            rcases List.mem_append.mp hmem with z | z
            · exact absurd z hnι
            · exact z
          have hHa : H a = none := fl a hal
          have s2 : Step ι H (ι ++ [a]) H' := ⟨⟨[a], rfl, fun b hb => by rw [List.mem_singleton.mp hb]; exact hHa⟩, s.keep, s.there⟩
          have hnd : a ∉ F.C.dead := fun z => e.ded a z hmem
          have m2 : Mv (F.C.call gs ls) F.C ι' (ι ++ [a]) H' H' st.length F.C.γ.length := by
            refine ⟨rfl, rfl, fun b o h _ _ => h, fun b o h k => ⟨fun z => ?_, k.2⟩, fun m b hm h => ?_, e.m.gam⟩
            · rcases List.mem_append.mp z with z | z
              · exact k.1 (by rw [el]; exact List.mem_append_left _ z)
              · rw [List.mem_singleton.mp z] at k; exact k.1 hmem
            · rw [List.getElem?_append_left (by rw [R.rst.len]; exact hm)]
              rw [el, List.getElem?_append_left (by rw [R.rst.len]; exact hm)] at h
              exact h
          have hle : st.length ≤ st'.length := by rw [← R.rst.len, ← R'.rst.len, el, List.length_append]; omega
          have hlt : (st'.take st.length).length = st.length := by rw [List.length_take]; omega
          have RX2 : F.Rl ρ (st'.take st.length ++ [ob]) (ι ++ [a]) σ H' := by
            refine ⟨⟨?_, by rw [List.length_append, List.length_append, hlt, R.rst.len]; rfl, fun m2' b ob2 e2 e3 => ?_⟩, R.env.mono s2, R'.tab, fun p hp z => ?_, R.fr0.trans s2, R.len, fun d hd => ⟨fun z => ?_, (R'.ded d hd).2⟩, fun q hq m2' ob2 hm2 e3 => ?_, fun q hq => ?_⟩
            · rw [List.nodup_append]
              exact ⟨R.rst.nd, by simp, fun x hx y hy z => hnι (by rw [List.mem_singleton.mp hy] at z; rw [← z]; exact hx)⟩
            · by_cases hj : m2' < st.length
              · rw [List.getElem?_append_left (by rw [R.rst.len]; exact hj)] at e2
                rw [List.getElem?_append_left (by rw [hlt]; exact hj), List.getElem?_take_of_lt hj] at e3
                have e2' : ι'[m2']? = some b := by rw [el, List.getElem?_append_left (by rw [R.rst.len]; exact hj)]; exact e2
                have h := R'.rst.ob m2' b ob2 e2' e3
                have hlow := hl m2' ob2 hj e3
                cases ob2 with
                | lst ps => obtain ⟨z, xs, e4, q⟩ := h; exact ⟨z, xs, e4, q.mv m2 (coks_of z hlow)⟩
                | dct ks vs => obtain ⟨z, z2, kvs, e4, q1, q⟩ := h; exact ⟨z, z2, kvs, e4, q1, q.mv m2 (coks_of (nrfs_of z2) (clows_of z2))⟩
              · have hj2 : m2' = st.length := by
                  have := (List.getElem?_eq_some_iff.mp e2).1
                  rw [List.length_append, R.rst.len] at this
                  simp at this
                  omega
                subst hj2
                rw [List.getElem?_append_right (by rw [R.rst.len]; exact Nat.le_refl _), R.rst.len, Nat.sub_self] at e2
                rw [List.getElem?_append_right (by rw [hlt]; exact Nat.le_refl _), hlt, Nat.sub_self] at e3
                have e2 : a = b := Option.some.inj e2
                have e3 : ob = ob2 := Option.some.inj e3
                subst e2 e3
                cases ob with
                | lst ps => obtain ⟨z, xs, e4, q⟩ := ro; exact ⟨z, xs, e4, q.mv m2 (coks_cls hc)⟩
                | dct ks vs => obtain ⟨z, z2, kvs, e4, q1, q⟩ := ro; exact ⟨z, z2, kvs, e4, q1, q.mv m2 (coks_of (nrfs_of z2) (clows_of z2))⟩
            · rcases List.mem_append.mp z with z | z
              · exact R.tni p hp z
              · exact R'.tni p hp (by rw [List.mem_singleton.mp z]; exact hmem)
            · rcases List.mem_append.mp z with z | z
              · exact (R.ded d hd).1 z
              · rw [List.mem_singleton.mp z] at hd; exact hnd hd
            · have hq1 := R.lown q hq
              rw [List.getElem?_append_left (by rw [hlt]; omega), List.getElem?_take_of_lt (by omega)] at e3
              exact R'.low q (List.mem_append_right _ hq) m2' ob2 hm2 e3
            · have := R.lown q hq
              rw [List.length_append, hlt]
              omega
          refine h _ (ι ++ [a]) H' s2 RX2 (.ref ?_)
          rw [List.getElem?_append_right (by rw [R.rst.len]; exact Nat.le_refl _), R.rst.len, Nat.sub_self]
          rfl
        · rw [if_neg hc] at h
          exact h.elim
   | _ => exact gen h
theorem fin_exc {ret : Bool} {k : Nat} {v : PV} {x : V} {d : Addr} (R : F.Rl ρ st ι σ H) (s : Step ι H ι' H') (R' : Rel (F.C.call gs ls) F.T ι H ρ' st' ι' σ' H') (hl : ∀ m ob, m < st.length → st'[m]? = some ob → obLow F.C.γ.length ob) (r : Rep (F.C.call gs ls) ι' H' x v)
    (hd : H' d = some (.xd [(("value" : Str), x)])) (nd : d ∉ ι') (h : Aft F (rpV F) ρ ι σ H (fin ret F.C.γ.length st.length (.exc k v st')) Q) : F.W (.ref (F.C.cA k)) (some d) σ H' := by
  have e := ends_of R s R'
  have RX := Rel.exit R s R' hl
  have h : Aft F (rpV F) ρ ι σ H (if nor v = true then .exc k v (st'.take st.length) else .bad) Q := h
  split at h
  · rename_i hn
    refine h d x ι H' (step_back s) RX hd (fun z => nd ?_) (r.mv e.m (cok_of (nrf_of hn) (clow_of hn)))
    obtain ⟨l, el, _⟩ := s.more
    rw [el]; exact List.mem_append_left _ z
  · exact h.elim
end
end PM
set_option Elab.async false
set_option linter.all false
set_option maxRecDepth 100000
set_option maxHeartbeats 4000000
/-! PM26: a def is entered. -/
namespace PM
open PySem PySem.Spec PyProof.Rows L2 LamX
def ssOf (fi : FnI) : SS := { N := fi.N, sc := fi.scope, fn := fun _ => true, own := true, lam := fi.lam, qual := fi.name ++ ".<locals>.", ret := fi.ret, muts := fi.muts }
def bodyOf (G : SI) (fi : FnI) : Option Ss := if C8.scC fi.N fi.ps fi.scope then trSs (trSt G 60 (ssOf fi)) fi.body else none
def entry (n : Nat) (xs : List PV) : Env := xs.map some ++ List.replicate (n - xs.length) none
def fnRun (G : SI) (W : Nat) (cf : Nat → List PV → List Env → Store → R PV) (cl : LamI → List PV → Env → List Env → Store → R PV) (f : Nat) (xs : List PV) (Φ : List Env) (st : Store) : R PV := match G.fns[f]? with
  | none => .bad
  | some fi => match bodyOf G fi with
    | none => .bad
    | some b => if xs.length = fi.ps.length then fin fi.ret Φ.length st.length (flV (exSs ⟨cf, cl, W, fun ρ => Φ ++ [ρ], Φ.length, st.length⟩ b (entry fi.N.length xs) st)) else .bad
def frees (sc : Scope) : List Str := (sc.names.filter fun y => match y.2 with | .free => true | _ => false).map (·.1)
def lamPs (l : LamI) : List Str := l.params.args.map (·.arg)
def lamSS (l : LamI) : SS := { N := lamPs l ++ frees l.scope, sc := l.scope, fn := fun _ => false, own := false, lam := false, qual := "", ret := false, muts := [] }
def plainA : Arguments → Bool
  | ⟨[], _, none, [], [], none, []⟩ => true
  | _ => false
def lamB2 (l : LamI) : Bool := plainA l.params && decide (lamPs l ++ frees l.scope).Nodup && (lamPs l).all (fun x => decide (l.scope.names.lookup x = some .local)) && l.scope.names.all (fun y => !decide (y.2 = .cell)) && (frees l.scope).all (fun x => decide (l.scope.names.lookup x = some .free)) && l.scope.names.all (fun y => !decide (y.2 = .local) || decide (y.1 ∈ lamPs l)) && decide ((lamPs l).length ≤ 2)
def bodyL (G : SI) (l : LamI) : Option E := if lamB2 l then trE G 60 (lamSS l) l.body else none
def caps (l : LamI) (ρc : Env) : Env := (frees l.scope).map fun x => (slot l.N x).bind fun i => gv ρc i
def lamRun (G : SI) (W : Nat) (cf : Nat → List PV → List Env → Store → R PV) (cl : LamI → List PV → Env → List Env → Store → R PV) (l : LamI) (xs : List PV) (ρc : Env) (Φ : List Env) (st : Store) : R PV := match bodyL G l with
  | none => .bad
  | some e => if xs.length = (lamPs l).length then fin false Φ.length st.length ((ev ⟨cf, cl, W, fun _ => Φ, Φ.length, st.length⟩ e).v (xs.map some ++ caps l ρc) st) else .bad
def callB (G : SI) (W : Nat) : Nat → (Nat → List PV → List Env → Store → R PV) × (LamI → List PV → Env → List Env → Store → R PV)
  | 0 => (fun _ _ _ _ => .bad, fun _ _ _ _ _ => .bad)
  | d + 1 => (fnRun G W (callB G W d).1 (callB G W d).2, lamRun G W (callB G W d).1 (callB G W d).2)
def permX {α : Type} (z : α) (p : List Nat) (xs : List α) : List α := if p.isEmpty then xs else p.map fun i => xs.getD i z
theorem permA_X (p : List Nat) (xs : List PV) : permA p xs = permX .non p xs := rfl
/-- what the head tells of a def -/
structure FnF (D : PD) (i : Nat) (fi : FnI) : Prop where
  ex : ∃ (oc : Value) (od : Option Addr) (kV doc pm : Value) (an : Option Addr) (cdv ct : Value) (osl : Array (Option Value)),
    D.K.lookup (D.fa i) = some ⟨oc, od, .func (PySem.W.fnOf fi.name fi.name fi.params fi.body fi.scope .none kV doc pm an cdv ct), osl⟩ ∧ PySem.W.codeIn D.K cdv fi.name = true ∧
      (fi.lam = true → ∃ c P, TabB D.base D.mg c P ∧ cdv = .ref c ∧ (P, fi.name ++ ".<locals>." ++ "<lambda>") ∈ D.T ∧ ∀ p ∈ D.T, p.1 = P → p.2 = fi.name ++ ".<locals>." ++ "<lambda>")
  bind : ∀ (k : Nat) (ks : List Str), (i, k, ks) ∈ D.G.sh → ∀ (kV doc pm : Value) (an : Option Addr) (cdv ct : Value) (us ws : List Value), us.length = k → ws.length = ks.length →
    bindArgs (PySem.W.fnOf fi.name fi.name fi.params fi.body fi.scope .none kV doc pm an cdv ct) ⟨us, ks.zip ws⟩ = pure (fi.ps.zip (permX .none (permOf fi.ps k ks) (us ++ ws)))
structure PD.Fns (D : PD) : Prop where
  all : ∀ i fi, D.G.fns[i]? = some fi → FnF D i fi
  cf : ∀ W d, D.cf W d = (callB D.G W d).1
  cl : ∀ W d, D.cl W d = (callB D.G W d).2
theorem permX_vals {p : List Nat} {vs : List V} {us : List Value} (r : Vals vs us) : Vals (permX .non p vs) (permX .none p us) := by
  unfold permX
  split
  · exact r
  · rename_i h
    clear h
    have at_ : ∀ i : Nat, RelV (vs.getD i .non) (us.getD i .none) := fun i => by
      rw [List.getD_eq_getElem?_getD, List.getD_eq_getElem?_getD]
      cases e : vs[i]? with
      | none =>
        have : us[i]? = none := List.getElem?_eq_none (by rw [← r.length]; exact List.getElem?_eq_none_iff.mp e)
        rw [this]
        exact rfl
      | some v =>
        obtain ⟨u, hu, rv⟩ := r.get e
        rw [hu]
        exact rv
    induction p with
    | nil => exact .nil
    | cons i p ih => exact .cons (at_ i) ih
theorem permX_reps {C : Ct} {ι : List Addr} {H : Hp} {p : List Nat} {vs : List V} {ps : List PV} (r : Reps C ι H vs ps) : Reps C ι H (permX .non p vs) (permX .non p ps) := by
  unfold permX
  split
  · exact r
  · rename_i h
    clear h
    have at_ : ∀ i : Nat, Rep C ι H (vs.getD i .non) (ps.getD i .non) := fun i => by
      rw [List.getD_eq_getElem?_getD, List.getD_eq_getElem?_getD]
      cases e : ps[i]? with
      | none =>
        have : vs[i]? = none := List.getElem?_eq_none (by rw [r.length]; exact List.getElem?_eq_none_iff.mp e)
        rw [this]
        exact .non
      | some v =>
        obtain ⟨u, hu, rv⟩ := r.get e
        rw [hu]
        exact rv
    induction p with
    | nil => exact .nil
    | cons i p ih => exact .cons (at_ i) ih
theorem Reps.app {C : Ct} {ι : List Addr} {H : Hp} : ∀ {a b : List V} {p q : List PV}, Reps C ι H a p → Reps C ι H b q → Reps C ι H (a ++ b) (p ++ q)
  | _, _, _, _, .nil, r => r
  | _, _, _, _, .cons x t, r => .cons x (Reps.app t r)
theorem vals_app : ∀ {a b : List V} {p q : List Value}, Vals a p → Vals b q → Vals (a ++ b) (p ++ q)
  | _, _, _, _, .nil, r => r
  | _, _, _, _, .cons x t, r => .cons x (vals_app t r)
theorem cellsFrom_apart : ∀ (names : List (Str × NameKind)) (n : Nat) (acc : List (Str × Addr)), (acc.Pairwise fun x y => x.2 ≠ y.2) → (∀ p ∈ acc, p.2 < n) → (cellsFrom n names acc).Pairwise fun x y => x.2 ≠ y.2
  | [], n, acc, h, _ => h
  | (x, k) :: r, n, acc, h, hl => by
    unfold cellsFrom
    split
    · refine cellsFrom_apart r (n + 1) _ (List.pairwise_cons.mpr ⟨fun p hp z => ?_, h⟩) fun p hp => ?_
      · have := hl p hp
        have z : n = p.2 := z
        exact absurd this (by rw [← z]; exact Nat.lt_irrefl _)
      · rcases List.mem_cons.mp hp with e | hp
        · rw [e]; exact Nat.lt_succ_self n
        · exact Nat.lt_succ_of_lt (hl p hp)
    · exact cellsFrom_apart r n acc h hl
theorem lvok_def {N ps : List Str} {sc : Scope} {n : Nat} (S : FnScope N ps sc) : LvOk N sc (cellsFrom n sc.names []) := by
  refine ⟨fun x h => ?_, fun x y a h1 h2 => ?_⟩
  · rcases h with h | h
    · exact cell_has h
    · exact absurd rfl (S.nofree _ (PySem.mem_of_lookup h))
  · exact name_of_addr (cellsFrom_apart sc.names n [] .nil (fun p hp => by cases hp)) (PySem.mem_of_lookup h1) (PySem.mem_of_lookup h2)
section
variable {D : PD} {d : Nat} {S : SS} {X : Cx} {F : Fm} {c : Cfg}
abbrev Z1 (S : SS) (F : Fm) (σ : L2.St) : List L2.St := if S.own then F.Z0 ++ [σ] else F.Z0
/-- the levels, ahead of a call -/
theorem Good.levs (g : Good D d S X F c) {pins : List (Addr × Obj)} {s : Shared} {σ : L2.St} {H : Hp} {ρ : Env} {st : Store} {ι : List Addr} (I : L2.Inv X pins σ H s) (R : F.Rl ρ st ι σ H) :
    (Z1 S F σ).length = (c.Φ ρ).length ∧ F.C.γ.length = (c.Φ ρ).length ∧ (∀ (lv : Nat) (σl : L2.St) (ρl : Env), (Z1 S F σ)[lv]? = some σl → (c.Φ ρ)[lv]? = some ρl → REnv F.C ι H σl ρl ∧ ρl.length = σl.length) ∧
      (∀ (lv : Nat) (σl : L2.St) N sc cells, (Z1 S F σ)[lv]? = some σl → F.C.γ[lv]? = some (N, sc, cells) → CellsV N sc cells σl [] s.heap H ∧ CellsT cells [] s.heap H ∧ σl.length = N.length) := by
  have hfp : ∀ a v, s.heap.IsCell a v → a ∉ ([] : List Addr) := fun a v _ => by simp
  have lΦ : (c.Φ ρ).length = if S.own then F.Φ0.length + 1 else F.Φ0.length := by
    cases e : S.own with
    | true => rw [(g.own e).2.2]; simp
    | false => rw [(g.blk e).2]; simp
  refine ⟨?_, ?_, fun lv σl ρl e1 e2 => ?_, fun lv σl N sc cells e1 e2 => ?_⟩
  · rw [lΦ]
    unfold Z1
    cases S.own with
    | true => simp [g.lZ]
    | false => simp [g.lZ]
  · rw [lΦ]
    cases e : S.own with
    | true => rw [(g.own e).1]; rfl
    | false => rw [(g.blk e).1]; rfl
  · have old : ∀ {lv : Nat} {σl : L2.St} {ρl : Env}, F.Z0[lv]? = some σl → F.Φ0[lv]? = some ρl → REnv F.C ι H σl ρl ∧ ρl.length = σl.length := fun a b => by
      obtain ⟨r, l⟩ := g.lev _ _ _ a b
      exact ⟨r.mono R.fr0, l⟩
    unfold Z1 at e1
    cases e : S.own with
    | false =>
      rw [(g.blk e).2] at e2
      rw [e] at e1
      exact old e1 e2
    | true =>
      rw [(g.own e).2.2] at e2
      rw [e] at e1
      have e1 : (F.Z0 ++ [σ])[lv]? = some σl := e1
      by_cases hl : lv < F.Φ0.length
      · rw [List.getElem?_append_left hl] at e2
        rw [List.getElem?_append_left (by rw [g.lZ]; exact hl)] at e1
        exact old e1 e2
      · rw [List.getElem?_append_right (by omega)] at e2
        rw [List.getElem?_append_right (by rw [g.lZ]; omega), g.lZ] at e1
        have z : lv - F.Φ0.length = 0 := by
          have := (List.getElem?_eq_some_iff.mp e2).1
          simp at this
          omega
        rw [z] at e1 e2
        cases e1
        cases e2
        exact ⟨R.env, R.len⟩
  · have old : F.Z0[lv]? = some σl → CellsV N sc cells σl [] s.heap H ∧ CellsT cells [] s.heap H ∧ σl.length = N.length := fun a => by
      obtain ⟨k1, k2, k3⟩ := g.cells lv σl N sc cells a e2
      exact ⟨cellsV_keep k1 I.base hfp, cellsT_keep k2 I.base hfp, k3⟩
    unfold Z1 at e1
    cases e : S.own with
    | false => rw [e] at e1; exact old e1
    | true =>
      rw [e] at e1
      have e1 : (F.Z0 ++ [σ])[lv]? = some σl := e1
      by_cases hl : lv < F.Z0.length
      · rw [List.getElem?_append_left hl] at e1
        exact old e1
      · rw [List.getElem?_append_right (by omega)] at e1
        have z : lv - F.Z0.length = 0 := by
          have := (List.getElem?_eq_some_iff.mp e1).1
          simp at this
          omega
        rw [z] at e1
        cases e1
        have hlv : lv = F.Φ0.length := by rw [← g.lZ]; omega
        rw [hlv, (g.own e).2.1] at e2
        cases e2
        obtain ⟨k1, k2⟩ := own_cells I hfp
        exact ⟨k1, k2, I.len⟩
/-- told in the callee -/
theorem mv_call {C : Ct} {ι : List Addr} {H : Hp} (gs : List (List Str × Scope × List (Str × Addr))) (ls : List (Nat × Nat)) : Mv C (C.call gs ls) ι ι H H ι.length C.γ.length :=
  ⟨rfl, rfl, fun _ _ h _ _ => h, fun _ _ _ n => n, fun _ _ _ h => h, fun l g hl h => by show (C.γ ++ gs)[l]? = _; rw [List.getElem?_append_left hl]; exact h⟩
theorem entry_len (n : Nat) (xs : List PV) (h : xs.length ≤ n) : (entry n xs).length = n := by
  unfold entry
  rw [List.length_append, List.length_map, List.length_replicate]
  omega
theorem entry_env {C : Ct} {ι : List Addr} {H : Hp} {N : List Str} {vs : List V} {xs : List PV} (r : Reps C ι H vs xs) : REnv C ι H (L2.start N vs) (entry N.length xs) := fun i v e => by
  unfold entry at e
  unfold L2.start
  have hl := r.length
  by_cases hi : i < xs.length
  · rw [List.getElem?_append_left (by simpa using hi), List.getElem?_map] at e
    cases ex : xs[i]? with
    | none => rw [ex] at e; cases e
    | some p =>
      rw [ex] at e
      cases e
      obtain ⟨x, h1, h2⟩ := r.get ex
      exact ⟨x, by rw [List.getElem?_append_left (by rw [List.length_map, hl]; exact hi), List.getElem?_map, h1]; rfl, h2⟩
  · rw [List.getElem?_append_right (by simpa using hi), List.getElem?_replicate] at e
    split at e <;> cases e
/-- the knowledge of the callee's frame -/
abbrev Fm.fn (F : Fm) (S : SS) (c : Cfg) (σ : L2.St) (ρ : Env) (st : Store) (ι : List Addr) (H : Hp) (g : List Str × Scope × List (Str × Addr)) : Fm :=
  { C := F.C.call [g] [(st.length, F.C.γ.length)], T := F.T, ι0 := ι, H0 := H, W := fun cls d _ H' => F.W cls d σ H', Z0 := Z1 S F σ, Φ0 := c.Φ ρ }
theorem Rel.enter {R0 : Type} (g : Good D d S X F c) {pins : List (Addr × Obj)} {s : Shared} {σ : L2.St} {H : Hp} {ρ : Env} {st : Store} {ι : List Addr} (R : F.Rl ρ st ι σ H) {N : List Str} {q : List Str × Scope × List (Str × Addr)} {vs : List V} {xs : List PV} (r : Reps F.C ι H vs xs) (hl : xs.length ≤ N.length) :
    (F.fn S c σ ρ st ι H q).Rl (entry N.length xs) st ι (L2.start N vs) H := by
  have m := mv_call (C := F.C) (ι := ι) (H := H) [q] [(st.length, F.C.γ.length)]
  refine ⟨⟨R.rst.nd, R.rst.len, fun n a ob e1 e2 => (R.rst.ob n a ob e1 e2).mvs fun {xs ps} r => r.mv m r.cokR⟩, entry_env (r.mv m r.cokR), R.tab, R.tni, Step.refl, ?_, R.ded, fun p hp n ob hn e2 => ?_, fun p hp => ?_⟩
  · rw [entry_len _ _ hl]
    unfold L2.start
    rw [List.length_append, List.length_map, List.length_replicate, r.length]
    omega
  · rcases List.mem_cons.mp hp with e | hp
    · subst e
      have hn : n < st.length := hn
      obtain ⟨a, ha⟩ : ∃ a, ι[n]? = some a := by
        have : n < ι.length := by rw [R.rst.len]; exact hn
        exact ⟨_, List.getElem?_eq_getElem this⟩
      have h := R.rst.ob n a ob ha e2
      cases ob with
      | lst ps => obtain ⟨_, ys, _, q⟩ := h; exact q.low
      | dct ks vs => exact trivial
    · exact R.low p hp n ob hn e2
  · rcases List.mem_cons.mp hp with e | hp
    · subst e; exact Nat.le_refl _
    · exact R.lown p hp
/-- the callee's context -/
abbrev Cx.fn (X : Cx) (F : Fm) (fi : FnI) (f : Addr) (cdv : Value) (s : Shared) (σ : L2.St) (H : Hp) : Cx :=
  cxOf (L2.CX X.prog X.w) X.prog X.w X.K X.mg X.base fi.N fi.name fi.scope f cdv X.A X.stack s H (fun cls dd H' => F.W cls dd σ H')
theorem Good.fnG (g : Good D (d + 1) S X F c) {pins : List (Addr × Obj)} {s : Shared} {σ : L2.St} {H : Hp} {ρ : Env} {st : Store} {ι : List Addr} (I : L2.Inv X pins σ H s) (R : F.Rl ρ st ι σ H) {fi : FnI} {f : Addr} {cdv : Value} (Sc : FnScope fi.N fi.ps fi.scope)
    (hl : fi.lam = true → ∃ c P, TabB D.base D.mg c P ∧ cdv = .ref c ∧ (P, fi.name ++ ".<locals>." ++ "<lambda>") ∈ D.T ∧ ∀ p ∈ D.T, p.1 = P → p.2 = fi.name ++ ".<locals>." ++ "<lambda>") :
    Good D d (ssOf fi) (Cx.fn X F fi f cdv s σ H) (F.fn S c σ ρ st ι H (fi.N, fi.scope, cellsFrom (s.heap.objs.size + 1) fi.scope.names [])) ⟨D.cf c.W d, D.cl c.W d, c.W, fun ρ' => c.Φ ρ ++ [ρ'], (c.Φ ρ).length, st.length⟩ := by
  obtain ⟨l1, l2, l3, l4⟩ := g.levs I R
  have m := mv_call (C := F.C) (ι := ι) (H := H) [(fi.N, fi.scope, cellsFrom (s.heap.objs.size + 1) fi.scope.names [])] [(st.length, F.C.γ.length)]
  refine ⟨g.prog, g.w, g.K, g.mg, g.base, rfl, ?_, ?_, rfl, Sc.nd, rfl, rfl, g.Fk, g.FcA, g.FT, takes_of rfl rfl rfl rfl, fun q hq => ?_, rfl, rfl, fun _ => rfl, l1, fun _ => ⟨?_, ?_, fun _ => rfl⟩, fun z => (by cases z), fun lv σl ρl e1 e2 => ?_, fun lv σl N sc cells e1 e2 => ?_, fun lv N sc cells e => ?_, fun h => ?_⟩
  · exact g.gds
  · exact (g.room.mono (by omega)).deeper _
  · rcases List.mem_cons.mp hq with e | hq
    · rw [e]; exact Nat.le_refl _
    · exact R.lown q hq
  · show (F.C.γ ++ _).length = (c.Φ ρ).length + 1
    rw [List.length_append, l2]; rfl
  · show (F.C.γ ++ _)[(c.Φ ρ).length]? = _
    rw [← l2, List.getElem?_append_right (Nat.le_refl _), Nat.sub_self]
    rfl
  · obtain ⟨r, hlen⟩ := l3 lv σl ρl e1 e2
    refine ⟨fun i v e => ?_, hlen⟩
    obtain ⟨x, h1, h2⟩ := r i v e
    exact ⟨x, h1, h2.mv m h2.cokR⟩
  · have e2 : (F.C.γ ++ _)[lv]? = some (N, sc, cells) := e2
    have hlv : lv < F.C.γ.length := by
      have := (List.getElem?_eq_some_iff.mp e1).1
      have z : (Z1 S F σ).length = (c.Φ ρ).length := l1
      have this : lv < (Z1 S F σ).length := this
      omega
    rw [List.getElem?_append_left hlv] at e2
    exact l4 lv σl N sc cells e1 e2
  · have e : (F.C.γ ++ [(fi.N, fi.scope, cellsFrom (s.heap.objs.size + 1) fi.scope.names [])])[lv]? = some (N, sc, cells) := e
    by_cases hlv : lv < F.C.γ.length
    · rw [List.getElem?_append_left hlv] at e
      exact g.lvok lv N sc cells e
    · rw [List.getElem?_append_right (by omega)] at e
      have z : lv - F.C.γ.length = 0 := by
        have := (List.getElem?_eq_some_iff.mp e).1
        simp at this
        omega
      rw [z] at e
      cases e
      exact lvok_def Sc
  · obtain ⟨cc, P, TB, hc, hm, hu⟩ := hl h
    refine ⟨rfl, cc, P, ?_, hc, hm, hu⟩
    show TabB X.base X.mg cc P
    rw [g.base, g.mg]; exact TB
theorem own_fn {fi : FnI} {f : Addr} {cdv : Value} {s : Shared} {σ : L2.St} {H : Hp} : Own (Cx.fn X F fi f cdv s σ H) := ⟨rfl, rfl, passes_of rfl, rfl⟩
/-- a def called -/
theorem call_sound (ok : D.Ok) (er : D.Err) (tr : D.Tr) (mk : D.Mk) (fns : D.Fns) (ca : CallAll D d) (g : Good D (d + 1) S X F c) : CallS D X F c := by
  intro i fi k ks hfi hsh pins s σ H us ws vs zs Q ρ st ι ps qs I R rv rz hu hw rps rqs h
  rw [g.cf, fns.cf] at h
  have h : Aft F (rpV F) ρ ι σ H (fnRun D.G c.W (callB D.G c.W d).1 (callB D.G c.W d).2 i (permA (permOf fi.ps k ks) (ps ++ qs)) (c.Φ ρ) st) Q := h
  unfold fnRun at h
  rw [hfi] at h
  dsimp only at h
  split at h
  · exact h.elim
  · rename_i b hb
    split at h
    · rename_i hlen
      obtain ⟨oc, od, kV, doc, pm, an, cdv, ct, osl, lk, hcd, hlam⟩ := (fns.all i fi hfi).ex
      unfold bodyOf at hb
      split at hb
      · rename_i hsc
        have Sc := C8.fnScope_by hsc
        have hbind := (fns.all i fi hfi).bind k ks hsh kV doc pm an cdv ct us ws hu hw
        have rV := permX_vals (p := permOf fi.ps k ks) (vals_app rv rz)
        have rR := permX_reps (p := permOf fi.ps k ks) (Reps.app rps rqs)
        rw [permA_X] at h hlen
        generalize hxs : permX PV.non (permOf fi.ps k ks) (ps ++ qs) = xs at h hlen rR
        generalize hvs : permX V.non (permOf fi.ps k ks) (vs ++ zs) = xv at rV rR
        have hxl : xv.length = fi.ps.length := by rw [rR.length]; exact hlen
        have hpl : fi.ps.length ≤ fi.N.length := by have := congrArg List.length Sc.pre; rw [List.length_take] at this; omega
        have rc : codeAny (model X.prog X.w) X.A (.call (.ref (D.fa i)) ⟨us, ks.zip ws⟩) (CR (L2.CX X.prog X.w) X.stack X.prog X.w H s Q (fun cls dd H' => F.W cls dd σ H')) s := by
          refine run_ofS (k := d + 8) (name := fi.name) (qual := fi.name) (params := fi.params) (body := fi.body) (scope := fi.scope) (N := fi.N) (ps := fi.ps) (by rw [g.K]; exact lk) (by rw [g.K]; exact hcd) Sc (g.room.mono (by omega)) I.env0 (.of_eq hbind) rV hxl fun hr' => ?_
          have G := g.fnG I R (f := D.fa i) (cdv := cdv) Sc hlam
          refine ⟨tS _ (exSs _ b), ss_all (fun st s' h => s_all ok er tr mk ca 60 (ssOf fi) st s' h _ _ _ G own_fn Sc.kind) hb, entry fi.N.length xs, st, ι, Rel.enter (R0 := Nat) g (pins := pins) (s := s) R rR (by omega), ?_⟩
          have lγ : F.C.γ.length = (c.Φ ρ).length := (g.levs I R).2.1
          rw [← lγ] at h
          rw [fns.cf, fns.cl, ← lγ]
          revert h
          cases exSs ⟨(callB D.G c.W d).1, (callB D.G c.W d).2, c.W, fun ρ' => c.Φ ρ ++ [ρ'], F.C.γ.length, st.length⟩ b (entry fi.N.length xs) st with
          | bad => exact fun h => h
          | exc kk v st' => exact fun h dd x ρ' ι' H' σ' s' R' e n r => fin_exc (F := F) R s' R' (fun m ob hm e => R'.low (st.length, F.C.γ.length) List.mem_cons_self m ob hm e) r e n h
          | ok fl st' =>
            cases fl with
            | nx ρ' => exact fun h ι' H' σ' s' R' => fin_ok R s' R' (fun m ob hm e => R'.low (st.length, F.C.γ.length) List.mem_cons_self m ob hm e) .non h
            | rt v => exact fun h x ρ' ι' H' σ' s' R' r => fin_ok R s' R' (fun m ob hm e => R'.low (st.length, F.C.γ.length) List.mem_cons_self m ob hm e) r h
            | bk ρ' => exact fun h _ _ _ _ _ => h.elim
            | ct ρ' => exact fun h _ _ _ _ _ => h.elim
        refine wpAny_call (codeAny_mono rc fun r s2 hq => ?_)
        cases r with
        | error e => exact g.tk e s2 (XE.of_call I (fun cls dd H' h => h) hq)
        | ok fl =>
          cases fl with
          | ret u => exact I.after hq
          | next => exact False.elim hq
          | brk => exact False.elim hq
          | cont => exact False.elim hq
      · cases hb
    · exact h.elim
end
end PM
set_option Elab.async false
set_option linter.all false
set_option maxRecDepth 100000
set_option maxHeartbeats 4000000
/-! PM27: a lambda is called. -/
namespace PM
open PySem PySem.Spec PyProof.Rows L2 LamX
structure LamOk (l : LamI) : Prop where
  pl : plainA l.params = true
  nd : (lamPs l ++ frees l.scope).Nodup
  loc : ∀ x ∈ lamPs l, l.scope.names.lookup x = some .local
  noc : ∀ y ∈ l.scope.names, y.2 ≠ .cell
  fr : ∀ x ∈ frees l.scope, l.scope.names.lookup x = some .free
  ps : ∀ y ∈ l.scope.names, y.2 = .local → y.1 ∈ lamPs l
  le : (lamPs l).length ≤ 2
theorem lamOk_of {l : LamI} (h : lamB2 l = true) : LamOk l := by
  unfold lamB2 at h
  simp only [Bool.and_eq_true, List.all_eq_true, decide_eq_true_eq, Bool.not_eq_true', decide_eq_false_iff_not, Bool.or_eq_true] at h
  obtain ⟨⟨⟨⟨⟨⟨h1, h2⟩, h3⟩, h4⟩, h5⟩, h6⟩, h7⟩ := h
  refine ⟨h1, h2, h3, h4, h5, fun y hy e => ?_, h7⟩
  rcases h6 y hy with z | z
  · exact absurd e z
  · exact z
theorem seqI_none : seqItems? Value.none = pure none := rfl
theorem bind_l1 (q : Str) (body : Expr) (scope : Scope) (cl : List (Str × Addr)) (pm cv ctv u : Value) (a : Arg) : bindArgs (PySem.W.kla_fn "<lambda>" q ⟨[], [a], none, [], [], none, []⟩ body scope cl pm cv ctv) ⟨[u], []⟩ = pure [(a.arg, u)] := by
  unfold bindArgs
  simp only [List.map_cons, List.map_nil, List.nil_append, List.append_nil, List.zip_cons_cons, List.zip_nil_right, List.forIn_nil, pure_bind, seqI_none]
  simp [List.lookup]
theorem bind_l2 (q : Str) (body : Expr) (scope : Scope) (cl : List (Str × Addr)) (pm cv ctv u v : Value) (a b : Arg) (h : a.arg ≠ b.arg) : bindArgs (PySem.W.kla_fn "<lambda>" q ⟨[], [a, b], none, [], [], none, []⟩ body scope cl pm cv ctv) ⟨[u, v], []⟩ = pure [(a.arg, u), (b.arg, v)] := by
  have h2 : (b.arg == a.arg) = false := by simpa using Ne.symm h
  unfold bindArgs
  simp only [List.map_cons, List.map_nil, List.nil_append, List.append_nil, List.zip_cons_cons, List.zip_nil_right, List.forIn_nil, pure_bind, seqI_none]
  simp [List.lookup, h2]
theorem bind_lam {l : LamI} (L : LamOk l) {cl : List (Str × Addr)} {pm cv ctv : Value} {us : List Value} (hu : us.length = (lamPs l).length) : bindArgs (PySem.W.kla_fn "<lambda>" l.qual l.params l.body l.scope cl pm cv ctv) ⟨us, []⟩ = pure ((lamPs l).zip us) := by
  obtain ⟨q, params, body, scope, N⟩ := l
  obtain ⟨p1, p2, p3, p4, p5, p6, p7⟩ := params
  have pl := L.pl
  have le := L.le
  match p1, p3, p4, p5, p6, p7, pl with
  | [], none, [], [], none, [], _ =>
    unfold lamPs at hu le ⊢
    match p2, us, hu, le with
    | [], [], _, _ => rfl
    | [a], [u], _, _ => exact bind_l1 q body scope cl pm cv ctv u a
    | [a, b], [u, v], _, _ =>
      refine bind_l2 q body scope cl pm cv ctv u v a b fun z => ?_
      have nd := (List.nodup_append.mp L.nd).1
      have nd : ([a.arg, b.arg] : List Str).Nodup := nd
      simp [z] at nd
    | _ :: _ :: _ :: _, _, _, h => simp at h
theorem frees_mem {sc : Scope} {x : Str} : x ∈ frees sc ↔ (x, NameKind.free) ∈ sc.names := by
  unfold frees
  rw [List.mem_map]
  constructor
  · rintro ⟨⟨y, k⟩, h, rfl⟩
    rw [List.mem_filter] at h
    obtain ⟨h1, h2⟩ := h
    cases k <;> first | exact h1 | cases h2
  · intro h
    exact ⟨(x, .free), List.mem_filter.mpr ⟨h, rfl⟩, rfl⟩
/-- the frame's values in a lambda: those given, those caught -/
def lamσ (l : LamI) (vs : List V) (σl : L2.St) : L2.St := vs.map some ++ (frees l.scope).map fun x => (slot l.N x).bind fun i => (σl[i]?).getD none
abbrev lamE (l : LamI) (cells : List (Str × Addr)) (L f c' : Addr) : PySem.Env := PySem.W.envX l.qual l.scope L f (.ref c') (cloFrom cells l.scope.names [])
/-- the context of a lambda's body -/
def lmCx (X : Cx) (F : Fm) (l : LamI) (cells : List (Str × Addr)) (s : Shared) (σ : L2.St) (H : Hp) (f c' : Addr) : Cx where
  prog := X.prog
  w := X.w
  K := X.K
  mg := X.mg
  base := X.base
  A := X.A.deeper (lamE l cells s.heap.objs.size f c')
  N := lamPs l ++ frees l.scope
  s_0 := s
  H_0 := H
  env := lamE l cells s.heap.objs.size f c'
  outer := X.stack
  stack := lamE l cells s.heap.objs.size f c' :: X.stack
  ex := []
  fn := fun _ => false
  calm := true
  pn := []
  xe := fun e s' => wpAny (model X.prog X.w) (X.A.deeper (lamE l cells s.heap.objs.size f c')) (leaving (lamE l cells s.heap.objs.size f c') e) (fun _ s'' => L2.CX X.prog X.w X.stack H s (fun cls dd H' => F.W cls dd σ H') e s'') (fun e' s'' => L2.CX X.prog X.w X.stack H s (fun cls dd H' => F.W cls dd σ H') e' s'') s'
theorem zip_nd : ∀ {ps : List Str} {us : List Value}, ps.Nodup → ((ps.zip us).map (·.1)).Nodup
  | [], _, _ => by simp
  | _ :: _, [], _ => by simp
  | p :: ps, u :: us, nd => by
    obtain ⟨h1, h2⟩ := List.nodup_cons.mp nd
    show (p :: (ps.zip us).map (·.1)).Nodup
    refine List.nodup_cons.mpr ⟨fun h => ?_, zip_nd h2⟩
    obtain ⟨⟨a, b⟩, hm, e⟩ := List.mem_map.mp h
    have e : a = p := e
    exact h1 (by rw [← e]; exact (List.of_mem_zip hm).1)
theorem zip_lookup {ps : List Str} : ∀ {us : List Value} {i : Nat} {x : Str} {u : Value}, ps.Nodup → ps[i]? = some x → us[i]? = some u → (ps.zip us).reverse.lookup x = some u := by
  intro us i x u nd h1 h2
  have key : ∀ (q : List (Str × Value)), (q.map (·.1)).Nodup → (x, u) ∈ q → q.lookup x = some u := by
    intro q
    induction q with
    | nil => intro _ h; cases h
    | cons a r ih =>
      intro nd h
      obtain ⟨y, w⟩ := a
      simp only [List.map_cons, List.nodup_cons] at nd
      rcases List.mem_cons.mp h with e | h
      · cases e
        simp [List.lookup]
      · have hne : x ≠ y := fun z => nd.1 (by rw [← z]; exact List.mem_map.mpr ⟨(x, u), h, rfl⟩)
        have hb : (x == y) = false := by simpa using hne
        simp only [List.lookup, hb]
        exact ih nd.2 h
  refine key _ ?_ ?_
  · rw [List.map_reverse]
    exact List.pairwise_reverse.mpr ((zip_nd nd).imp fun h => Ne.symm h)
  · rw [List.mem_reverse]
    have : (ps.zip us)[i]? = some (x, u) := by
      rw [List.getElem?_zip_eq_some]
      exact ⟨h1, h2⟩
    exact List.mem_of_getElem? this
section
variable {D : PD} {d : Nat} {S : SS} {X : Cx} {F : Fm} {c : Cfg}
theorem lam_enter {pins : List (Addr × Obj)} {s : Shared} {σ : L2.St} {H : Hp} (I : L2.Inv X pins σ H s) (hd : X.A.handled = none) {l : LamI} (L : LamOk l) {sc : Scope} {cells : List (Str × Addr)} (hlb : lamB sc l.scope = true) (lv : LvOk l.N sc cells) {σl : L2.St} (cv : CellsV l.N sc cells σl [] s.heap H) (ct : CellsT cells [] s.heap H)
    {f c' : Addr} {h₁ : Heap} {tk : Nat} {us : List Value} {vs : List V} (r : Vals vs us) (hl : us.length = (lamPs l).length) (hns : h₁.Ns s.heap.objs.size fun y => ((lamPs l).zip us).reverse.lookup y) (kp : ∀ b o, s.heap.get? b = some o → h₁.get? b = some o) :
    L2.Inv (lmCx X F l cells s σ H f c') [] (lamσ l vs σl) H { s with heap := h₁, toks := tk } := by
  have e0 := I.env0
  obtain ⟨b1, b2, b3, b4⟩ := lamB_free hlb
  have hfree : ∀ y, (y, NameKind.free) ∈ l.scope.names → ∃ c, cells.lookup y = some c := fun y hy => lv.has y (b4 _ hy rfl)
  have cm : ∀ {y c}, (cloFrom cells l.scope.names []).lookup y = some c → cells.lookup y = some c := fun {y c} e => by
    rcases cloFrom_mem (PySem.mem_of_lookup e) with hm | ⟨h1, h2⟩
    · cases hm
    · obtain ⟨c1, hc⟩ := hfree _ h1
      have e2 : c = c1 := by
        rw [h2, hc] <;> rfl
      rw [e2]
      exact hc
  have look : ∀ {y}, (y, NameKind.free) ∈ l.scope.names → ∃ c, (cloFrom cells l.scope.names []).lookup y = some c := fun {y} hy => mem_lookup (cloFrom_has (cells := cells) (acc := []) hy)
  have hK : ∀ {a v}, s.heap.IsCell a v → h₁.IsCell a v := fun {a v} ⟨o, ho, hd⟩ => ⟨o, kp _ _ ho, hd⟩
  have noA : ∀ b : Addr, b ∉ (lmCx X F l cells s σ H f c').ex := fun b z => absurd (show b ∈ ([] : List Addr) from z) (by simp)
  have hvl : vs.length = (lamPs l).length := by rw [r.length]; exact hl
  refine ⟨⟨e0.mod, b1, rfl, rfl, Nat.le_refl _, fun y z c e1 e2 => lv.inj y z c (cm e1) (cm e2), fun y hy => ?_, fun y c z _ => ?_, fun _ => hd, Around.frames_deeper e0.frames, .inr ⟨rfl, rfl⟩, fun b z => absurd z (noA b), e0.bs, e0.bsz, fun b _ _ => noA b,
      fun b z => absurd z (noA b), e0.funs, e0.frf⟩,
    rfl, e0.bare, Un.kept kp, ⟨_, hns, fun i y v e1 e2 e3 => ?_⟩, fun y c e => ?_, e0.hok.fresh (Nat.le_refl _), fun y c e => ?_, fun q hq => absurd (show q ∈ ([] : List (Addr × Obj)) ++ [] from hq) (by simp), e0.hok.kept kp, ?_⟩
  · have hy : l.scope.names.lookup y = some .cell ∨ l.scope.names.lookup y = some .free := hy
    rcases hy with hy | hy
    · exact absurd rfl (L.noc _ (PySem.mem_of_lookup hy))
    · exact look (PySem.mem_of_lookup hy)
  · have z : false = true := z
    cases z
  · have e1 : (lamPs l ++ frees l.scope)[i]? = some y := e1
    have e2 : (vs.map some ++ (frees l.scope).map fun x => (slot l.N x).bind fun i => (σl[i]?).getD none)[i]? = some (some v) := e2
    by_cases hi : i < (lamPs l).length
    · rw [List.getElem?_append_left hi] at e1
      rw [List.getElem?_append_left (by rw [List.length_map, hvl]; exact hi), List.getElem?_map] at e2
      cases ev : vs[i]? with
      | none => rw [ev] at e2; cases e2
      | some v' =>
        rw [ev] at e2
        cases e2
        obtain ⟨u, hu, rv⟩ := r.get ev
        refine ⟨u, rv, .inl ⟨L.loc y (List.mem_of_getElem? e1), zip_lookup ?_ e1 hu⟩⟩
        exact (List.nodup_append.mp L.nd).1
    · rw [List.getElem?_append_right (by omega)] at e1
      rw [List.getElem?_append_right (by rw [List.length_map, hvl]; omega), List.length_map, hvl, List.getElem?_map, e1] at e2
      have e2 : (slot l.N y).bind (fun i => (σl[i]?).getD none) = some v := Option.some.inj e2
      obtain ⟨j, hj, e2⟩ := Option.bind_eq_some_iff.mp e2
      have hyf : y ∈ frees l.scope := List.mem_of_getElem? e1
      have hm := frees_mem.mp hyf
      have e4 : σl[j]? = some (some v) := by
        cases q : σl[j]? with
        | none => rw [q] at e2; cases e2
        | some o => rw [q] at e2; have e2 : o = some v := e2; rw [e2]
      obtain ⟨a, u, ha, ru, hc, _, _⟩ := cv j y v (slot_ok hj) (b4 _ hm rfl) e4
      obtain ⟨c2, h2⟩ := look hm
      have := cm h2
      rw [ha] at this
      cases this
      exact ⟨u, ru, .inr ⟨.inr (L.fr y hyf), a, h2, hK hc⟩⟩
  · obtain ⟨⟨v, hc⟩, _, _⟩ := ct y c (cm e)
    exact ⟨v, hK hc⟩
  · exact (ct y c (cm e)).2.1
  · show (lamσ l vs σl).length = (lamPs l ++ frees l.scope).length
    unfold lamσ
    rw [List.length_append, List.length_append, List.length_map, List.length_map, hvl]
theorem lam_env {C : Ct} {ι : List Addr} {H : Hp} {l : LamI} {vs : List V} {xs : List PV} {σl : L2.St} {ρl : Env} (r : Reps C ι H vs xs) (re : REnv C ι H σl ρl) : REnv C ι H (lamσ l vs σl) (xs.map some ++ caps l ρl) := fun i v e => by
  unfold lamσ
  have hl := r.length
  by_cases hi : i < xs.length
  · rw [List.getElem?_append_left (by simpa using hi), List.getElem?_map] at e
    cases ex : xs[i]? with
    | none => rw [ex] at e; cases e
    | some p =>
      rw [ex] at e
      cases e
      obtain ⟨x, h1, h2⟩ := r.get ex
      exact ⟨x, by rw [List.getElem?_append_left (by rw [List.length_map, hl]; exact hi), List.getElem?_map, h1]; rfl, h2⟩
  · rw [List.getElem?_append_right (by simpa using hi), List.length_map] at e
    unfold caps at e
    rw [List.getElem?_map] at e
    cases ef : (frees l.scope)[i - xs.length]? with
    | none => rw [ef] at e; cases e
    | some y =>
      rw [ef] at e
      have e : (slot l.N y).bind (fun i => gv ρl i) = some v := Option.some.inj e
      obtain ⟨j, hj, e⟩ := Option.bind_eq_some_iff.mp e
      obtain ⟨x, h1, h2⟩ := re.gv e
      refine ⟨x, ?_, h2⟩
      rw [List.getElem?_append_right (by rw [List.length_map, hl]; omega), List.length_map, hl, List.getElem?_map, ef]
      show some ((slot l.N y).bind fun i => (σl[i]?).getD none) = _
      rw [hj]
      show some ((σl[j]?).getD none) = _
      rw [h1]
      rfl
/-- the knowledge of a lambda's frame -/
abbrev Fm.lm (F : Fm) (S : SS) (c : Cfg) (σ : L2.St) (ρ : Env) (st : Store) (ι : List Addr) (H : Hp) : Fm :=
  { C := F.C.call [] [], T := F.T, ι0 := ι, H0 := H, W := fun cls d _ H' => F.W cls d σ H', Z0 := Z1 S F σ, Φ0 := c.Φ ρ }
theorem Good.lmG (g : Good D (d + 1) S X F c) {pins : List (Addr × Obj)} {s : Shared} {σ : L2.St} {H : Hp} {ρ : Env} {st : Store} {ι : List Addr} (I : L2.Inv X pins σ H s) (R : F.Rl ρ st ι σ H) {l : LamI} {cells : List (Str × Addr)} {f c' : Addr} (L : LamOk l) :
    Good D d (lamSS l) (lmCx X F l cells s σ H f c') (F.lm S c σ ρ st ι H) ⟨D.cf c.W d, D.cl c.W d, c.W, fun _ => c.Φ ρ, (c.Φ ρ).length, st.length⟩ := by
  obtain ⟨l1, l2, l3, l4⟩ := g.levs I R
  have m := mv_call (C := F.C) (ι := ι) (H := H) [] []
  refine ⟨g.prog, g.w, g.K, g.mg, g.base, rfl, ?_, ?_, rfl, L.nd, rfl, rfl, g.Fk, g.FcA, g.FT, takes_of rfl rfl rfl rfl, fun q hq => ?_, rfl, rfl, fun z => (by cases z), l1, fun z => (by cases z), fun _ => ⟨?_, fun _ => rfl⟩, fun lv σl ρl e1 e2 => ?_, fun lv σl N sc cells e1 e2 => ?_, fun lv N sc cells e => ?_, fun z => (by cases z)⟩
  · exact g.gds
  · exact (g.room.mono (by omega)).deeper _
  · exact R.lown q hq
  · show (F.C.γ ++ []).length = (c.Φ ρ).length
    rw [List.append_nil, l2]
  · obtain ⟨r, hlen⟩ := l3 lv σl ρl e1 e2
    refine ⟨fun i v e => ?_, hlen⟩
    obtain ⟨x, h1, h2⟩ := r i v e
    exact ⟨x, h1, h2.mv m h2.cokR⟩
  · have e2 : (F.C.γ ++ [])[lv]? = some (N, sc, cells) := e2
    rw [List.append_nil] at e2
    exact l4 lv σl N sc cells e1 e2
  · have e : (F.C.γ ++ [])[lv]? = some (N, sc, cells) := e
    rw [List.append_nil] at e
    exact g.lvok lv N sc cells e
/-- a lambda called -/
theorem clo_sound (ok : D.Ok) (er : D.Err) (fns : D.Fns) (ca : CallAll D d) (g : Good D (d + 1) S X F c) : CloS D X F c := by
  intro l lv ρc f pins s σ H us vs Q ρ st ι ps I R rf rv rps hρ h
  rw [g.cl, fns.cl] at h
  have h : Aft F (rpV F) ρ ι σ H (lamRun D.G c.W (callB D.G c.W d).1 (callB D.G c.W d).2 l ps ρc (c.Φ ρ) st) Q := h
  unfold lamRun at h
  split at h
  · exact h.elim
  · rename_i b hb
    split at h
    · rename_i hlen
      unfold bodyL at hb
      split at hb
      · rename_i hlb2
        have L := lamOk_of hlb2
        cases rf with
        | @clo f c' _ _ sc cells hγ hlb hf nf hc nc =>
          obtain ⟨l1, l2, l3, l4⟩ := g.levs I R
          have hlv : lv < (Z1 S F σ).length := by
            have a1 := (List.getElem?_eq_some_iff.mp hρ).1
            have z : (Z1 S F σ).length = (c.Φ ρ).length := l1
            omega
          have hσl : (Z1 S F σ)[lv]? = some (Z1 S F σ)[lv] := List.getElem?_eq_getElem hlv
          generalize (Z1 S F σ)[lv] = σl at hσl
          obtain ⟨re, hle⟩ := l3 lv σl ρc hσl hρ
          obtain ⟨cv, ct, cl⟩ := l4 lv σl l.N sc cells hσl hγ
          have lvo := g.lvok lv l.N sc cells hγ
          obtain ⟨⟨pm, ctv, hof⟩, _, _⟩ := I.hok f _ hf
          obtain ⟨⟨oc, fv, t, hoc, hdc, hvc⟩, _, _⟩ := I.hok c' _ hc
          have hul : us.length = (lamPs l).length := by rw [← rv.length, rps.length]; exact hlen
          obtain ⟨b1, b2, b3, b4⟩ := lamB_free hlb
          have G := g.lmG I R (l := l) (cells := cells) (f := f) (c' := c') L
          have lγ : F.C.γ.length = (c.Φ ρ).length := l2
          have rc : codeAny (model X.prog X.w) X.A (.call (.ref f) ⟨us, []⟩) (CR (L2.CX X.prog X.w) X.stack X.prog X.w H s Q (fun cls dd H' => F.W cls dd σ H')) s := by
            refine PySem.W.kla_callFunE (g.room.mono (j := 1) (by omega)).depth hof rfl b2 b3 rfl ⟨c', oc, fv, t, rfl, hoc, hdc, hvc⟩ ?_
            rw [bind_lam L hul]
            refine wpAny_pure (wpAny_newFunctionEnv L.noc (fun y hy => L.loc y.1 (List.of_mem_zip hy).1) (fun h₁ hns hsb => ⟨I.nolimit.fresh _ hsb, ?_⟩) b1)
            show codeAny _ _ (.expr l.body (lamE l cells s.heap.objs.size f c')) _ _
            have kp : ∀ b o, s.heap.get? b = some o → h₁.get? b = some o := fun b o e => hsb.extBut b o (Nat.ne_of_lt (Heap.lt_size e)) (Heap.get?_push_of_some _ e)
            have J := lam_enter (F := F) (σ := σ) (f := f) (c' := c') (tk := s.toks + ((lamPs l).zip us).length) I g.room.hd L hlb lvo cv ct rv hul hns kp
            have PEb := (e_all ok er ca 60 (lamSS l) l.body b hb _ _ _ G).v
            have m := mv_call (C := F.C) (ι := ι) (H := H) [] []
            have R2 : (F.lm S c σ ρ st ι H).Rl (ps.map some ++ caps l ρc) st ι (lamσ l vs σl) H := by
              have r := rps.mv m rps.cokR
              have re2 : REnv (F.C.call [] []) ι H σl ρc := fun i v e => by
                obtain ⟨x, h1, h2⟩ := re i v e
                exact ⟨x, h1, h2.mv m h2.cokR⟩
              refine ⟨⟨R.rst.nd, R.rst.len, fun n a ob e1 e2 => (R.rst.ob n a ob e1 e2).mvs fun {xs ps} r => r.mv m r.cokR⟩, lam_env r re2, R.tab, R.tni, Step.refl, ?_, R.ded, R.low, R.lown⟩
              unfold lamσ caps
              rw [List.length_append, List.length_append, List.length_map, List.length_map, List.length_map, List.length_map, rps.length]
            refine PySem.W.kla_codeExpr (wpAny_mono (PEb.run [] _ (lamσ l vs σl) H Q J ⟨_, st, ι, R2, ?_⟩) (fun v s' hq => ?_) fun e s' hq => hq)
            · rw [← lγ] at h
              have hlow : ∀ {ρ' : Env} {ι' : List Addr} {σ' : L2.St} {H' : Hp} {st' : Store}, (F.lm S c σ ρ st ι H).Rl ρ' st' ι' σ' H' → Step ι H ι' H' → ∀ m ob, m < st.length → st'[m]? = some ob → obLow F.C.γ.length ob := fun {ρ' ι' σ' H' st'} R' s' m ob hm e => by
                obtain ⟨a, ha⟩ : ∃ a, ι'[m]? = some a := by
                  have := (List.getElem?_eq_some_iff.mp e).1
                  have : m < ι'.length := by rw [R'.rst.len]; exact this
                  exact ⟨_, List.getElem?_eq_getElem this⟩
                have h := R'.rst.ob m a ob ha e
                cases ob with
                | lst ps =>
                  obtain ⟨_, ys, _, q⟩ := h
                  have := q.low
                  have z : (F.C.call [] []).γ.length = F.C.γ.length := by show (F.C.γ ++ []).length = _; rw [List.append_nil]
                  rw [show (F.lm S c σ ρ st ι H).C.γ.length = F.C.γ.length from z] at this
                  exact this
                | dct ks vs => exact trivial
              rw [fns.cf, fns.cl, ← lγ]
              revert h
              cases (ev ⟨(callB D.G c.W d).1, (callB D.G c.W d).2, c.W, fun _ => c.Φ ρ, F.C.γ.length, st.length⟩ b).v (ps.map some ++ caps l ρc) st with
              | bad => exact fun h => h
              | ok v st' => exact fun h x ι' H' s' R' r => fin_ok (F := F) R s' R' (hlow R' s') r h
              | exc kk v st' => exact fun h dd x ι' H' s' R' e n r => fin_exc (F := F) R s' R' (hlow R' s') r e n h
            · obtain ⟨w', H', J', rv', q⟩ := hq
              exact ⟨w', H', J'.os, J'.bare, J'.base, J'.hok, rv', q⟩
          refine wpAny_call (codeAny_mono rc fun r s2 hq => ?_)
          cases r with
          | error e => exact g.tk e s2 (XE.of_call I (fun cls dd H' h => h) hq)
          | ok fl =>
            cases fl with
            | ret u => exact I.after hq
            | next => exact False.elim hq
            | brk => exact False.elim hq
            | cont => exact False.elim hq
      · cases hb
    · exact h.elim
/-- all calls, at every depth -/
theorem all_calls (ok : D.Ok) (er : D.Err) (tr : D.Tr) (mk : D.Mk) (fns : D.Fns) : ∀ d, CallAll D d
  | 0 => fun S X F c g => by
    refine ⟨fun i fi k ks hfi hsh pins s σ H us ws vs zs Q ρ st ι ps qs I R rv rz hu hw rps rqs h => ?_, fun l lv ρc f pins s σ H us vs Q ρ st ι ps I R rf rv rps hρ h => ?_⟩
    · rw [g.cf, fns.cf] at h
      exact h.elim
    · rw [g.cl, fns.cl] at h
      exact h.elim
  | d + 1 => fun S X F c g => ⟨call_sound ok er tr mk fns (all_calls ok er tr mk fns d) g, clo_sound ok er fns (all_calls ok er tr mk fns d) g⟩
end
end PM
set_option Elab.async false
set_option linter.all false
set_option maxRecDepth 100000
set_option maxHeartbeats 4000000
/-! PM28: the head's facts. -/
namespace PM
open PySem PySem.Spec PyProof.Rows L2 LamX
/-- what is known of a law's text -/
structure Dat where
  G : SI
  ecN : List Str
  file : Str
def errName (t : Dat) (c : Nat) : Str := (t.ecN[c]?).getD "KnitError"
def cAd (t : Dat) (K : PySem.W.Frag) (c : Nat) : Addr := He.ga K (errName t c)
def fnName (t : Dat) (i : Nat) : Str := match t.G.fns[i]? with | some fi => fi.name | none => Str.empty
def fAdr (t : Dat) (K : PySem.W.Frag) (i : Nat) : Addr := He.ga K (fnName t i)
def initA (t : Dat) (K : PySem.W.Frag) : Addr := He.ma K (cAd t K 0) "__init__"
def codeA (K : PySem.W.Frag) (f : Addr) : Addr := match K.lookup f with
  | some ⟨_, _, .func fd, _⟩ => (match fd.code with | .ref c => c | _ => 0)
  | _ => 0
def cellA (K : PySem.W.Frag) (f : Addr) : Addr := match K.lookup f with
  | some ⟨_, _, .func fd, _⟩ => (match fd.closure with | [(_, c)] => c | _ => 0)
  | _ => 0
def tabA (K : PySem.W.Frag) (c : Addr) : Addr := match K.lookup c with
  | some ⟨_, _, .fields vs, _⟩ => (match (vs[11]? : Option Value) with | some (.ref P) => P | _ => 0)
  | _ => 0
/-! ### what is looked at -/
def clsB (K : PySem.W.Frag) (C : Addr) : Bool := match K.lookup C with
  | some ⟨.type "type", _, .cls cd, sl⟩ => (match cd.mro, sl.toList with
    | .ref C' :: bm, [_, _, _, _, some (.builtin n), _] => C' == C && n == "ValueError.__new__" && !cd.hasDel && cd.hasDict && HandSPX.refsVE bm
    | _, _ => false)
  | _ => false
theorem clsB_ok {K : PySem.W.Frag} {C : Addr} (q : clsB K C = true) : ∃ nm q N bs bm sn sub ab col dd k0 k1 k2 k3 k5, K.lookup C = some (excClassObj nm q C N bs bm true sn sub ab col dd k0 k1 k2 k3 k5 "ValueError.__new__") ∧ HandSPX.refsVE bm = true := by
  unfold clsB at q
  split at q
  · rename_i dd cd sl ho
    split at q
    · rename_i C' bm k0 k1 k2 k3 n k5 hm hs
      simp only [Bool.and_eq_true, beq_iff_eq, Bool.not_eq_true'] at q
      obtain ⟨⟨⟨⟨rfl, rfl⟩, hdel⟩, hdc⟩, ht⟩ := q
      obtain ⟨nm, bs, mro, ns, qn, hd, sn, sub, ab, col, del⟩ := cd
      dsimp only at hm hdel hdc
      subst hm hdel hdc
      have hsl : sl = #[k0, k1, k2, k3, some (.builtin "ValueError.__new__"), k5] := by
        obtain ⟨l⟩ := sl
        simp only at hs
        rw [hs]
      subst hsl
      exact ⟨nm, qn, ns, bs, bm, sn, sub, ab, col, dd, k0, k1, k2, k3, k5, ho, ht⟩
    · cases q
  · cases q
def fileB (K : PySem.W.Frag) (cda : Addr) (file : Str) : Bool := match K.lookup cda with
  | some ⟨_, _, .fields vs, _⟩ => (match (vs[2]? : Option Value) with | some (.str f _) => file == f | _ => false)
  | _ => false
theorem fileB_ok {K : PySem.W.Frag} {cda : Addr} {file : Str} (q : fileB K cda file = true) : ∃ (ccl : Value) (cdd : Option Addr) (vs : Array Value) (ccs : Array (Option Value)) (f : Str) (tf : Tok), K.lookup cda = some ⟨ccl, cdd, .fields vs, ccs⟩ ∧ vs[2]? = some (.str f tf) ∧ (file == f) = true := by
  unfold fileB at q
  split at q
  · rename_i a b vs c ho
    split at q
    · rename_i f tf hf
      exact ⟨a, b, vs, c, f, tf, ho, hf, q⟩
    · cases q
  · cases q
def cellB (K : PySem.W.Frag) (cc C0 : Addr) : Bool := match K.lookup cc with
  | some ⟨_, _, .cell (some (.ref c)), _⟩ => c == C0
  | _ => false
theorem cellB_ok {K : PySem.W.Frag} {cc C0 : Addr} (q : cellB K cc C0 = true) : ∃ (cl : Value) (cld : Option Addr) (csl : Array (Option Value)), K.lookup cc = some ⟨cl, cld, .cell (some (.ref C0)), csl⟩ := by
  unfold cellB at q
  split at q
  · rename_i a b c d ho
    have := beq_iff_eq.mp q
    subst this
    exact ⟨a, b, d, ho⟩
  · cases q
def optB (a b : Option Bool) : Bool := decide (a = b)
def optV (a b : Option Value) : Bool := decide (a = b)
/-- one error's class -/
def errB (t : Dat) (K : PySem.W.Frag) (C : Addr) : Bool :=
  let C0 := cAd t K 0
  let fI := initA t K
  clsB K C && (He.eqO (PySem.W.findIn K (.ref C) "__setattr__") (some (some (.builtin "object.__setattr__"))) && (He.eqO (PySem.W.findIn K (.ref C) "value") (some none) && (He.eqO (PySem.W.findIn K (.ref C) "__init__") (some (some (.ref fI))) &&
  (PySem.W.keepIn K (.ref C) && (optB (PySem.W.subIn K (.ref C) (.type "BaseException")) (some true) && (optB (PySem.W.subIn K (.ref C) (.type "ValueError")) (some true) && (optV (PySem.W.typeIn K (.ref C)) (some (.type "type")) &&
  (optB (PySem.W.mroIn K C (.ref C0)) (some true) && (He.eqO (PySem.W.ks_superIn K C C0 "__init__") (some (some (.builtin "ValueError.__init__"))) &&
  ((PySem.W.clsIn K C).isSome && (He.eqO (PySem.W.findIn K (.ref C) "__getattribute__") (some (some (.builtin "BaseException.__getattribute__"))) && (He.eqO (PySem.W.findIn K (.ref C) "__getattr__") (some none) &&
  (He.eqO (PySem.W.findIn K (.ref C) "__class__") (some (some (.builtin "object.__class__"))) && (optB (PySem.W.mroIn K C (.type "object")) (some true) && (PySem.W.hasDictIn K C && optB (PySem.W.kitOne K (.ref C) (.type "ValueError")) (some true))))))))))))))))
def nums (n : Nat) : List Nat := List.range n
def mkB (K : PySem.W.Frag) (C : Addr) (x : Str) : Bool :=
  (match PySem.W.clsIn K C with | some cd => cd.name == x | none => false) && He.eqO (PySem.W.findIn K (.ref C) "__repr__") (some (some (.builtin "BaseException.__repr__")))
/-- all of the errors -/
def errsB (t : Dat) (K : PySem.W.Frag) : Bool :=
  ((nums (t.ecN.length + 1)).all fun c => errB t K (cAd t K c)) && ((nums (t.ecN.length + 1)).all fun c => (nums t.ecN.length).all fun d =>
    optB (PySem.W.kitOne K (.ref (cAd t K c)) (.ref (cAd t K d))) (some (subE c d)) && optB (PySem.W.exmOne K (.ref (cAd t K c)) (.ref (cAd t K d))) (some (subE c d))) &&
  (nums t.ecN.length).all (fun d => ["NoneType", "bool", "int", "str", "tuple", "list", "dict"].all fun ty => optB (PySem.W.kitOne K (.type ty) (.ref (cAd t K d))) (some false)) &&
  t.ecN.all (fun x => (He.Fa.glo x).ok K) && t.G.ec.all (fun p => mkB K (cAd t K p.2) p.1)
/-- what all of them share -/
def initB (t : Dat) (K : PySem.W.Frag) : Bool :=
  let fI := initA t K
  optV (PySem.W.typeIn K (.ref fI)) (some (.type "function")) && (PySem.W.codeIn K (.ref (codeA K fI)) KnE.qI && (fileB K (codeA K fI) t.file && (cellB K (cellA K fI) (cAd t K 0) && ((PySem.W.clsIn K (cAd t K 0)).isSome &&
  ((He.Fa.free "super").ok K && (He.eqO (PySem.W.nsIn K cStatics "thirdparty.any") (some none) && (He.eqO (PySem.W.specialIn K (.builtin "object.__class__") "__get__") (some (some (.builtin "getset_descriptor.__get__"))) && optB (PySem.W.takesIn K (.builtin "object.__class__")) (some true))))))))
/-- a def's own record -/
abbrev FnV2 : Type := Option (Str × Str × Arguments × FuncBody × Scope × Addr × List Str × Addr)
def fnX (K : PySem.W.Frag) (a : Addr) : FnV2 := match K.lookup a with
  | some ⟨_, _, .func fd, _⟩ => some (fd.name, fd.qualname, fd.params, fd.body, fd.scope, fd.globals, fd.closure.map (·.1), fd.builtins)
  | _ => none
def noneB : Value → Bool | .none => true | _ => false
def isRefV : Value → Bool | .ref _ => true | _ => false
def recB (K : PySem.W.Frag) (a : Addr) (q : Str) (kw : Bool) : Bool := match K.lookup a with
  | some ⟨_, _, .func fd, _⟩ => PySem.W.codeIn K fd.code q && (noneB fd.defaults && (kw || noneB fd.kwdefaults) && isRefV fd.code)
  | _ => false
def lamQ (fi : FnI) : Str := fi.name ++ ".<locals>." ++ "<lambda>"
def fnB (t : Dat) (K : PySem.W.Frag) (i : Nat) : Bool := match t.G.fns[i]? with
  | some fi => (He.Fa.glo fi.name).ok K && (PySem.W.keepIn K (.ref (fAdr t K i)) && (recB K (fAdr t K i) fi.name true && (!fi.lam || PySem.W.codeHdIn K (codeA K (fAdr t K i)) (tabA K (codeA K (fAdr t K i))))))
  | none => true
def lams (t : Dat) : List Nat := (nums t.G.fns.length).filter fun i => match t.G.fns[i]? with | some fi => fi.lam | none => false
def tabsK (t : Dat) (K : PySem.W.Frag) : List (Addr × Addr) := (lams t).map fun i => (codeA K (fAdr t K i), tabA K (codeA K (fAdr t K i)))
def tabsT (t : Dat) (K : PySem.W.Frag) : List (Addr × Str) := (lams t).map fun i => (tabA K (codeA K (fAdr t K i)), fnName t i ++ ".<locals>." ++ "<lambda>")
/-- the items of a tuple -/
def itsB : List PV → List Value → Bool
  | [], [] => true
  | .str s :: ps, .str z _ :: vs => s == z && itsB ps vs
  | .int i :: ps, .int j _ :: vs => i == j && itsB ps vs
  | _, _ => false
def tupB (K : PySem.W.Frag) (a : Addr) (ps : List PV) : Bool := match K.lookup a with
  | some ⟨.type "tuple", _, .seq its _, _⟩ => decide (its.size ≤ 1000) && itsB ps its.toList
  | _ => false
theorem itsB_ok : ∀ {ps : List PV} {vs : List Value}, itsB ps vs = true → ∃ xs, Vals xs vs ∧ ∀ (C : Ct) (ι : List Addr) (H : Hp), Reps C ι H xs ps
  | [], [], _ => ⟨[], .nil, fun _ _ _ => .nil⟩
  | .str s :: ps, .str z t :: vs, h => by
    unfold itsB at h
    simp only [Bool.and_eq_true, beq_iff_eq] at h
    obtain ⟨rfl, h⟩ := h
    obtain ⟨xs, h1, h2⟩ := itsB_ok h
    exact ⟨.str s :: xs, .cons ⟨t, rfl⟩ h1, fun C ι H => .cons (.str s) (h2 C ι H)⟩
  | .int i :: ps, .int j t :: vs, h => by
    unfold itsB at h
    simp only [Bool.and_eq_true, beq_iff_eq] at h
    obtain ⟨rfl, h⟩ := h
    obtain ⟨xs, h1, h2⟩ := itsB_ok h
    exact ⟨.int i :: xs, .cons ⟨t, rfl⟩ h1, fun C ι H => .cons (.int i) (h2 C ι H)⟩
theorem tupB_ok {K : PySem.W.Frag} {a : Addr} {ps : List PV} (h : tupB K a ps = true) : ∀ (C : Ct) (ι : List Addr) (H : Hp), C.K = K → Rep C ι H (.ref a) (.tup ps) := by
  unfold tupB at h
  split at h
  · rename_i dd its n sl hk
    simp only [Bool.and_eq_true, decide_eq_true_eq] at h
    obtain ⟨xs, h1, h2⟩ := itsB_ok h.2
    intro C ι H e
    subst e
    exact .tup (.inr ⟨_, its, n, hk, rfl, rfl, by rw [sizeLine_eq]; omega, h1⟩) (h2 C ι H)
  · cases h
/-- the module's constants -/
def glB1 (K : PySem.W.Frag) (x : Str) : PV → Bool
  | .int i => (He.Fa.int x i).ok K
  | .str s => (He.Fa.str x s).ok K
  | .tup ps => (He.Fa.glo x).ok K && tupB K (He.ga K x) ps
  | _ => false
def chk (t : Dat) (K : PySem.W.Frag) : Bool := errsB t K && (initB t K && ((nums t.G.fns.length).all (fnB t K) && (t.G.fr.all (fun x => (He.Fa.free x).ok K) && (t.G.gl.all (fun p => glB1 K p.1 p.2) && (recB K (initA t K) KnE.qI false &&
  ((tabsT t K).all fun p => (tabsT t K).all fun q => !(p.1 == q.1) || decide (p.2 = q.2)))))))
def fnsV (t : Dat) (K : PySem.W.Frag) : List FnV2 := fnX K (initA t K) :: (nums t.G.fns.length).map fun i => fnX K (fAdr t K i)
def valF (fi : FnI) : FnV2 := some (fi.name, fi.name, fi.params, .stmts fi.body, fi.scope, mainGlobals, [], builtinsNs)
def fnsW (t : Dat) : List FnV2 := some ("__init__", KnE.qI, KnE.iA, .stmts KnE.iB, KnE.iS, mainGlobals, ["__class__"], builtinsNs) :: t.G.fns.map valF
def isTab : Option Obj → Bool
  | some ⟨.none, none, .fields vs, sl⟩ => vs.isEmpty && sl.isEmpty
  | _ => false
theorem isTab_ok {o : Option Obj} (h : isTab o = true) : o = some { cls := .none, data := .fields #[] } := by
  unfold isTab at h
  split at h
  · rename_i vs sl
    simp only [Bool.and_eq_true, Array.isEmpty_iff] at h
    rw [h.1, h.2]
  · cases h
def cloG (g : Addr → Option Obj) (a : Addr) : List Addr := match g a with
  | some ⟨_, _, .func fd, _⟩ => fd.closure.map (·.2)
  | _ => []
def frX (g : Addr → Option Obj) (n : Nat) : PySem.W.Frag := He.frG g (((He.asG g n ++ [cStatics]) ++ (He.asG g n).flatMap (cloG g)).filter fun a => !isTab (g a))
abbrev Al2 : Type := Bool × List FnV2
def obsX (t : Dat) (n : Nat) (g : Addr → Option Obj) : Al2 := (chk t (frX g n) && (tabsK t (frX g n)).all (fun p => isTab (g p.2) && ((frX g n).lookup p.2).isNone), fnsV t (frX g n))
structure Says (t : Dat) (h : Heap) (K : PySem.W.Frag) : Prop where
  kin : K.In h
  ok : chk t K = true
  tab : ∀ p ∈ tabsK t K, h.get? p.2 = some { cls := .none, data := .fields #[] }
  ntb : ∀ p ∈ tabsK t K, K.lookup p.2 = none
  fns : fnsV t K = fnsW t
def hookX (t : Dat) (n : Nat) : PySem.W.Hook where
  α := Al2
  obs := fun s => obsX t n s.heap.get?
  val := fun _ => (true, fnsW t)
  says := fun _ h => ∃ K : PySem.W.Frag, Says t h K
  of := fun _ s e => by
    have e1 : (chk t (frX s.heap.get? n) && (tabsK t (frX s.heap.get? n)).all (fun p => isTab (s.heap.get? p.2) && ((frX s.heap.get? n).lookup p.2).isNone)) = true := congrArg (fun z : Al2 => z.1) e
    have e2 : fnsV t (frX s.heap.get? n) = fnsW t := congrArg (fun z : Al2 => z.2) e
    rw [Bool.and_eq_true, List.all_eq_true] at e1
    refine ⟨frX s.heap.get? n, He.frG_in, e1.1, fun p hp => ?_, fun p hp => ?_, e2⟩
    · have := e1.2 p hp
      rw [Bool.and_eq_true] at this
      exact isTab_ok this.1
    · have := e1.2 p hp
      rw [Bool.and_eq_true, Option.isNone_iff_eq_none] at this
      exact this.2
  keeps := fun _ _ _ ⟨K, c⟩ k => ⟨K, PySem.W.Frag.In.keeps c.kin k, c.ok, fun p hp => k _ _ (c.tab p hp), c.ntb, c.fns⟩
theorem obsX_eq {t : Dat} {n : Nat} {g : Addr → Option Obj} {s : Shared} (h : ∀ a, g a = s.heap.get? a) : obsX t n g = (hookX t n).obs s := by
  have e : g = s.heap.get? := funext h
  rw [e] <;> rfl
end PM
set_option Elab.async false
set_option linter.all false
set_option maxRecDepth 100000
set_option maxHeartbeats 4000000
/-! PM29: from the head's facts to what the layer leans on. -/
namespace PM
open PySem PySem.Spec PyProof.Rows L2 LamX
/-- the program over a base -/
def pdOf (t : Dat) (P : Program) (w : World) (K : PySem.W.Frag) (mg : Str → Option Value) (base : Heap) : PD :=
  { P := P, w := w, K := K, mg := mg, base := base, G := t.G, cf := fun W d => (callB t.G W d).1, cl := fun W d => (callB t.G W d).2, fa := fAdr t K, cA := cAd t K, T := tabsT t K }
/-- the numbers of the errors are their places -/
def ecOk (t : Dat) : Bool := t.G.ec.all fun p => decide (t.ecN[p.2]? = some p.1)
section
variable {t : Dat} {P : Program} {w : World} {K : PySem.W.Frag} {mg : Str → Option Value} {base h : Heap}
theorem find2_mem {α : Type} {x : Str} : ∀ {l : List (Str × α)} {a : α}, find2 x l = some a → (x, a) ∈ l
  | [], _, h => by cases h
  | (y, b) :: r, a, h => by
    unfold find2 at h
    split at h
    · rename_i e; cases h; subst e; exact List.mem_cons_self
    · exact List.mem_cons_of_mem _ (find2_mem h)
theorem ec_at (e : ecOk t = true) {x : Str} {c : Nat} (h : find2 x t.G.ec = some c) : c < t.ecN.length ∧ errName t c = x ∧ x ∈ t.ecN := by
  unfold ecOk at e
  have := List.all_eq_true.mp e _ (find2_mem h)
  have this : t.ecN[c]? = some x := of_decide_eq_true this
  exact ⟨(List.getElem?_eq_some_iff.mp this).1, by unfold errName; rw [this]; rfl, List.mem_of_getElem? this⟩
theorem cAd_big {c : Nat} (h : t.ecN.length ≤ c) : cAd t K c = cAd t K t.ecN.length := by
  unfold cAd errName
  rw [List.getElem?_eq_none h, List.getElem?_eq_none (Nat.le_refl _)]
theorem chk1 (c : chk t K = true) : errsB t K = true ∧ initB t K = true ∧ (∀ i, fnB t K i = true) ∧ (∀ x ∈ t.G.fr, (He.Fa.free x).ok K = true) ∧ (∀ p ∈ t.G.gl, glB1 K p.1 p.2 = true) ∧ recB K (initA t K) KnE.qI false = true ∧ ∀ p ∈ tabsT t K, ∀ q ∈ tabsT t K, p.1 = q.1 → p.2 = q.2 := by
  unfold chk at c
  simp only [Bool.and_eq_true, List.all_eq_true] at c
  obtain ⟨c1, c2, c3, c4, c5, c6, c7⟩ := c
  refine ⟨c1, c2, fun i => ?_, c4, c5, c6, fun p hp q hq e => ?_⟩
  · by_cases hi : i < t.G.fns.length
    · exact c3 i (List.mem_range.mpr hi)
    · unfold fnB
      rw [List.getElem?_eq_none (by omega)]
  · have := c7 p hp q hq
    simp only [Bool.or_eq_true, Bool.not_eq_true', beq_eq_false_iff_ne, decide_eq_true_eq] at this
    rcases this with z | z
    · exact absurd e z
    · exact z
theorem errs1 (c : errsB t K = true) : (∀ n, errB t K (cAd t K n) = true) ∧ (∀ n d, d < t.ecN.length → PySem.W.kitOne K (.ref (cAd t K n)) (.ref (cAd t K d)) = some (subE n d) ∧ PySem.W.exmOne K (.ref (cAd t K n)) (.ref (cAd t K d)) = some (subE n d)) ∧
    (∀ d, d < t.ecN.length → ∀ ty ∈ ["NoneType", "bool", "int", "str", "tuple", "list", "dict"], PySem.W.kitOne K (.type ty) (.ref (cAd t K d)) = some false) ∧ (∀ x ∈ t.ecN, (He.Fa.glo x).ok K = true) ∧ ∀ p ∈ t.G.ec, mkB K (cAd t K p.2) p.1 = true := by
  unfold errsB at c
  simp only [Bool.and_eq_true, List.all_eq_true] at c
  obtain ⟨⟨⟨⟨c1, c2⟩, c3⟩, c4⟩, c5⟩ := c
  have mem : ∀ {n m : Nat}, n < m → n ∈ nums m := fun h => List.mem_range.mpr h
  refine ⟨fun n => ?_, fun n d hd => ?_, fun d hd ty hty => of_decide_eq_true (c3 d (mem hd) ty hty), c4, c5⟩
  · by_cases hn : n < t.ecN.length + 1
    · exact c1 n (mem hn)
    · rw [cAd_big (by omega)]
      exact c1 _ (mem (Nat.lt_succ_self _))
  · have go : ∀ m, m < t.ecN.length + 1 → PySem.W.kitOne K (.ref (cAd t K m)) (.ref (cAd t K d)) = some (subE m d) ∧ PySem.W.exmOne K (.ref (cAd t K m)) (.ref (cAd t K d)) = some (subE m d) := fun m hm => by
      obtain ⟨a, b⟩ := c2 m (mem hm) d (mem hd)
      exact ⟨of_decide_eq_true a, of_decide_eq_true b⟩
    by_cases hn : n < t.ecN.length + 1
    · exact go n hn
    · rw [cAd_big (by omega)]
      have e : subE n d = subE t.ecN.length d := by
        unfold subE
        have h1 : (n == d) = false := by simp; omega
        have h2 : (t.ecN.length == d) = false := by simp; omega
        rw [h1, h2]
      rw [e]
      exact go _ (Nat.lt_succ_self _)
theorem err_of (i : initB t K = true) (c : errB t K (cAd t K n) = true) : ErrC K (cAd t K n) := by
  unfold errB at c
  unfold initB at i
  simp only [Bool.and_eq_true] at c i
  obtain ⟨c1, c2, c3, c4, c5, c6, c7, c8, c9, c10, c11, c12, c13, c14, c15, c16, c17⟩ := c
  obtain ⟨i1, i2, i3, i4, i5, i6, i7, i8, i9⟩ := i
  exact ⟨c11, He.eqO_ok c12, He.eqO_ok c13, of_decide_eq_true c6, He.eqO_ok c14, He.eqO_ok i8, of_decide_eq_true i9, of_decide_eq_true c15, He.eqO_ok c3, c16, of_decide_eq_true c17⟩
theorem mk_of {n : Nat} {x : Str} (c : errB t K (cAd t K n) = true) (b : mkB K (cAd t K n) x = true) : MkC K (cAd t K n) x := by
  unfold errB at c
  unfold mkB at b
  simp only [Bool.and_eq_true] at c b
  obtain ⟨c1, c2, c3, c4, c5, c6, c7, c8, c9, c10, c11, c12, c13, c14, c15, c16, c17⟩ := c
  refine ⟨?_, He.eqO_ok b.2, of_decide_eq_true c6⟩
  have b1 := b.1
  split at b1
  · rename_i cd hcd
    exact ⟨cd, hcd, beq_iff_eq.mp b1⟩
  · cases b1
theorem fnV_init (e : fnsV t K = fnsW t) : fnX K (initA t K) = (some (("__init__" : Str), KnE.qI, KnE.iA, FuncBody.stmts KnE.iB, KnE.iS, mainGlobals, (["__class__"] : List Str), builtinsNs) : FnV2) := (List.cons.inj e).1
theorem fnV_at (e : fnsV t K = fnsW t) {i : Nat} {fi : FnI} (h : t.G.fns[i]? = some fi) : fnX K (fAdr t K i) = valF fi := by
  have e2 : (nums t.G.fns.length).map (fun i => fnX K (fAdr t K i)) = t.G.fns.map valF := (List.cons.inj e).2
  have e3 : ((nums t.G.fns.length).map (fun i => fnX K (fAdr t K i)))[i]? = (t.G.fns.map valF)[i]? := by rw [e2]
  have hi := (List.getElem?_eq_some_iff.mp h).1
  rw [List.getElem?_map, List.getElem?_map, h] at e3
  unfold nums at e3
  rw [List.getElem?_range hi] at e3
  exact Option.some.inj e3
/-- a def's record -/
theorem rec_of {a : Addr} {q : Str} {kw : Bool} {nm : Str} {params : Arguments} {body : List Stmt} {scope : Scope} {clo : List Str} (r : recB K a q kw = true) (e : fnX K a = some (nm, q, params, .stmts body, scope, mainGlobals, clo, builtinsNs)) :
    ∃ (oc : Value) (od : Option Addr) (cl : List (Str × Addr)) (kV doc pm : Value) (an : Option Addr) (ct : Value) (osl : Array (Option Value)), cl.map (·.1) = clo ∧ (kw = false → kV = .none) ∧
      K.lookup a = some ⟨oc, od, .func { name := nm, qualname := q, params := params, body := .stmts body, scope := scope, globals := mainGlobals, closure := cl, defaults := .none, kwdefaults := kV, doc := doc, pyModule := pm, annotations := an, code := .ref (codeA K a), closureTuple := ct, builtins := builtinsNs }, osl⟩ ∧ PySem.W.codeIn K (.ref (codeA K a)) q = true ∧ cellA K a = (match cl with | [(_, c)] => c | _ => 0) := by
  unfold recB at r
  unfold fnX at e
  split at r
  · rename_i oc od fd osl hk
    rw [hk] at e
    obtain ⟨n1, n2, n3, n4, n5, n6, n7, n8, n9, n10, n11, n12, n13, n14, n15⟩ := fd
    have e2 : (some (n1, n2, n3, n4, n5, n6, n7.map (·.1), n15) : FnV2) = some (nm, q, params, .stmts body, scope, mainGlobals, clo, builtinsNs) := e
    simp only [Option.some.injEq, Prod.mk.injEq] at e2
    obtain ⟨h1, h2, h3, h4, h5, h6, h7, h8⟩ := e2
    subst h1 h2 h3 h4 h5 h6 h8
    simp only [Bool.and_eq_true] at r
    obtain ⟨r1, ⟨r2, r3⟩, r4⟩ := r
    have e8 : n8 = .none := by
      have r2 : noneB n8 = true := r2
      cases n8 with
      | none => rfl
      | _ => cases r2
    subst e8
    have hcode : ∃ c, n13 = .ref c := by
      have r4 : isRefV n13 = true := r4
      clear hk r1 e
      cases n13 with
      | ref c => exact ⟨c, rfl⟩
      | _ => cases r4
    obtain ⟨c, hc⟩ := hcode
    subst hc
    have hA : codeA K a = c := by unfold codeA; rw [hk]
    rw [hA]
    refine ⟨oc, od, n7, n9, n10, n11, n12, n14, osl, h7, fun hkw => ?_, hk, r1, ?_⟩
    · rw [hkw] at r3
      have r3 : noneB n9 = true := by simpa using r3
      unfold noneB at r3
      split at r3
      · rfl
      · cases r3
    · unfold cellA; rw [hk]
      try rfl
  · cases r
theorem txt_of (X : K.In h) (G : h.Ns mainGlobals mg) (htop : (P.main.scope.names.lookup ("super" : Str)).isSome = false) (hfile : P.main.file = t.file) (i : initB t K = true) (c : errB t K (cAd t K n) = true) (r : recB K (initA t K) KnE.qI false = true) (e : fnsV t K = fnsW t) :
    KnE.Txt P K mg (cAd t K n) (cAd t K 0) (initA t K) (cellA K (initA t K)) (codeA K (initA t K)) := by
  unfold errB at c
  unfold initB at i
  simp only [Bool.and_eq_true] at c i
  obtain ⟨c1, c2, c3, c4, c5, c6, c7, c8, c9, c10, c11, c12, c13, c14, c15, c16, c17⟩ := c
  obtain ⟨i1, i2, i3, i4, i5, i6, i7, i8, i9⟩ := i
  obtain ⟨oc, od, cl, kV, doc, pm, an, ct, osl, hcl, hkV, hk, hcd, hce⟩ := rec_of r (fnV_init e)
  have hcl2 : cl = [(("__class__" : Str), cellA K (initA t K))] := by
    cases cl with
    | nil => cases hcl
    | cons p r =>
      cases r with
      | cons _ _ => simp at hcl
      | nil =>
        obtain ⟨a, b⟩ := p
        have : a = ("__class__" : Str) := by simpa using hcl
        rw [hce, this]
  subst hcl2
  rw [hkV rfl] at hk
  refine ⟨clsB_ok c1, He.eqO_ok c2, He.eqO_ok c3, He.eqO_ok c4, of_decide_eq_true i1, c5, of_decide_eq_true c6, of_decide_eq_true c7, of_decide_eq_true c8, ⟨oc, od, doc, pm, an, ct, osl, hk⟩, i2, ?_, cellB_ok i4, Option.isSome_iff_exists.mp i5, of_decide_eq_true c9, He.free_ok X G i6, htop, He.eqO_ok i7, He.eqO_ok c10⟩
  rw [hfile]
  exact fileB_ok i3
/-- what a law's kwargs binding says: proved per law by rfl -/
def BindOk (t : Dat) : Prop := ∀ (i : Nat) (fi : FnI), t.G.fns[i]? = some fi → ∀ (k : Nat) (ks : List Str), (i, k, ks) ∈ t.G.sh → ∀ (kV doc pm : Value) (an : Option Addr) (cdv ct : Value) (us ws : List Value), us.length = k → ws.length = ks.length →
    bindArgs (PySem.W.fnOf fi.name fi.name fi.params fi.body fi.scope .none kV doc pm an cdv ct) ⟨us, ks.zip ws⟩ = pure (fi.ps.zip (permX .none (permOf fi.ps k ks) (us ++ ws)))
structure Facts (t : Dat) (D : PD) : Prop where
  ok : D.Ok
  er : D.Err
  tr : D.Tr
  mks : D.Mk
  fns : D.Fns
theorem facts_of (s : Says t h K) (G : h.Ns mainGlobals mg) (he : ecOk t = true) (hb : BindOk t) (htop : (P.main.scope.names.lookup ("super" : Str)).isSome = false) (hfile : P.main.file = t.file)
    (TB : ∀ p ∈ tabsK t K, TabB base mg p.1 p.2) : Facts t (pdOf t P w K mg base) := by
  have X := s.kin
  obtain ⟨k1, k2, k3, k4, k5, k6, k7⟩ := chk1 s.ok
  obtain ⟨e1, e2, e3, e4, e5⟩ := errs1 k1
  have MK : PD.Mk (pdOf t P w K mg base) := ⟨fun x c hx => ⟨_, _, _, _, txt_of X G htop hfile k2 (e1 c) k6 s.fns⟩, fun x c hx => mk_of (e1 c) (e5 (x, c) (find2_mem hx))⟩
  refine ⟨⟨fun x v hx => ?_, fun x hx => He.free_ok X G (k4 x hx), fun i fi hfi => ?_, fun x c hx => ?_, fun x c hx ty hty => ?_⟩, ⟨MK, fun c => err_of k2 (e1 c), fun c x d hx => ?_⟩, ⟨fun c x d hx => ?_⟩, MK, ⟨fun i fi hfi => ?_, fun _ _ => rfl, fun _ _ => rfl⟩⟩
  · have hg := k5 _ (find2_mem hx)
    unfold glB1 at hg
    dsimp only at hg
    split at hg
    · rename_i i
      obtain ⟨tk, e⟩ := He.int_ok X G hg
      exact ⟨.int i, _, e, ⟨tk, rfl⟩, fun C ι H _ => .int i⟩
    · rename_i z
      obtain ⟨tk, e⟩ := He.str_ok X G hg
      exact ⟨.str z, _, e, ⟨tk, rfl⟩, fun C ι H _ => .str z⟩
    · rename_i ps
      rw [Bool.and_eq_true] at hg
      exact ⟨.ref _, _, He.glo_ok X G hg.1, rfl, fun C ι H e => tupB_ok hg.2 C ι H e⟩
    · cases hg
  · have hf := k3 i
    unfold fnB at hf
    have hfi : t.G.fns[i]? = some fi := hfi
    rw [hfi] at hf
    simp only [Bool.and_eq_true] at hf
    have en : fAdr t K i = He.ga K fi.name := by unfold fAdr fnName; rw [hfi]
    refine ⟨?_, hf.2.1⟩
    show mg fi.name = some (.ref (fAdr t K i))
    rw [en]
    exact He.glo_ok X G hf.1
  · obtain ⟨a, b, m⟩ := ec_at he hx
    show mg x = some (.ref (cAd t K c))
    unfold cAd
    rw [b]
    exact He.glo_ok X G (e4 x m)
  · obtain ⟨a, b, m⟩ := ec_at he hx
    exact e3 c a ty hty
  · obtain ⟨a, b, m⟩ := ec_at he hx
    exact (e2 c d a).1
  · obtain ⟨a, b, m⟩ := ec_at he hx
    exact (e2 c d a).2
  · have hf := k3 i
    unfold fnB at hf
    have hfi : t.G.fns[i]? = some fi := hfi
    rw [hfi] at hf
    simp only [Bool.and_eq_true] at hf
    obtain ⟨f1, f2, f3, f4⟩ := hf
    obtain ⟨oc, od, cl, kV, doc, pm, an, ct, osl, hcl, _, hk, hcd, _⟩ := rec_of f3 (fnV_at s.fns hfi)
    have hcl : cl = [] := by simpa using hcl
    subst hcl
    refine ⟨⟨oc, od, kV, doc, pm, an, .ref (codeA K (fAdr t K i)), ct, osl, hk, hcd, fun hl => ?_⟩, fun k ks hsh kV doc pm an cdv ct us ws hu hw => hb i fi hfi k ks hsh kV doc pm an cdv ct us ws hu hw⟩
    have hi := (List.getElem?_eq_some_iff.mp hfi).1
    have hm : i ∈ lams t := by
      unfold lams
      rw [List.mem_filter]
      exact ⟨List.mem_range.mpr hi, by rw [hfi]; exact hl⟩
    have hT : (tabA K (codeA K (fAdr t K i)), fi.name ++ ".<locals>." ++ "<lambda>") ∈ tabsT t K := by
      unfold tabsT
      refine List.mem_map.mpr ⟨i, hm, ?_⟩
      unfold fnName
      rw [hfi]
    refine ⟨_, _, TB (codeA K (fAdr t K i), tabA K (codeA K (fAdr t K i))) (List.mem_map.mpr ⟨i, hm, rfl⟩), rfl, hT, fun p hp e => k7 p hp _ hT e⟩
end
end PM
set_option Elab.async false
set_option linter.all false
set_option maxRecDepth 100000
set_option maxHeartbeats 4000000
/-! PM30: the law's own call, from the script. -/
namespace PM
open PySem PySem.Spec PyProof.Rows L2 LamX
/-- what is told at the start: the script (if the written part does not tell it), the tables -/
def H1 (K : PySem.W.Frag) (a : Addr) (o : Obj) (ns : List Int) (T : List Addr) : Hp := fun b => if b = a ∧ (K.lookup a).isNone = true then some (.frz o (.lst (ns.map V.int))) else if b ∈ T then some (.tbl #[]) else none
theorem H1_cases {K : PySem.W.Frag} {a : Addr} {o : Obj} {ns : List Int} {T : List Addr} {b : Addr} {u : HO} (h : H1 K a o ns T b = some u) : (b = a ∧ K.lookup a = none ∧ u = .frz o (.lst (ns.map V.int))) ∨ (b ∈ T ∧ u = .tbl #[]) := by
  unfold H1 at h
  split at h
  · rename_i z
    cases h
    exact .inl ⟨z.1, Option.isNone_iff_eq_none.mp z.2, rfl⟩
  · split at h
    · rename_i z; cases h; exact .inr ⟨z, rfl⟩
    · cases h
section
variable {P : Program} {w : World} {K : PySem.W.Frag} {mg mb : Str → Option Value} {fa a : Addr} {cs : List (Addr × Addr)} {s₁ : Shared} {vs : List Value} {ns : List Int}
/-- the end of a law -/
theorem law_end (KX : K.In s₁.heap) (hns : s₁.heap.Ns mainGlobals mg) (hb : s₁.heap.Ns builtinsNs mb) (hbb : ∀ x : Str, x ≠ "__name__" → mb x = bootBuiltins x) (hlim : s₁.heap.NoLimit) (hg : s₁.gens = #[])
    (hT : ∀ p ∈ cs, s₁.heap.get? p.2 = some { cls := .none, data := .fields #[] }) (nT : ∀ p ∈ cs, K.lookup p.2 = none) (C : ∀ p ∈ cs, PySem.W.CodeHd s₁.heap p.1 p.2)
    (hbm : ∃ (bm : Addr) (ob : Obj), mg "__builtins__" = some (.ref bm) ∧ bm ≠ builtinsNs ∧ s₁.heap.get? bm = some ob ∧ ob.cls = .type "module" ∧ ob.dict = some builtinsNs ∧ ob.data = .plain)
    (ha : s₁.heap.get? a = some { cls := .type "list", data := .seq vs.toArray }) (hi : IntsAre vs ns) (hl : ns.length ≤ sizeLine)
    (F : ∀ (base : Heap) (H : Hp), (∀ p ∈ cs, TabB base mg p.1 p.2) → Env0 P w K mg base callerA [] s₁ H → (∀ p ∈ cs, H p.2 = some (.tbl #[])) → SqL K H a (ns.map V.int) →
      codeAny (model P w) callerA (.call (.ref fa) ⟨[.ref a], []⟩) (fun r s' => ∃ H', r = .ok (.ret (.bool true)) ∧ s'.os = s₁.os ∧ AllBare s'.gens ∧ Un [] [] H H' s₁.heap s'.heap ∧ HOk P w H' s'.heap) s₁) :
    codeAny (model P w) callerA (.call (.ref fa) ⟨[.ref a], []⟩) (fun r s' => r = .ok (.ret (.bool true)) ∧ OldK s₁.heap s'.heap ∧ s'.os = s₁.os ∧ AllBare s'.gens) s₁ := by
  have rv := vals_ints hi
  generalize hTd : cs.map (·.2) = T
  have tab : ∀ b ∈ T, ∃ p ∈ cs, p.2 = b ∧ s₁.heap.get? b = some { cls := .none, data := .fields #[] } := fun b hb => by
    rw [← hTd] at hb
    obtain ⟨p, hp, e⟩ := List.mem_map.mp hb
    exact ⟨p, hp, e, by rw [← e]; exact hT p hp⟩
  have inT : ∀ p ∈ cs, p.2 ∈ T := fun p hp => by rw [← hTd]; exact List.mem_map.mpr ⟨p, hp, rfl⟩
  have aT : a ∉ T := fun z => by
    obtain ⟨_, _, _, e⟩ := tab a z
    rw [ha] at e
    have e := congrArg Obj.data (Option.some.inj e)
    cases e
  generalize hod : ({ cls := .type "list", data := .seq vs.toArray } : Obj) = od at ha
  generalize hH : H1 K a od ns T = H
  have cases_ : ∀ {b u}, H b = some u → (b = a ∧ K.lookup a = none ∧ u = .frz od (.lst (ns.map V.int))) ∨ (b ∈ T ∧ u = .tbl #[]) := fun {b u} e => by rw [← hH] at e; exact H1_cases e
  have hHT : ∀ p ∈ cs, H p.2 = some (.tbl #[]) := fun p hp => by
    have ne : p.2 ≠ a := fun z => aT (by rw [← z]; exact inT p hp)
    rw [← hH]
    unfold H1
    rw [if_neg (fun z => ne z.1), if_pos (inT p hp)]
  have none_of : ∀ {b : Addr} {o : Obj}, s₁.heap.get? b = some o → o ≠ od → o ≠ { cls := .none, data := .fields #[] } → H b = none := fun {b o} e n1 n2 => by
    cases q : H b with
    | none => rfl
    | some u =>
      rcases cases_ q with ⟨z, _, _⟩ | ⟨z, _⟩
      · rw [z, ha] at e; cases e; exact absurd rfl n1
      · obtain ⟨_, _, _, e2⟩ := tab b z
        rw [e2] at e; cases e; exact absurd rfl n2
  have hS : SqL K H a (ns.map V.int) := by
    cases q : K.lookup a with
    | none =>
      refine .inl (.inr ⟨od, ?_⟩)
      rw [← hH]
      unfold H1
      rw [if_pos ⟨rfl, by rw [q]; rfl⟩]
    | some o =>
      have e := KX a o q
      rw [ha] at e
      cases e
      rw [← hod] at q
      exact .inr ⟨_, vs.toArray, _, q, rfl, rfl, rfl, by rw [List.size_toArray, hi.length]; exact hl, by simpa using rv⟩
  have hok : HOk P w H s₁.heap := fun b u e => by
    rcases cases_ e with ⟨rfl, _, rfl⟩ | ⟨z, rfl⟩
    · refine ⟨ha, ?_, vs, 0, rv, ?_⟩
      · rw [List.length_map]; exact hl
      · rw [ha, ← hod]
    · obtain ⟨_, _, _, e2⟩ := tab b z
      exact e2
  have bs : ∀ {b : Addr} {o : Obj}, s₁.heap.get? b = some o → H b = none → (hidT s₁.heap H).get? b = some o := fun e n => hidT_get e n
  have dne : ∀ {es : Array DictEntry} {ep : Nat} {c : Value} {d : Option Addr} {sl : Array (Option Value)}, (⟨c, d, .dict es ep, sl⟩ : Obj) ≠ od ∧ (⟨c, d, .dict es ep, sl⟩ : Obj) ≠ { cls := .none, data := .fields #[] } := fun {es ep c d sl} => by
    rw [← hod]
    exact ⟨(fun z => by cases z), (fun z => by cases z)⟩
  have nsK : ∀ {b : Addr} {m : Str → Option Value}, s₁.heap.Ns b m → (hidT s₁.heap H).Ns b m := fun {b m} ⟨o, es, ep, e, d, r⟩ => by
    refine ⟨o, es, ep, bs e ?_, d, r⟩
    obtain ⟨oc, odd, dt, sl⟩ := o
    have d : dt = .dict es ep := d
    subst d
    exact none_of e dne.1 dne.2
  have kin : K.In (hidT s₁.heap H) := fun b o e => bs (KX b o e) (by
    cases q : H b with
    | none => rfl
    | some u =>
      rcases cases_ q with ⟨rfl, z, _⟩ | ⟨z, _⟩
      · rw [z] at e; cases e
      · obtain ⟨p, hp, ep, _⟩ := tab b z
        rw [← ep, nT p hp] at e; cases e)
  have hM : L2.Mod K mg (hidT s₁.heap H) := ⟨kin, nsK hns, ⟨mb, nsK hb, hbb⟩, let ⟨mc, h1, h2⟩ := hlim; ⟨mc, nsK h1, h2⟩⟩
  have TB : ∀ p ∈ cs, TabB (hidT s₁.heap H) mg p.1 p.2 := fun p hp => by
    refine ⟨?_, ?_, fun z => ?_⟩
    · obtain ⟨o, us, file, tf, flags, tg, inF, text, tt, e1, r1, r2, r3, r⟩ := C p hp
      refine ⟨o, us, file, tf, flags, tg, inF, text, tt, bs e1 (none_of e1 (fun z => ?_) fun z => ?_), r1, r2, r3, r⟩
      · rw [z, ← hod] at r2; cases r2
      · rw [z] at r2; cases r2; simp at r3
    · obtain ⟨bm, ob, b1, b2, b3, b4, b5, b6⟩ := hbm
      refine ⟨bm, ob, b1, b2, fun z => ?_, fun z => ?_, bs b3 (none_of b3 (fun z => ?_) fun z => ?_), b4, b5, b6⟩
      · obtain ⟨o, es, ep, e, hd, _⟩ := hns
        rw [z, e] at b3; cases b3
        rw [hd] at b6; cases b6
      · rw [z, hT p hp] at b3; cases b3; cases b6
      · rw [z, ← hod] at b6; cases b6
      · rw [z] at b6; cases b6
    · obtain ⟨o, es, ep, e, hd, _⟩ := hns
      rw [z, hT p hp] at e; cases e; cases hd
  have e0 : Env0 P w K mg (hidT s₁.heap H) callerA [] s₁ H := ⟨rfl, hM, fun b o e => of_hidT e, Nat.le_of_eq (hidT_size _ _), trivial, fun b hb => absurd (show b ∈ ([] : List Addr) from hb) (by simp), hok, .of_eq hg⟩
  refine codeAny_mono (F _ H TB e0 hHT hS) fun r s' ⟨H', er, os, bare, un, hok'⟩ => ?_
  have key : ∀ b o, b ∉ T → s₁.heap.get? b = some o → s'.heap.get? b = some o := fun b o nb e => by
    cases q : H b with
    | none => exact un.keep b o e q (by simp) (by simp)
    | some u =>
      rcases cases_ q with ⟨_, _, rfl⟩ | ⟨z, _⟩
      · obtain ⟨e2, _⟩ := hok' b _ (un.frzs b _ _ q)
        obtain ⟨e1, _⟩ := hok b _ q
        rw [e] at e1; cases e1
        exact e2
      · exact absurd z nb
  have grown : ∀ p ∈ cs, ∃ more : Array Value, s'.heap.get? p.2 = some { cls := .none, data := .fields more } := fun p hp => by
    obtain ⟨more, z⟩ := un.tbls p.2 #[] (hHT p hp)
    exact ⟨_, hok' p.2 _ z⟩
  refine ⟨er, ⟨fun b o e => ?_, fun b o e => ?_⟩, os, bare⟩
  · by_cases hb : b ∈ T
    · obtain ⟨p, hp, ep, e2⟩ := tab b hb
      subst ep
      obtain ⟨more, hm⟩ := grown p hp
      rw [e2] at e; cases e
      exact .inr (.inl ⟨((C p hp).tab (hT p hp)).isCodeTable, rfl, #[], more, rfl, by rw [Array.empty_append]; exact hm⟩)
    · exact .inl (key b o hb e)
  · by_cases hb : b ∈ T
    · obtain ⟨p, hp, ep, _⟩ := tab b hb
      subst ep
      obtain ⟨more, hm⟩ := grown p hp
      exact ⟨_, hm⟩
    · exact ⟨o, key b o hb e⟩
end
end PM
set_option Elab.async false
set_option linter.all false
set_option maxRecDepth 100000
set_option maxHeartbeats 4000000
/-! PM31: a law by the evaluator. -/
namespace PM
open PySem PySem.Spec PyProof.Rows L2 LamX
theorem frz_bl {st : Store} {n : Nat} {v : PV} {b : Bool} (h : frz st n v = .bl b) : v = .bl b := by
  cases v with
  | ref m =>
    unfold frz at h
    split at h
    · cases h
    · split at h <;> cases h
  | bl c => exact h
  | tup xs => cases h
  | lst xs => cases h
  | non => cases h
  | int i => cases h
  | str s => cases h
  | scr ns => cases h
  | dct ks vs => cases h
  | set xs => cases h
  | exc c v => cases h
  | mkd c m v => cases h
  | clo l lv => cases h
theorem fin_true {ret : Bool} {lv n : Nat} {r : R Fl} {st' : Store} (h : fin ret lv n (flV r) = .ok (.bl true) st') : ∃ st1, r = .ok (.rt (.bl true)) st1 := by
  have gen : ∀ {v : PV} {st : Store}, (if cls n lv (frz st n v) = true then (.ok (frz st n v) (st.take n) : R PV) else .bad) = .ok (.bl true) st' → v = .bl true := fun {v st} h => by
    split at h
    · injection h with h1 h2
      exact frz_bl h1
    · cases h
  cases r with
  | bad => cases h
  | exc k v st =>
    have h : (if nor v = true then (PM.R.exc k v (st.take n) : PM.R PV) else .bad) = .ok (.bl true) st' := h
    split at h <;> cases h
  | ok fl st =>
    cases fl with
    | bk ρ => cases h
    | ct ρ => cases h
    | nx ρ =>
      have h : fin ret lv n (.ok .non st) = .ok (.bl true) st' := h
      cases ret <;> (have h := gen (v := .non) (st := st) h; cases h)
    | rt v =>
      have h : fin ret lv n (.ok v st) = .ok (.bl true) st' := h
      cases ret with
      | false => rw [gen h]; exact ⟨st, rfl⟩
      | true =>
        cases v with
        | ref m =>
          have h : (if m < n then .ok (.ref m) (st.take n) else match st[m]? with | some ob => (if obC n lv ob then .ok (.ref n) (st.take n ++ [ob]) else .bad) | none => .bad) = (.ok (.bl true) st' : PM.R PV) := h
          split at h
          · injection h with h1 h2; cases h1
          · split at h
            · split at h
              · injection h with h1 h2; cases h1
              · cases h
            · cases h
        | bl b => rw [gen (v := .bl b) h]; exact ⟨st, rfl⟩
        | tup xs => cases gen (v := .tup xs) h
        | lst xs => cases gen (v := .lst xs) h
        | non => cases gen (v := .non) h
        | int i => cases gen (v := .int i) h
        | str s => cases gen (v := .str s) h
        | scr ns => cases gen (v := .scr ns) h
        | dct ks vs => cases gen (v := .dct ks vs) h
        | set xs => cases gen (v := .set xs) h
        | exc c v => cases gen (v := .exc c v) h
        | mkd c m v => cases gen (v := .mkd c m v) h
        | clo l lv => cases gen (v := .clo l lv) h
section
variable {t : Dat} {P : Program} {w : World} {K : PySem.W.Frag} {mg : Str → Option Value} {base : Heap}
/-- the law's own frame -/
abbrev F0 (t : Dat) (K : PySem.W.Frag) (H : Hp) (q : List Str × Scope × List (Str × Addr)) : Fm := { C := { K := K, cA := cAd t K, γ := [q], dead := [], lows := [] }, T := tabsT t K, ι0 := [], H0 := H, W := fun _ _ _ _ => False, Z0 := [], Φ0 := [] }
abbrev X0 (P : Program) (w : World) (K : PySem.W.Frag) (mg : Str → Option Value) (base : Heap) (fi : FnI) (f : Addr) (cdv : Value) (s : Shared) (H : Hp) : Cx :=
  cxOf (L2.CX P w) P w K mg base fi.N fi.name fi.scope f cdv callerA [] s H (fun _ _ _ => False)
theorem good0 {fi : FnI} {f : Addr} {cdv : Value} {s : Shared} {H : Hp} {W d : Nat} (Sc : FnScope fi.N fi.ps fi.scope) (hr : Room (d + 9) callerA)
    (hl : fi.lam = true → ∃ c P', TabB base mg c P' ∧ cdv = .ref c ∧ (P', fi.name ++ ".<locals>." ++ "<lambda>") ∈ tabsT t K ∧ ∀ p ∈ tabsT t K, p.1 = P' → p.2 = fi.name ++ ".<locals>." ++ "<lambda>") :
    Good (pdOf t P w K mg base) d (ssOf fi) (X0 P w K mg base fi f cdv s H) (F0 t K H (fi.N, fi.scope, cellsFrom (s.heap.objs.size + 1) fi.scope.names [])) ⟨(callB t.G W d).1, (callB t.G W d).2, W, fun ρ => [ρ], 0, 0⟩ := by
  refine ⟨rfl, rfl, rfl, rfl, rfl, rfl, rfl, (hr.mono (by omega)).deeper _, rfl, Sc.nd, rfl, rfl, rfl, rfl, rfl, takes_of rfl rfl rfl rfl, fun q hq => (by cases hq), rfl, rfl, fun _ => rfl, rfl, fun _ => ⟨rfl, rfl, fun _ => rfl⟩, fun z => (by cases z), fun lv σl ρl e1 e2 => (by cases e1), fun lv σl N sc cells e1 e2 => (by cases e1), fun lv N sc cells e => ?_, fun h => ?_⟩
  · have e : ([(fi.N, fi.scope, cellsFrom (s.heap.objs.size + 1) fi.scope.names [])] : List (List Str × Scope × List (Str × Addr)))[lv]? = some (N, sc, cells) := e
    cases lv with
    | zero => cases e; exact lvok_def Sc
    | succ lv => cases e
  · obtain ⟨cc, P', TB, hc, hm, hu⟩ := hl h
    exact ⟨rfl, cc, P', TB, hc, hm, hu⟩
theorem law_run {h : Heap} {x : Str} {i : Nat} {fi : FnI} {a : Addr} {ns : List Int} {W d : Nat} {st' : Store} {s₁ : Shared} {H : Hp} (Fc : Facts t (pdOf t P w K mg base)) (hfi : t.G.fns[i]? = some fi) (hps : fi.ps = [x]) (hsh : (i, 1, []) ∈ t.G.sh) (hr : Room (d + 9) callerA)
    (hT : ∀ p ∈ tabsK t K, H p.2 = some (.tbl #[])) (hS : SqL K H a (ns.map V.int)) (e0 : Env0 P w K mg base callerA [] s₁ H) (hev : (callB t.G W (d + 1)).1 i [.scr ns] [] [] = .ok (.bl true) st') :
    codeAny (model P w) callerA (.call (.ref (fAdr t K i)) ⟨[.ref a], []⟩) (fun r s' => ∃ H', r = .ok (.ret (.bool true)) ∧ s'.os = s₁.os ∧ AllBare s'.gens ∧ Un [] [] H H' s₁.heap s'.heap ∧ HOk P w H' s'.heap) s₁ := by
  have hev : fnRun t.G W (callB t.G W d).1 (callB t.G W d).2 i [.scr ns] [] [] = .ok (.bl true) st' := hev
  unfold fnRun at hev
  rw [hfi] at hev
  dsimp only at hev
  split at hev
  · cases hev
  · rename_i b hb
    split at hev
    · rename_i hlen
      obtain ⟨st1, hrt⟩ := fin_true hev
      obtain ⟨oc, od, kV, doc, pm, an, cdv, ct, osl, lk, hcd, hlam⟩ := (Fc.fns.all i fi hfi).ex
      have hbind := (Fc.fns.all i fi hfi).bind 1 [] hsh kV doc pm an cdv ct [.ref a] [] rfl rfl
      unfold bodyOf at hb
      split at hb
      · rename_i hsc
        have Sc := C8.fnScope_by hsc
        have hbind : bindArgs (PySem.W.fnOf fi.name fi.name fi.params fi.body fi.scope .none kV doc pm an cdv ct) ⟨[.ref a], []⟩ = pure (fi.ps.zip [.ref a]) := by
          refine hbind.trans ?_
          rw [hps]
          rfl
        have G := good0 (t := t) (P := P) (w := w) (K := K) (mg := mg) (base := base) (f := fAdr t K i) (cdv := cdv) (s := s₁) (H := H) (W := W) (d := d) Sc hr hlam
        have rs : Rep (F0 t K H (fi.N, fi.scope, cellsFrom (s₁.heap.objs.size + 1) fi.scope.names [])).C [] H (.ref a) (.scr ns) := by
          refine .scr ?_
          rcases hS with r | r
          · exact .inl ⟨r, by simp, by simp⟩
          · exact .inr r
        have hpl : fi.ps.length ≤ fi.N.length := by have := congrArg List.length Sc.pre; rw [List.length_take] at this; omega
        have h1 : 1 ≤ fi.N.length := by rw [hps] at hpl; exact hpl
        have R0 : (F0 t K H (fi.N, fi.scope, cellsFrom (s₁.heap.objs.size + 1) fi.scope.names [])).Rl (entry fi.N.length [.scr ns]) [] [] (L2.start fi.N [.ref a]) H := by
          refine ⟨⟨.nil, rfl, fun n a ob e => (by cases e)⟩, entry_env (.cons rs .nil), fun p hp => ?_, fun p hp z => (by cases z), Step.refl, ?_, fun d hd => (by cases hd), fun q hq => (by cases hq), fun q hq => (by cases hq)⟩
          · have hp : p ∈ tabsT t K := hp
            unfold tabsT at hp
            obtain ⟨j, hj, rfl⟩ := List.mem_map.mp hp
            refine ⟨#[], hT _ (List.mem_map.mpr ⟨j, hj, rfl⟩), ?_, fun pos cv hc => ?_⟩
            · exact trivial
            · cases hc
          · rw [entry_len _ _ h1]
            unfold L2.start
            rw [List.length_append, List.length_map, List.length_replicate]
            show fi.N.length = 1 + (fi.N.length - 1)
            omega
        refine codeAny_mono (run_ofS (CX := L2.CX P w) (k := d + 8) (name := fi.name) (qual := fi.name) (params := fi.params) (body := fi.body) (scope := fi.scope) (N := fi.N) (ps := fi.ps) (us := [.ref a]) (vs := [.ref a]) (Q := fun v _ => v = .bl true) (E := fun _ _ _ => False) lk hcd Sc hr e0 (.of_eq hbind) (.cons rfl .nil) (by rw [hps]; rfl) fun hr' => ?_) fun r s' hq => ?_
        · refine ⟨tS _ (exSs _ b), ss_all (fun st s' h => s_all Fc.ok Fc.er Fc.tr Fc.mks (all_calls Fc.ok Fc.er Fc.tr Fc.mks Fc.fns d) 60 (ssOf fi) st s' h _ _ _ G ⟨rfl, rfl, passes_of rfl, rfl⟩ Sc.kind) hb, entry fi.N.length [.scr ns], [], [], R0, ?_⟩
          have hrt : exSs ⟨(callB t.G W d).1, (callB t.G W d).2, W, fun ρ => [ρ], 0, 0⟩ b (entry fi.N.length [.scr ns]) [] = .ok (.rt (.bl true)) st1 := hrt
          rw [hrt]
          exact fun x ρ' ι' H' σ' s' R' r => r.blI
        · cases r with
          | error e => obtain ⟨_, _, _, _, _, _, _, _, _, _, _, _, z⟩ := hq; exact z.elim
          | ok fl =>
            cases fl with
            | ret u =>
              obtain ⟨v, H', os, bare, un, hok, rv, q⟩ := hq
              subst q
              obtain rfl : u = Value.bool true := rv
              exact ⟨H', rfl, os, bare, un, hok⟩
            | next => exact False.elim hq
            | brk => exact False.elim hq
            | cont => exact False.elim hq
      · cases hb
    · cases hev
end
/-- a law, by its head and the evaluator -/
theorem walk_pm {t : Dat} {m : Nat} {l : PySem.W.OpenLaw} {n : Nat} {q : Program} {loose : List Str} {XP : (Str → Option Value) → Heap → Prop} {d : DefRec} {x : Str} {i dd : Nat} {fi : FnI}
    (hn : l.most = some n) (hn2 : n ≤ sizeLine) (hdf : d.params.defaults = []) (hr : Room (dd + 9) callerA) (hfi : t.G.fns[i]? = some fi) (hnm : fi.name = d.name) (hps : fi.ps = [x]) (hsh : (i, 1, []) ∈ t.G.sh)
    (he : ecOk t = true) (hb : BindOk t) (htop : (l.prog.main.scope.names.lookup ("super" : Str)).isSome = false) (hfile : l.prog.main.file = t.file)
    (hev : ∀ ns : List Int, ns.length ≤ n → (∀ k ∈ ns, Builtin.Int.intBits k ≤ 1048576) → ∃ W st', (callB t.G W (dd + 1)).1 i [.scr ns] [] [] = .ok (.bl true) st') :
    PySem.W.WalkO q loose XP (hookX t m).says l.row.toRowW d [] (fun f vs => PySem.call f vs) := by
  refine Att.attach_callB hn hdf fun w s₀ s₁ mg mb fa o pm cd doc a vs ns G Y ho hd hcd hmg hobj hints hlen hbits hg => ?_
  obtain ⟨K, Y⟩ := Y
  have C : ∀ p ∈ tabsK t K, PySem.W.CodeHd s₁.heap p.1 p.2 := fun p hp => by
    obtain ⟨_, _, k3, _⟩ := chk1 Y.ok
    unfold tabsK at hp
    obtain ⟨j, hj, rfl⟩ := List.mem_map.mp hp
    have hf := k3 j
    unfold lams at hj
    obtain ⟨hj1, hj2⟩ := List.mem_filter.mp hj
    unfold fnB at hf
    cases e : t.G.fns[j]? with
    | none => rw [e] at hj2; cases hj2
    | some fj =>
      rw [e] at hj2 hf
      simp only [Bool.and_eq_true, Bool.or_eq_true, Bool.not_eq_true'] at hf
      rcases hf.2.2.2 with z | z
      · have hj2 : fj.lam = true := hj2
        rw [hj2] at z; cases z
      · exact PySem.W.codeHd_of_K Y.kin z
  obtain ⟨W, st', hw⟩ := hev ns hlen hbits
  refine law_end (cs := tabsK t K) Y.kin G.T.g G.T.b G.T.builtins G.T.nolimit hg Y.tab Y.ntb C G.T.bmain hobj hints (Nat.le_trans hlen hn2) fun base H TB e0 hT hS => ?_
  have Fc := facts_of (P := l.prog) (w := w) (base := base) Y G.T.g he hb htop hfile TB
  have hfa : fa = fAdr t K i := by
    have h1 := (Fc.ok.fn i fi hfi).1
    have h1 : mg fi.name = some (.ref (fAdr t K i)) := h1
    rw [hnm] at h1
    rw [hmg] at h1
    cases h1
    rfl
  rw [hfa]
  exact law_run (h := s₁.heap) Fc hfi hps hsh hr hT hS e0 hw
end PM
set_option Elab.async false
set_option linter.all false
set_option maxRecDepth 100000
set_option maxHeartbeats 4000000
/-! PM32: the data of a law's text, read off the text. -/
namespace PM
open PySem PySem.Spec PyProof.Rows L2 LamX
/-- what a walk through the text gathers -/
structure Gt where
  cn : List Str := []
  mu : List Str := []
  sh : List (Str × Nat × List Str) := []
  nm : List Str := []
  lam : Bool := false
def Gt.app (a b : Gt) : Gt := ⟨a.cn ++ b.cn, a.mu ++ b.mu, a.sh ++ b.sh, a.nm ++ b.nm, a.lam || b.lam⟩
def gtAll {α : Type} (f : α → Gt) : List α → Gt
  | [] => {}
  | a :: r => (f a).app (gtAll f r)
def ownNames (sc : Scope) : List Str := (sc.names.filter fun y => match y.2 with | .local => true | .cell => true | _ => false).map (·.1)
def isMutM (m : Str) : Bool := decide (m = "append") || decide (m = "extend") || decide (m = "pop")
def gtE : Nat → Expr → Gt
  | 0, _ => {}
  | n + 1, e => match e with
    | .Name x _ => { nm := [x] }
    | .BinOp a _ b _ => (gtE n a).app (gtE n b)
    | .UnaryOp _ a _ => gtE n a
    | .Compare a _ bs _ => (gtE n a).app (gtAll (gtE n) bs)
    | .BoolOp _ es _ => gtAll (gtE n) es
    | .IfExp t a b _ => (gtE n t).app ((gtE n a).app (gtE n b))
    | .Tuple es _ _ => gtAll (gtE n) es
    | .List es _ => gtAll (gtE n) es
    | .Subscript a i _ => (gtE n a).app (gtE n i)
    | .Slice a b c _ => gtAll (fun o => match o with | some e => gtE n e | none => {}) [a, b, c]
    | .Attribute a _ _ => gtE n a
    | .Lambda _ b _ _ => Gt.app { lam := true } (gtE n b)
    | .ListComp elt cs sc _ => Gt.app { cn := (ownNames sc).filter fun x => !decide (x = ".0") } ((gtE n elt).app (gtAll (fun (c : Comprehension) => (gtE n c.iter).app (gtAll (gtE n) c.ifs)) cs))
    | .Call (.Name f _) as kws _ => Gt.app { sh := [(f, as.length, kwNames kws)], nm := [f] } ((gtAll (gtE n) as).app (gtAll (fun (k : Keyword) => match k with | ⟨_, e, _⟩ => gtE n e) kws))
    | .Call (.Attribute (.Name x _) m _) as _ _ => Gt.app { mu := if isMutM m then [x] else [], nm := [x] } (gtAll (gtE n) as)
    | .Call f as _ _ => (gtE n f).app (gtAll (gtE n) as)
    | _ => {}
def gtT : Expr → Gt
  | .Subscript (.Name x _) i _ => Gt.app { mu := [x] } (gtE 40 i)
  | _ => {}
def gtS : Nat → Stmt → Gt
  | 0, _ => {}
  | n + 1, s => match s with
    | .Assign ts e _ => (gtAll gtT ts).app (gtE 40 e)
    | .AugAssign t _ e _ => (gtT t).app (gtE 40 e)
    | .Expr e _ => gtE 40 e
    | .Return (some e) _ => gtE 40 e
    | .If t a b _ => (gtE 40 t).app ((gtAll (gtS n) a).app (gtAll (gtS n) b))
    | .While t a b _ => (gtE 40 t).app ((gtAll (gtS n) a).app (gtAll (gtS n) b))
    | .For _ t a b _ => (gtE 40 t).app ((gtAll (gtS n) a).app (gtAll (gtS n) b))
    | .Raise (some e) _ _ => gtE 40 e
    | .Try b hs _ _ _ => (gtAll (gtS n) b).app (gtAll (fun (h : ExceptHandler) => match h with | .ExceptHandler _ _ b _ => gtAll (gtS n) b) hs)
    | _ => {}
def uniq (l : List Str) : List Str := l.eraseDups
def argNames (a : Arguments) : List Str := a.posonlyargs.map (·.arg) ++ a.args.map (·.arg) ++ a.kwonlyargs.map (·.arg)
/-- a def of the module -/
def fnOfS (rets : List Str) : Stmt → Option FnI
  | .FunctionDef nm args body _ _ _ sc _ _ _ =>
    let g := gtAll (gtS 30) body
    let ps := argNames args
    some { name := nm, ps := ps, N := uniq (ps ++ ownNames sc ++ g.cn), params := args, body := body, scope := sc, ret := decide (nm ∈ rets), lam := g.lam, muts := uniq g.mu }
  | _ => none
def fnsOf (rets : List Str) (l : List Stmt) : List FnI := l.filterMap (fnOfS rets)
def clsOf : Stmt → Option Str
  | .ClassDef x _ _ _ _ _ _ _ _ _ _ => some x
  | _ => none
def ecOf (l : List Stmt) : List Str := l.filterMap clsOf
def idxs {α : Type} : Nat → List α → List (α × Nat)
  | _, [] => []
  | n, a :: r => (a, n) :: idxs (n + 1) r
/-- the module's constants: ints by a small reckoner -/
def litI : Nat → Expr → Option Int
  | 0, _ => none
  | n + 1, e => match e with
    | .Constant (.int i) _ _ => some i
    | .BinOp a .Pow b _ => (litI n a).bind fun x => (litI n b).bind fun y => if 0 ≤ y then some (x ^ y.toNat) else none
    | .BinOp a .Mult b _ => (litI n a).bind fun x => (litI n b).map fun y => x * y
    | .BinOp a .Add b _ => (litI n a).bind fun x => (litI n b).map fun y => x + y
    | .BinOp a .Sub b _ => (litI n a).bind fun x => (litI n b).map fun y => x - y
    | .UnaryOp .USub a _ => (litI n a).map fun x => -x
    | _ => none
def glOf : Stmt → Option (Str × PV)
  | .Assign [.Name x _] e _ => if x = "__name__" then none else (match e with
    | .Constant (.str s) _ _ => some (x, .str s)
    | _ => (litI 10 e).map fun i => (x, .int i))
  | _ => none
def tupOf (g : List (Str × PV)) : List Expr → Option (List PV)
  | [] => some []
  | .Name y _ :: r => (find2 y g).bind fun v => (tupOf g r).map (v :: ·)
  | .Constant (.str s) _ _ :: r => (tupOf g r).map (.str s :: ·)
  | .Constant (.int i) _ _ :: r => (tupOf g r).map (.int i :: ·)
  | _ :: _ => none
def glT (g : List (Str × PV)) : Stmt → Option (Str × PV)
  | .Assign [.Name x _] (.Tuple es _ _) _ => (tupOf g es).map fun vs => (x, .tup vs)
  | _ => none
def gls (l : List Stmt) : List (Str × PV) := l.filterMap glOf ++ l.filterMap (glT (l.filterMap glOf))
def shOf (fns : List FnI) : List (Nat × Nat × List Str) :=
  let g := gtAll (fun (f : FnI) => gtAll (gtS 30) f.body) fns
  ((g.sh.filterMap fun p => (fnIx p.1 fns 0).map fun i => (i, p.2)) ++ (match fnIx "law" fns 0 with | some i => [(i, 1, [])] | none => [])).eraseDups
def bltN : List Str := ["len", "abs", "max", "min", "sum", "all", "any", "int", "str", "repr", "tuple", "list", "sorted", "set", "range", "zip", "enumerate", "isinstance", "bool", "ValueError", "float", "dict"]
def frOf (l : List Stmt) (fns : List FnI) : List Str :=
  let g := gtAll (fun (f : FnI) => gtAll (gtS 30) f.body) fns
  bltN.filter fun x => decide (x ∈ g.nm)
def datOf (rets : List Str) (P : Program) : Dat :=
  let l := P.main.body
  let fns := fnsOf rets l
  let ec := ecOf l
  { G := { fns := fns, gl := gls l, ec := idxs 0 ec, fr := frOf l fns, sh := shOf fns }, ecN := ec, file := P.main.file }
/-! ### the binding of arguments, shape by shape -/
def BindOne (G : SI) (p : Nat × Nat × List Str) : Prop := match G.fns[p.1]? with
  | some fi => ∀ (kV doc pm : Value) (an : Option Addr) (cdv ct : Value) (us ws : List Value), us.length = p.2.1 → ws.length = p.2.2.length →
    bindArgs (PySem.W.fnOf fi.name fi.name fi.params fi.body fi.scope .none kV doc pm an cdv ct) ⟨us, p.2.2.zip ws⟩ = pure (fi.ps.zip (permX .none (permOf fi.ps p.2.1 p.2.2) (us ++ ws)))
  | none => True
def BindL (G : SI) : List (Nat × Nat × List Str) → Prop
  | [] => True
  | p :: r => BindOne G p ∧ BindL G r
theorem bindL_ok {G : SI} : ∀ {l : List (Nat × Nat × List Str)}, BindL G l → ∀ p ∈ l, BindOne G p
  | _ :: _, h, p, hp => by
    rcases List.mem_cons.mp hp with e | hp
    · rw [e]; exact h.1
    · exact bindL_ok h.2 p hp
theorem bind_ok {t : Dat} (h : BindL t.G t.G.sh) : BindOk t := fun i fi hfi k ks hsh => by
  have z := bindL_ok h _ hsh
  unfold BindOne at z
  dsimp only at z
  rw [hfi] at z
  exact z
theorem len0 {α : Type} {l : List α} (h : l.length = 0) : l = [] := List.length_eq_zero_iff.mp h
theorem lenS {α : Type} {l : List α} {n : Nat} (h : l.length = n + 1) : ∃ a r, l = a :: r ∧ r.length = n := by
  cases l with
  | nil => cases h
  | cons a r => exact ⟨a, r, rfl, by simpa using h⟩
end PM
set_option Elab.async false
set_option linter.all false
set_option maxRecDepth 100000
set_option maxHeartbeats 4000000
/-! PM33: the shapes of calls. -/
namespace PM
open PySem PySem.Spec PyProof.Rows L2 LamX
def AllV {α : Type} : Nat → (List α → Prop) → Prop
  | 0, P => P []
  | n + 1, P => ∀ a, AllV n fun r => P (a :: r)
theorem allV_ok {α : Type} : ∀ {n : Nat} {P : List α → Prop}, AllV n P → ∀ l : List α, l.length = n → P l
  | 0, P, h, l, e => by rw [len0 e]; exact h
  | n + 1, P, h, l, e => by
    obtain ⟨a, r, rfl, er⟩ := lenS e
    exact allV_ok (h a) r er
def BindA (name : Str) (params : Arguments) (body : List Stmt) (scope : Scope) (ps : List Str) (k : Nat) (ks : List Str) : Prop :=
  ∀ (kV doc pm : Value) (an : Option Addr) (cdv ct : Value), AllV k fun us => AllV ks.length fun ws =>
    bindArgs (PySem.W.fnOf name name params body scope .none kV doc pm an cdv ct) ⟨us, ks.zip ws⟩ = pure (ps.zip (permX .none (permOf ps k ks) (us ++ ws)))
/-- one shape, its def written out -/
theorem bindOne_of {G : SI} {i k : Nat} {ks : List Str} {fi : FnI} (h : G.fns[i]? = some fi) (b : BindA fi.name fi.params fi.body fi.scope fi.ps k ks) : BindOne G (i, k, ks) := by
  unfold BindOne
  dsimp only
  rw [h]
  exact fun kV doc pm an cdv ct us ws hu hw => allV_ok (allV_ok (b kV doc pm an cdv ct) us hu) ws hw
end PM
set_option Elab.async false
set_option linter.all false
set_option maxRecDepth 100000
set_option maxHeartbeats 4000000
/-! PM34: the evaluator's own laws. -/
namespace PM
open PySem
mutual
theorem nor_frz {st : Store} {n : Nat} : ∀ {v : PV}, nor v = true → frz st n v = v
  | .tup xs, h => by simp only [nor] at h; simp [frz, nors_frz h]
  | .lst xs, h => by simp only [nor] at h; simp [frz, nors_frz h]
  | .ref m, h => by simp [nor] at h
  | .clo l k, h => by simp [nor] at h
  | .non, _ => rfl
  | .bl _, _ => rfl
  | .int _, _ => rfl
  | .str _, _ => rfl
  | .scr _, _ => rfl
  | .dct _ _, _ => rfl
  | .set _, _ => rfl
  | .exc _ _, _ => rfl
  | .mkd _ _ _, _ => rfl
theorem nors_frz {st : Store} {n : Nat} : ∀ {vs : List PV}, nors vs = true → frzs st n vs = vs
  | [], _ => rfl
  | x :: xs, h => by simp only [nors, Bool.and_eq_true] at h; simp [frzs, nor_frz h.1, nors_frz h.2]
end
mutual
theorem nor_cls {n lv : Nat} : ∀ {v : PV}, nor v = true → cls n lv v = true
  | .tup xs, h => by simp only [nor] at h; simp [cls, nors_cls h]
  | .lst xs, h => by simp only [nor] at h; simp [cls, nors_cls h]
  | .ref m, h => by simp [nor] at h
  | .clo l k, h => by simp [nor] at h
  | .non, _ => rfl
  | .bl _, _ => rfl
  | .int _, _ => rfl
  | .str _, _ => rfl
  | .scr _, _ => rfl
  | .dct ks vs, h => by simpa [nor, cls] using h
  | .set xs, h => by simpa [nor, cls] using h
  | .exc c v, h => by simpa [nor, cls] using h
  | .mkd c m v, h => by simpa [nor, cls] using h
theorem nors_cls {n lv : Nat} : ∀ {vs : List PV}, nors vs = true → clss n lv vs = true
  | [], _ => rfl
  | x :: xs, h => by simp only [nors, Bool.and_eq_true] at h; simp [clss, nor_cls h.1, nors_cls h.2]
end
theorem fin_nor {ret : Bool} {lv : Nat} {v : PV} {st : Store} (h : nor v = true) : fin ret lv st.length (.ok v st) = .ok v st := by
  have e : (if cls st.length lv (frz st st.length v) = true then (.ok (frz st st.length v) (st.take st.length) : R PV) else .bad) = .ok v st := by
    rw [nor_frz h, nor_cls h, if_pos rfl, List.take_length]
  cases ret with
  | false => exact e
  | true =>
    cases v with
    | ref m => simp [nor] at h
    | _ => exact e
theorem fin_exc' {ret : Bool} {lv k : Nat} {v : PV} {st : Store} (h : nor v = true) : fin ret lv st.length (.exc k v st) = .exc k v st := by
  show (if nor v = true then PM.R.exc k v (st.take st.length) else .bad) = _
  rw [if_pos h, List.take_length]
/-- a def called -/
theorem call_eq {G : SI} {W d i : Nat} {fi : FnI} {b : Ss} {args : List PV} {Φ : List Env} {st : Store} (hfi : G.fns[i]? = some fi) (hb : bodyOf G fi = some b) (hl : args.length = fi.ps.length) :
    (callB G W (d + 1)).1 i args Φ st = fin fi.ret Φ.length st.length (flV (exSs ⟨(callB G W d).1, (callB G W d).2, W, fun ρ => Φ ++ [ρ], Φ.length, st.length⟩ b (entry fi.N.length args) st)) := by
  show fnRun G W _ _ i args Φ st = _
  unfold fnRun
  rw [hfi]
  dsimp only
  rw [hb]
  dsimp only
  rw [if_pos hl]
end PM
set_option Elab.async false
set_option linter.all false
set_option maxRecDepth 100000
set_option maxHeartbeats 4000000
/-! PM37: what comes of it: rules, from the end backwards. -/
namespace PM
open PySem L2
def WR {α : Type} (r : R α) (K : α → Store → Prop) (X : Nat → PV → Store → Prop) : Prop := match r with
  | .ok a st => K a st | .exc c v st => X c v st | .bad => False
structure GV {α : Type} (o : Option α) (K : α → Prop) : Prop where
  out : ∃ a, o = some a ∧ K a
structure IsI (x : PV) (K : Int → Prop) : Prop where
  out : ∃ i, x = .int i ∧ K i
structure IsB (x : PV) (K : Bool → Prop) : Prop where
  out : ∃ i, x = .bl i ∧ K i
structure BR (b : Bool) (A B : Prop) : Prop where
  t : b = true → A
  f : b = false → B
def isRef : PV → Bool | .ref _ => true | _ => false
structure VW (st : Store) (x : PV) (K : PV → Prop) : Prop where
  out : K (view st x)
structure VWs (st : Store) (xs : List PV) (K : List PV → Prop) : Prop where
  out : K (xs.map (view st))
structure TG (t : Tg) (x : PV) (ρ : Env) (K : Env → Prop) : Prop where
  out : ∃ ρ', asgT t x ρ = some ρ' ∧ K ρ'
structure TGs (t : List Tg) (x : List PV) (ρ : Env) (K : Env → Prop) : Prop where
  out : ∃ ρ', asgTs t x ρ = some ρ' ∧ K ρ'
structure SQ (fl : Fl) (A : Env → Prop) (B : Prop) : Prop where
  out : match fl with | .nx ρ => A ρ | _ => B
structure LP (fl : Fl) (A : Env → Prop) (B : Env → Prop) (C : PV → Prop) : Prop where
  out : match fl with | .nx ρ => A ρ | .ct ρ => A ρ | .bk ρ => B ρ | .rt v => C v
structure WE (c : Cfg) (e : E) (ρ : Env) (st : Store) (K : PV → Store → Prop) (X : Nat → PV → Store → Prop) : Prop where
  out : WR ((ev c e).v ρ st) K X
structure WT (c : Cfg) (e : E) (ρ : Env) (st : Store) (K : Bool → Store → Prop) (X : Nat → PV → Store → Prop) : Prop where
  out : WR ((ev c e).t ρ st) K X
structure WA (c : Cfg) (es : Es) (ρ : Env) (st : Store) (K : List PV → Store → Prop) (X : Nat → PV → Store → Prop) : Prop where
  out : WR (evs c es ρ st) K X
structure WI (c : Cfg) (it : It) (ρ : Env) (st : Store) (K : ItV → Store → Prop) (X : Nat → PV → Store → Prop) : Prop where
  out : WR (evI c it ρ st) K X
structure WO (c : Cfg) (o : Option E) (ρ : Env) (st : Store) (K : Option Int → Store → Prop) (X : Nat → PV → Store → Prop) : Prop where
  out : WR (match o with | none => .ok none st | some e => partR ((ev c e).v ρ st)) K X
structure WS (c : Cfg) (s : PM.S) (ρ : Env) (st : Store) (K : Fl → Store → Prop) (X : Nat → PV → Store → Prop) : Prop where
  out : WR (exS c s ρ st) K X
structure WSS (c : Cfg) (s : Ss) (ρ : Env) (st : Store) (K : Fl → Store → Prop) (X : Nat → PV → Store → Prop) : Prop where
  out : WR (exSs c s ρ st) K X
structure CE (c : Cfg) (t : Tg) (cnd : Option E) (e : E) (ρ : Env) (x : PV) (st : Store) (K : Option PV → Store → Prop) : Prop where
  out : WR (cmF c t cnd e ρ x st) K (fun _ _ _ => False)
structure CM (c : Cfg) (t : Tg) (cnd : Option E) (e : E) (ρ : Env) (I : ItV) (st : Store) (K : PV → Store → Prop) : Prop where
  out : WR (bnd (match I with | .fix xs => loopC (cmF c t cnd e ρ) xs st | .dyn n => loopD (cmF c t cnd e ρ) n c.W 0 st) fun ys st => .ok (.lst ys) st) K (fun _ _ _ => False)
/-- a for loop from its items on -/
structure WL (c : Cfg) (t : Tg) (b : Ss) (I : ItV) (ρ : Env) (st : Store) (K : Fl → Store → Prop) (X : Nat → PV → Store → Prop) : Prop where
  out : WR (match I with | .fix xs => forL (foF c t b) xs ρ st | .dyn n => forD (foF c t b) n c.W 0 ρ st) K X
/-- a while loop -/
structure WW (c : Cfg) (t : E) (b : Ss) (ρ : Env) (st : Store) (K : Fl → Store → Prop) (X : Nat → PV → Store → Prop) : Prop where
  out : WR (whl (fun ρ st => (ev c t).t ρ st) (fun ρ st => exSs c b ρ st) c.W ρ st) K X
/-- leaving a frame -/
structure FK (ret : Bool) (lv n : Nat) (fl : Fl) (st : Store) (K : PV → Store → Prop) : Prop where
  out : WR (fin ret lv n (flV (.ok fl st))) K (fun _ _ _ => False)
abbrev NX : Nat → PV → Store → Prop := fun _ _ _ => False
section
variable {α β : Type}
theorem WR.bnd {r : R α} {f : α → Store → R β} {K : β → Store → Prop} {X : Nat → PV → Store → Prop} (h : WR r (fun a st => WR (f a st) K X) X) : WR (PM.bnd r f) K X := by cases r <;> exact h
theorem WR.mono {r : R α} {K K' : α → Store → Prop} {X X' : Nat → PV → Store → Prop} (h : WR r K X) (hk : ∀ a st, K a st → K' a st) (hx : ∀ c v st, X c v st → X' c v st) : WR r K' X' := by
  cases r with
  | ok a st => exact hk _ _ h
  | exc c v st => exact hx _ _ _ h
  | bad => exact h
theorem WR.ok {r : R α} {a : α} {st : Store} {K : α → Store → Prop} {X : Nat → PV → Store → Prop} (e : r = .ok a st) (h : K a st) : WR r K X := by rw [e]; exact h
theorem WR.exc {r : R α} {c : Nat} {v : PV} {st : Store} {K : α → Store → Prop} {X : Nat → PV → Store → Prop} (e : r = .exc c v st) (h : X c v st) : WR r K X := by rw [e]; exact h
theorem WR.toOk {r : R α} {a : α} {st : Store} (h : WR r (fun b st' => b = a ∧ st' = st) NX) : r = .ok a st := by
  cases r with
  | ok b st' => obtain ⟨rfl, rfl⟩ := h; rfl
  | exc c v st => exact h.elim
  | bad => exact h.elim
theorem WR.toExc {r : R α} {c : Nat} {v : PV} {st : Store} (h : WR r (fun _ _ => False) (fun c' v' st' => c' = c ∧ v' = v ∧ st' = st)) : r = .exc c v st := by
  cases r with
  | ok b st' => exact h.elim
  | exc c v st => obtain ⟨rfl, rfl, rfl⟩ := h; rfl
  | bad => exact h.elim
theorem WR.nox {r : R α} {K : α → Store → Prop} {X : Nat → PV → Store → Prop} (h : WR r K NX) : WR (PM.nox r) K X := by
  cases r with
  | ok b st' => exact h
  | exc c v st => exact h.elim
  | bad => exact h.elim
theorem GV.of {o : Option α} {a : α} {K : α → Prop} (e : o = some a) (h : K a) : GV o K := ⟨a, e, h⟩
theorem GV.wr {o : Option α} {st : Store} {K : α → Store → Prop} {X : Nat → PV → Store → Prop} (h : GV o (fun a => K a st)) : WR (giv o st) K X := by
  obtain ⟨a, e, h⟩ := h.out; rw [e]; exact h
end
theorem IsI.mk' {i : Int} {K : Int → Prop} (h : K i) : IsI (.int i) K := ⟨i, rfl, h⟩
theorem IsB.mk' {i : Bool} {K : Bool → Prop} (h : K i) : IsB (.bl i) K := ⟨i, rfl, h⟩
theorem BR.d {p : Prop} [Decidable p] {A B : Prop} (h1 : p → A) (h2 : ¬p → B) : BR (decide p) A B := ⟨fun h => h1 (of_decide_eq_true h), fun h => h2 (of_decide_eq_false h)⟩
theorem BR.T {A B : Prop} (h : A) : BR true A B := ⟨fun _ => h, fun z => by cases z⟩
theorem BR.F {A B : Prop} (h : B) : BR false A B := ⟨fun z => (by cases z), fun _ => h⟩
theorem BR.n {b : Bool} {A B : Prop} (h : BR b B A) : BR (!b) A B := ⟨fun z => h.f (by simpa using z), fun z => h.t (by simpa using z)⟩
theorem BR.tr {b : Bool} {A B : Prop} (e : b = true) (h : A) : BR b A B := ⟨fun _ => h, fun z => by rw [e] at z; cases z⟩
theorem BR.fa {b : Bool} {A B : Prop} (e : b = false) (h : B) : BR b A B := ⟨fun z => (by rw [e] at z; cases z), fun _ => h⟩
theorem VW.nr {st : Store} {x : PV} {K : PV → Prop} (h : isRef x = false) (k : K x) : VW st x K := ⟨by cases x <;> first | exact k | cases h⟩
theorem VW.rf {st : Store} {n : Nat} {xs : List PV} {K : PV → Prop} (h : st[n]? = some (.lst xs)) (k : K (.lst xs)) : VW st (.ref n) K := ⟨by
  have : view st (.ref n) = .lst xs := by
    show (match st[n]? with | some (.lst xs) => PV.lst xs | some (.dct ks vs) => .dct ks vs | none => .ref n) = _
    rw [h]
  rw [this]; exact k⟩
theorem VWs.nil {st : Store} {K : List PV → Prop} (k : K []) : VWs st [] K := ⟨k⟩
theorem VWs.cons {st : Store} {x : PV} {xs : List PV} {K : List PV → Prop} (k : VW st x fun x' => VWs st xs fun r => K (x' :: r)) : VWs st (x :: xs) K := ⟨k.out.out⟩
theorem TG.n {i : Nat} {x : PV} {ρ ρ' : Env} {K : Env → Prop} (h : ρ.set i (some x) = ρ') (k : K ρ') : TG (.n i) x ρ K := ⟨ρ', by rw [← h]; rfl, k⟩
theorem TGs.nil {ρ : Env} {K : Env → Prop} (k : K ρ) : TGs [] [] ρ K := ⟨ρ, rfl, k⟩
theorem TGs.cons {t : Tg} {l : List Tg} {x : PV} {xs : List PV} {ρ : Env} {K : Env → Prop} (h : TG t x ρ fun ρ' => TGs l xs ρ' K) : TGs (t :: l) (x :: xs) ρ K := by
  obtain ⟨ρ1, e1, h1⟩ := h.out
  obtain ⟨ρ2, e2, h2⟩ := h1.out
  exact ⟨ρ2, by simp only [asgTs, e1, e2], h2⟩
theorem TG.t {l : List Tg} {xs : List PV} {ρ : Env} {K : Env → Prop} (h : TGs l xs ρ K) : TG (.t l) (.tup xs) ρ K := by
  obtain ⟨ρ1, e1, h1⟩ := h.out
  exact ⟨ρ1, by simp only [asgT, e1], h1⟩
theorem SQ.nx {ρ : Env} {A : Env → Prop} {B : Prop} (h : A ρ) : SQ (.nx ρ) A B := ⟨h⟩
theorem SQ.rt {v : PV} {A : Env → Prop} {B : Prop} (h : B) : SQ (.rt v) A B := ⟨h⟩
theorem SQ.bk {v : Env} {A : Env → Prop} {B : Prop} (h : B) : SQ (.bk v) A B := ⟨h⟩
theorem SQ.ct {v : Env} {A : Env → Prop} {B : Prop} (h : B) : SQ (.ct v) A B := ⟨h⟩
theorem LP.nx {ρ : Env} {A B : Env → Prop} {C : PV → Prop} (h : A ρ) : LP (.nx ρ) A B C := ⟨h⟩
theorem LP.ct {ρ : Env} {A B : Env → Prop} {C : PV → Prop} (h : A ρ) : LP (.ct ρ) A B C := ⟨h⟩
theorem LP.bk {ρ : Env} {A B : Env → Prop} {C : PV → Prop} (h : B ρ) : LP (.bk ρ) A B C := ⟨h⟩
theorem LP.rt {v : PV} {A B : Env → Prop} {C : PV → Prop} (h : C v) : LP (.rt v) A B C := ⟨h⟩
section
variable {c : Cfg} {a b d e : E} {es : Es} {ρ : Env} {st : Store} {K : PV → Store → Prop} {KT : Bool → Store → Prop} {KA : List PV → Store → Prop} {KI : ItV → Store → Prop} {KF : Fl → Store → Prop} {KO : Option Int → Store → Prop} {X : Nat → PV → Store → Prop}
theorem WE.v {i : Nat} {x : PV} (h : gv ρ i = some x) (k : K x st) : WE c (.v i) ρ st K X := ⟨by
  show WR (giv (gv ρ i) st) K X
  rw [h]; exact k⟩
theorem WE.k {x : PV} (k : K x st) : WE c (.k x) ρ st K X := ⟨k⟩
theorem WE.bin {o : Bop} (h : WE c a ρ st (fun x st1 => WE c b ρ st1 (fun y st2 => VW st2 x fun x' => VW st2 y fun y' => GV (binV o x' y') fun z => K z st2) X) X) : WE c (.bin o a b) ρ st K X :=
  ⟨WR.bnd (h.out.mono (fun x st1 h => WR.bnd (h.out.mono (fun y st2 h => GV.wr h.out.out) fun _ _ _ h => h)) fun _ _ _ h => h)⟩
theorem WE.neg (h : WE c a ρ st (fun x st1 => IsI x fun i => K (.int (-i)) st1) X) : WE c (.neg a) ρ st K X :=
  ⟨WR.bnd (h.out.mono (fun x st1 h => by obtain ⟨i, e, h2⟩ := h.out; subst e; exact h2) fun _ _ _ h => h)⟩
theorem WE.cmp {o : Cop} (h : WE c a ρ st (fun x st1 => WE c b ρ st1 (fun y st2 => VW st2 x fun x' => VW st2 y fun y' => GV (cmpV o x' y') fun z => K (.bl z) st2) X) X) : WE c (.cmp o a b) ρ st K X :=
  ⟨WR.bnd (h.out.mono (fun x st1 h => WR.bnd (h.out.mono (fun y st2 h => WR.bnd (GV.wr h.out.out)) fun _ _ _ h => h)) fun _ _ _ h => h)⟩
theorem WT.cmp {o : Cop} (h : WE c a ρ st (fun x st1 => WE c b ρ st1 (fun y st2 => VW st2 x fun x' => VW st2 y fun y' => GV (cmpV o x' y') fun z => KT z st2) X) X) : WT c (.cmp o a b) ρ st KT X :=
  ⟨WR.bnd (WR.bnd (h.out.mono (fun x st1 h => WR.bnd (h.out.mono (fun y st2 h => WR.bnd (GV.wr h.out.out)) fun _ _ _ h => h)) fun _ _ _ h => h))⟩
theorem WE.chain {o p : Cop} (h : WE c a ρ st (fun x st1 => WE c b ρ st1 (fun y st2 => VW st2 x fun x' => VW st2 y fun y' => GV (cmpV o x' y') fun z => BR z (WE c d ρ st2 (fun z st3 => VW st3 y fun y' => VW st3 z fun z' => GV (cmpV p y' z') fun w => K (.bl w) st3) X) (K (.bl false) st2)) X) X) : WE c (.chain o p a b d) ρ st K X :=
  ⟨WR.bnd (h.out.mono (fun x st1 h => WR.bnd (h.out.mono (fun y st2 h => WR.bnd (by
    obtain ⟨z, e, h⟩ := h.out.out.out
    rw [e]
    cases z with
    | false => exact h.f rfl
    | true => exact WR.bnd ((h.t rfl).out.mono (fun z st3 h => WR.bnd (GV.wr h.out.out)) fun _ _ _ h => h))) fun _ _ _ h => h)) fun _ _ _ h => h)⟩
theorem WE.and (h : WE c a ρ st (fun x st1 => IsB x fun k => BR k (WE c b ρ st1 K X) (K (.bl false) st1)) X) : WE c (.and a b) ρ st K X :=
  ⟨WR.bnd (h.out.mono (fun x st1 h => by
    obtain ⟨i, e, h2⟩ := h.out
    subst e
    cases i with
    | true => exact (h2.t rfl).out
    | false => exact h2.f rfl) fun _ _ _ h => h)⟩
theorem WE.or (h : WE c a ρ st (fun x st1 => IsB x fun k => BR k (K (.bl true) st1) (WE c b ρ st1 K X)) X) : WE c (.or a b) ρ st K X :=
  ⟨WR.bnd (h.out.mono (fun x st1 h => by
    obtain ⟨i, e, h2⟩ := h.out
    subst e
    cases i with
    | true => exact h2.t rfl
    | false => exact (h2.f rfl).out) fun _ _ _ h => h)⟩
theorem WE.not (h : WE c a ρ st (fun x st1 => IsB x fun k => K (.bl (!k)) st1) X) : WE c (.not a) ρ st K X :=
  ⟨WR.bnd (h.out.mono (fun x st1 h => by obtain ⟨i, e, h2⟩ := h.out; subst e; exact h2) fun _ _ _ h => h)⟩
theorem WT.and (h : WT c a ρ st (fun k st1 => BR k (WT c b ρ st1 KT X) (KT false st1)) X) : WT c (.and a b) ρ st KT X :=
  ⟨WR.bnd (h.out.mono (fun x st1 h => by
    cases x with
    | true => exact (h.t rfl).out
    | false => exact h.f rfl) fun _ _ _ h => h)⟩
theorem WT.or (h : WT c a ρ st (fun k st1 => BR k (KT true st1) (WT c b ρ st1 KT X)) X) : WT c (.or a b) ρ st KT X :=
  ⟨WR.bnd (h.out.mono (fun x st1 h => by
    cases x with
    | true => exact h.t rfl
    | false => exact (h.f rfl).out) fun _ _ _ h => h)⟩
theorem WT.not (h : WT c a ρ st (fun k st1 => KT (!k) st1) X) : WT c (.not a) ρ st KT X :=
  ⟨WR.bnd (h.out.mono (fun x st1 h => h) fun _ _ _ h => h)⟩
theorem WE.ite (h : WT c d ρ st (fun k st1 => BR k (WE c a ρ st1 K X) (WE c b ρ st1 K X)) X) : WE c (.ite d a b) ρ st K X :=
  ⟨WR.bnd (h.out.mono (fun x st1 h => by
    cases x with
    | true => exact (h.t rfl).out
    | false => exact (h.f rfl).out) fun _ _ _ h => h)⟩
theorem WT.ite (h : WT c d ρ st (fun k st1 => BR k (WT c a ρ st1 KT X) (WT c b ρ st1 KT X)) X) : WT c (.ite d a b) ρ st KT X :=
  ⟨WR.bnd (h.out.mono (fun x st1 h => by
    cases x with
    | true => exact (h.t rfl).out
    | false => exact (h.f rfl).out) fun _ _ _ h => h)⟩
def plE : E → Bool | .and .. => false | .or .. => false | .not .. => false | .ite .. => false | _ => true
theorem plE_t : ∀ {e : E}, plE e = true → (ev c e).t = fun ρ st => bnd ((ev c e).v ρ st) fun x st => giv (truV (view st x)) st
  | .v _, _ => rfl | .k _, _ => rfl | .bin .., _ => rfl | .neg _, _ => rfl | .cmp .., _ => rfl | .chain .., _ => rfl
  | .tup _, _ => rfl | .lst _, _ => rfl | .mut _, _ => rfl | .ix .., _ => rfl | .sl .., _ => by simp only [ev, plain] | .rev _, _ => rfl | .call .., _ => rfl | .callv .., _ => rfl | .bi .., _ => rfl | .bn .., _ => rfl | .mt .., _ => rfl
  | .cm .., _ => by simp only [ev, plain] | .at _, _ => rfl | .isi .., _ => rfl | .lam _, _ => rfl | .mk .., _ => rfl | .dc .., _ => rfl
theorem WT.pl (hp : plE e = true) (h : WE c e ρ st (fun x st1 => VW st1 x fun x' => GV (truV x') fun k => KT k st1) X) : WT c e ρ st KT X := ⟨by
  rw [plE_t hp]
  exact WR.bnd (h.out.mono (fun x st1 h => GV.wr h.out) fun _ _ _ h => h)⟩
theorem WT.isi {g : Cl} (h : WE c a ρ st (fun x st1 => VW st1 x fun x' => GV (isiV x' g) fun k => KT k st1) X) : WT c (.isi a g) ρ st KT X :=
  ⟨WR.bnd (WR.bnd (h.out.mono (fun x st1 h => WR.bnd (GV.wr h.out)) fun _ _ _ h => h))⟩
theorem WE.isi {g : Cl} (h : WE c a ρ st (fun x st1 => VW st1 x fun x' => GV (isiV x' g) fun k => K (.bl k) st1) X) : WE c (.isi a g) ρ st K X :=
  ⟨WR.bnd (h.out.mono (fun x st1 h => WR.bnd (GV.wr h.out)) fun _ _ _ h => h)⟩
theorem WE.tup (h : WA c es ρ st (fun xs st1 => K (.tup xs) st1) X) : WE c (.tup es) ρ st K X := ⟨WR.bnd h.out⟩
theorem WE.lst (h : WA c es ρ st (fun xs st1 => K (.lst xs) st1) X) : WE c (.lst es) ρ st K X := ⟨WR.bnd h.out⟩
structure IsL (x : PV) (K : List PV → Prop) : Prop where
  out : ∃ xs, x = .lst xs ∧ K xs
theorem IsL.mk' {xs : List PV} {K : List PV → Prop} (h : K xs) : IsL (.lst xs) K := ⟨xs, rfl, h⟩
theorem WE.mut (h : WE c a ρ st (fun x st1 => IsL x fun xs => nrfs xs = true ∧ K (.ref st1.length) (st1 ++ [.lst xs])) X) : WE c (.mut a) ρ st K X :=
  ⟨WR.bnd (h.out.mono (fun x st1 h => by
    obtain ⟨xs, ex, h1, h2⟩ := h.out
    subst ex
    show WR (if nrfs xs = true then _ else _) K X
    rw [if_pos h1]; exact h2) fun _ _ _ h => h)⟩
theorem WE.ix (h : WE c a ρ st (fun x st1 => WE c b ρ st1 (fun y st2 => VW st2 x fun x' => GV (ixV x' y) fun z => K z st2) X) X) : WE c (.ix a b) ρ st K X :=
  ⟨WR.bnd (h.out.mono (fun x st1 h => WR.bnd (h.out.mono (fun y st2 h => GV.wr h.out) fun _ _ _ h => h)) fun _ _ _ h => h)⟩
theorem WO.no (k : KO none st) : WO c none ρ st KO X := ⟨k⟩
theorem WO.so (k : WE c e ρ st (fun x st1 => IsI x fun i => KO (some i) st1) X) : WO c (some e) ρ st KO X :=
  ⟨WR.bnd (k.out.mono (fun x st1 h => by obtain ⟨i, e, h2⟩ := h.out; subst e; exact h2) fun _ _ _ h => h)⟩
theorem WE.sl {lo hi : Option E} (h : WE c a ρ st (fun x st1 => WO c lo ρ st1 (fun l st2 => WO c hi ρ st2 (fun u st3 => VW st3 x fun x' => GV (slV x' l u) fun z => K z st3) X) X) X) : WE c (.sl a lo hi) ρ st K X :=
  ⟨by cases lo <;> cases hi <;> exact WR.bnd (h.out.mono (fun x st1 h => WR.bnd (h.out.mono (fun l st2 h => WR.bnd (h.out.mono (fun u st3 h => GV.wr h.out) fun _ _ _ h => h)) fun _ _ _ h => h)) fun _ _ _ h => h)⟩
theorem WE.rev (h : WE c a ρ st (fun x st1 => VW st1 x fun x' => GV (revV x') fun z => K z st1) X) : WE c (.rev a) ρ st K X :=
  ⟨WR.bnd (h.out.mono (fun x st1 h => GV.wr h.out) fun _ _ _ h => h)⟩
theorem WE.callP {f : Nat} {p : List Nat} (h : WA c es ρ st (fun vs st1 => WR (c.cf f (permA p vs) (c.Φ ρ) st1) K X) X) : WE c (.call f es p) ρ st K X := ⟨WR.bnd h.out⟩
theorem permA_id {p : List Nat} {vs : List PV} (h : p = List.range vs.length) : permA p vs = vs := by
  subst h
  unfold permA
  cases vs with
  | nil => rfl
  | cons a r =>
    have : (List.range (a :: r).length).isEmpty = false := by simp
    rw [this]
    refine List.ext_getElem? fun i => ?_
    simp only [Bool.false_eq_true, if_false, List.getElem?_map]
    by_cases hi : i < (a :: r).length
    · rw [List.getElem?_range hi, List.getElem?_eq_getElem hi]
      show some ((a :: r).getD i .non) = _
      rw [List.getD_eq_getElem?_getD, List.getElem?_eq_getElem hi]; rfl
    · rw [List.getElem?_eq_none (by simpa using hi), List.getElem?_eq_none (by simpa using hi)]; rfl
/-- the arguments stand in the parameters' order -/
structure PA (p : List Nat) (vs : List PV) (P : Prop) : Prop where
  h : p = List.range vs.length
  out : P
theorem WE.call {f : Nat} {p : List Nat} (h : WA c es ρ st (fun vs st1 => PA p vs (WR (c.cf f vs (c.Φ ρ) st1) K X)) X) : WE c (.call f es p) ρ st K X :=
  WE.callP ⟨h.out.mono (fun vs st1 h => by rw [permA_id h.h]; exact h.out) fun _ _ _ h => h⟩
theorem WE.callv {i : Nat} {l : LamI} {lv : Nat} (e : gv ρ i = some (.clo l lv)) (h : WA c es ρ st (fun vs st1 => GV (c.Φ ρ)[lv]? fun ρc => WR (c.cl l vs ρc (c.Φ ρ) st1) K X) X) : WE c (.callv i es) ρ st K X := ⟨by
  show WR (match gv ρ i with | some (.clo l lv) => bnd (evs c es ρ st) _ | _ => .bad) K X
  rw [e]
  exact WR.bnd (h.out.mono (fun vs st1 h => by
    obtain ⟨ρc, e2, h⟩ := h.out
    rw [e2]; exact h) fun _ _ _ h => h)⟩
theorem WE.bi {g : Bi} (h : WA c es ρ st (fun vs st1 => VWs st1 vs fun ws => GV (biV g ws) fun z => K z st1) X) : WE c (.bi g es) ρ st K X :=
  ⟨WR.bnd (h.out.mono (fun x st1 h => GV.wr h.out) fun _ _ _ h => h)⟩
theorem WE.bn {g : Bn} (h : WA c es ρ st (fun vs st1 => VWs st1 vs fun ws => GV (biN g ws) fun z => K (.lst z) st1) X) : WE c (.bn g es) ρ st K X :=
  ⟨WR.bnd (h.out.mono (fun x st1 h => WR.bnd (GV.wr h.out)) fun _ _ _ h => h)⟩
structure P2 (p : PV × Store) (K : PV → Store → Prop) : Prop where
  out : K p.1 p.2
theorem P2.mk' {v : PV} {s : Store} {K : PV → Store → Prop} (k : K v s) : P2 (v, s) K := ⟨k⟩
structure IsE (x : PV) (K : PV → Prop) : Prop where
  out : ∃ v, ((∃ k, x = .exc k v) ∨ ∃ k n, x = .mkd k n v) ∧ K v
theorem IsE.mk' {k : Nat} {v : PV} {K : PV → Prop} (h : K v) : IsE (.exc k v) K := ⟨v, .inl ⟨k, rfl⟩, h⟩
theorem IsE.mkd {k : Nat} {n : Str} {v : PV} {K : PV → Prop} (h : K v) : IsE (.mkd k n v) K := ⟨v, .inr ⟨k, n, rfl⟩, h⟩
theorem WE.mt {m : Mt} (h : WE c a ρ st (fun x st1 => GV (okO m st1 x) fun _ => WA c es ρ st1 (fun vs st2 => GV (mtV c.nb m st2 x vs) fun p => P2 p K) X) X) : WE c (.mt m a es) ρ st K X :=
  ⟨WR.bnd (h.out.mono (fun x st1 h => WR.bnd (GV.wr (by
    obtain ⟨u, e, h⟩ := h.out
    refine ⟨u, e, WR.bnd (h.out.mono (fun vs st2 h => ?_) fun _ _ _ h => h)⟩
    obtain ⟨⟨v, s⟩, e, h⟩ := h.out
    unfold mtR
    rw [e]; exact h.out))) fun _ _ _ h => h)⟩
theorem WE.at (h : WE c a ρ st (fun x st1 => IsE x fun v => K v st1) X) : WE c (.at a) ρ st K X :=
  ⟨WR.bnd (h.out.mono (fun x st1 h => by obtain ⟨v, ⟨k, ex⟩ | ⟨k, n, ex⟩, h2⟩ := h.out <;> subst ex <;> exact h2) fun _ _ _ h => h)⟩
theorem WE.dc {ks : List Str} {vs : List PV} (k : K (.dct (ks.map .str) vs) st) : WE c (.dc ks vs) ρ st K X := ⟨k⟩
theorem WE.lam {l : LamI} (k : K (.clo l c.lv) st) : WE c (.lam l) ρ st K X := ⟨k⟩
theorem WE.mkE {k : Nat} {n : Str} (h : WE c a ρ st (fun x st1 => nor x = true ∧ K (.mkd k n x) st1) X) : WE c (.mk k n a) ρ st K X :=
  ⟨WR.bnd (h.out.mono (fun x st1 h => by
    show WR (if nor x = true then _ else _) K X
    rw [if_pos h.1]; exact h.2) fun _ _ _ h => h)⟩
theorem WA.nil (k : KA [] st) : WA c .nil ρ st KA X := ⟨k⟩
theorem WA.cons (h : WE c a ρ st (fun x st1 => WA c es ρ st1 (fun xs st2 => KA (x :: xs) st2) X) X) : WA c (.cons a es) ρ st KA X :=
  ⟨WR.bnd (h.out.mono (fun x st1 h => WR.bnd h.out) fun _ _ _ h => h)⟩
theorem WI.seq (h : WE c a ρ st (fun x st1 => GV (toSeq st1 x) fun z => KI z st1) X) : WI c (.seq a) ρ st KI X :=
  ⟨WR.bnd (h.out.mono (fun x st1 h => GV.wr h) fun _ _ _ h => h)⟩
theorem WI.rng1 (h : WE c a ρ st (fun x st1 => IsI x fun j => (inR j = true ∧ j.toNat ≤ SZ) ∧ KI (.fix (rangeL 0 j.toNat)) st1) X) : WI c (.rng1 a) ρ st KI X :=
  ⟨WR.bnd (h.out.mono (fun x st1 h => by
    obtain ⟨j, ex, ⟨h1, h3⟩, h4⟩ := h.out
    subst ex
    have e : (inR j && decide (j.toNat ≤ SZ)) = true := by rw [h1, decide_eq_true h3]; rfl
    show WR (if (inR j && decide (j.toNat ≤ SZ)) = true then _ else _) KI X
    rw [if_pos e]; exact h4) fun _ _ _ h => h)⟩
theorem WI.rng2 (h : WE c a ρ st (fun x st1 => WE c b ρ st1 (fun y st2 => IsI x fun i => IsI y fun j => (inR i = true ∧ inR j = true ∧ (j - i).toNat ≤ SZ) ∧ KI (.fix (rangeL i (j - i).toNat)) st2) X) X) : WI c (.rng2 a b) ρ st KI X :=
  ⟨WR.bnd (h.out.mono (fun x st1 h => WR.bnd (h.out.mono (fun y st2 h => by
    obtain ⟨i, ex, g⟩ := h.out
    obtain ⟨j, ey, ⟨h1, h3, h5⟩, h6⟩ := g.out
    subst ex ey
    have e : (inR i && inR j && decide ((j - i).toNat ≤ SZ)) = true := by rw [h1, h3, decide_eq_true h5]; rfl
    show WR (if (inR i && inR j && decide ((j - i).toNat ≤ SZ)) = true then _ else _) KI X
    rw [if_pos e]; exact h6) fun _ _ _ h => h)) fun _ _ _ h => h)⟩
theorem WI.rng3 (h : WE c a ρ st (fun x st1 => WE c b ρ st1 (fun y st2 => WE c e ρ st2 (fun z st3 => IsI x fun i => IsI y fun j => IsI z fun k => GV (PM.rng3 i j k) fun xs => KI (.fix xs) st3) X) X) X) : WI c (.rng3 a b e) ρ st KI X :=
  ⟨WR.bnd (h.out.mono (fun x st1 h => WR.bnd (h.out.mono (fun y st2 h => WR.bnd (h.out.mono (fun z st3 h => by
    obtain ⟨i, ex, g1⟩ := h.out
    obtain ⟨j, ey, g2⟩ := g1.out
    obtain ⟨k, ez, g3⟩ := g2.out
    obtain ⟨xs, e1, g4⟩ := g3.out
    subst ex ey ez
    show WR (PM.bnd (giv (PM.rng3 i j k) st3) fun xs st => .ok (.fix xs) st) KI X
    rw [e1]; exact g4) fun _ _ _ h => h)) fun _ _ _ h => h)) fun _ _ _ h => h)⟩
structure ZP (x y : PV) (K : ItV → Prop) : Prop where
  out : (∃ xs ys, x = .lst xs ∧ y = .lst ys ∧ K (.fix (zipL xs ys))) ∨ ∃ xs ys, x = .tup xs ∧ y = .tup ys ∧ K (.fix (zipL xs ys))
theorem ZP.l {xs ys : List PV} {K : ItV → Prop} (h : K (.fix (zipL xs ys))) : ZP (.lst xs) (.lst ys) K := ⟨.inl ⟨xs, ys, rfl, rfl, h⟩⟩
theorem ZP.t {xs ys : List PV} {K : ItV → Prop} (h : K (.fix (zipL xs ys))) : ZP (.tup xs) (.tup ys) K := ⟨.inr ⟨xs, ys, rfl, rfl, h⟩⟩
theorem WI.zip (h : WE c a ρ st (fun x st1 => WE c b ρ st1 (fun y st2 => ZP x y fun z => KI z st2) X) X) : WI c (.zip a b) ρ st KI X :=
  ⟨WR.bnd (h.out.mono (fun x st1 h => WR.bnd (h.out.mono (fun y st2 h => by
    rcases h.out with ⟨xs, ys, e1, e2, h2⟩ | ⟨xs, ys, e1, e2, h2⟩ <;> subst e1 e2 <;> exact h2) fun _ _ _ h => h)) fun _ _ _ h => h)⟩
structure EN (x : PV) (K : ItV → Prop) : Prop where
  out : (∃ xs, x = .lst xs ∧ K (.fix (enumL xs))) ∨ ∃ xs, x = .tup xs ∧ K (.fix (enumL xs))
theorem EN.l {xs : List PV} {K : ItV → Prop} (h : K (.fix (enumL xs))) : EN (.lst xs) K := ⟨.inl ⟨xs, rfl, h⟩⟩
theorem EN.t {xs : List PV} {K : ItV → Prop} (h : K (.fix (enumL xs))) : EN (.tup xs) K := ⟨.inr ⟨xs, rfl, h⟩⟩
theorem WI.enum (h : WE c a ρ st (fun x st1 => EN x fun z => KI z st1) X) : WI c (.enum a) ρ st KI X :=
  ⟨WR.bnd (h.out.mono (fun x st1 h => by
    rcases h.out with ⟨xs, e1, h2⟩ | ⟨xs, e1, h2⟩ <;> subst e1 <;> exact h2) fun _ _ _ h => h)⟩
/-! ### statements -/
variable {t : Tg} {s : PM.S} {p q : Ss} {it : It}
theorem WS.asg (h : WE c e ρ st (fun x st1 => TG t x ρ fun ρ' => KF (.nx ρ') st1) X) : WS c (.asg t e) ρ st KF X :=
  ⟨WR.bnd (h.out.mono (fun x st1 h => by obtain ⟨ρ', e, h⟩ := h.out; rw [e]; exact h) fun _ _ _ h => h)⟩
theorem WS.augA {i : Nat} {x : Int} (hx : gv ρ i = some (.int x)) (h : WE c e ρ st (fun y st1 => IsI y fun j => TG (.n i) (.int (x + j)) ρ fun ρ' => KF (.nx ρ') st1) X) : WS c (.aug i .add e) ρ st KF X := ⟨by
  unfold exS
  rw [hx]
  exact WR.bnd (h.out.mono (fun x st1 h => by obtain ⟨j, ej, h2⟩ := h.out; subst ej; obtain ⟨ρ', e, h3⟩ := h2.out; cases e; exact h3) fun _ _ _ h => h)⟩
theorem WS.augS {i : Nat} {x : Int} (hx : gv ρ i = some (.int x)) (h : WE c e ρ st (fun y st1 => IsI y fun j => TG (.n i) (.int (x - j)) ρ fun ρ' => KF (.nx ρ') st1) X) : WS c (.aug i .sub e) ρ st KF X := ⟨by
  unfold exS
  rw [hx]
  exact WR.bnd (h.out.mono (fun x st1 h => by obtain ⟨j, ej, h2⟩ := h.out; subst ej; obtain ⟨ρ', e, h3⟩ := h2.out; cases e; exact h3) fun _ _ _ h => h)⟩
theorem WS.seti (h : WE c e ρ st (fun x st1 => WE c a ρ st1 (fun y st2 => WE c b ρ st2 (fun z st3 => GV (setV st3 y z x) fun st4 => KF (.nx ρ) st4) X) X) X) : WS c (.seti a b e) ρ st KF X :=
  ⟨WR.bnd (h.out.mono (fun x st1 h => WR.bnd (h.out.mono (fun y st2 h => WR.bnd (h.out.mono (fun z st3 h => by
    obtain ⟨st4, e, h⟩ := h.out
    rw [e]; exact h) fun _ _ _ h => h)) fun _ _ _ h => h)) fun _ _ _ h => h)⟩
theorem WS.ex (h : WE c e ρ st (fun _ st1 => KF (.nx ρ) st1) X) : WS c (.ex e) ρ st KF X := ⟨WR.bnd h.out⟩
theorem WS.ret (h : WE c e ρ st (fun x st1 => KF (.rt x) st1) X) : WS c (.ret e) ρ st KF X := ⟨WR.bnd h.out⟩
theorem WS.retn (h : KF (.rt .non) st) : WS c .retn ρ st KF X := ⟨h⟩
theorem WS.ite (h : WT c e ρ st (fun k st1 => BR k (WSS c p ρ st1 KF X) (WSS c q ρ st1 KF X)) X) : WS c (.ite e p q) ρ st KF X :=
  ⟨WR.bnd (h.out.mono (fun x st1 h => by
    cases x with
    | true => exact (h.t rfl).out
    | false => exact (h.f rfl).out) fun _ _ _ h => h)⟩
theorem WS.wh (h : WW c e p ρ st KF X) : WS c (.wh e p) ρ st KF X := ⟨h.out⟩
theorem WS.fo (h : WI c it ρ st (fun I st1 => WL c t p I ρ st1 KF X) X) : WS c (.fo t it p) ρ st KF X := ⟨WR.bnd (h.out.mono (fun x st1 h => h.out) fun _ _ _ h => h)⟩
theorem WS.brk (h : KF (.bk ρ) st) : WS c .brk ρ st KF X := ⟨h⟩
theorem WS.cnt (h : KF (.ct ρ) st) : WS c .cnt ρ st KF X := ⟨h⟩
theorem WS.pass (h : KF (.nx ρ) st) : WS c .pass ρ st KF X := ⟨h⟩
theorem WS.rais {k : Nat} (h : WE c e ρ st (fun x st1 => nor x = true ∧ X k x st1) X) : WS c (.rais k e) ρ st KF X :=
  ⟨WR.bnd (h.out.mono (fun x st1 h => by
    show WR (if nor x = true then _ else _) KF X
    rw [if_pos h.1]; exact h.2) fun _ _ _ h => h)⟩
theorem WS.tryc {i k err dst : Nat} (h : WE c e ρ st (fun v st1 => KF (.nx (ρ.set i (some v))) st1) (fun d' v st1 => BR (subE d' k) (KF (.nx ((ρ.set dst (some (.exc d' v))).set err none)) st1) (X d' v st1))) : WS c (.tryc i e k err dst) ρ st KF X := ⟨by
  unfold exS
  have h := h.out
  cases hr : (ev c e).v ρ st with
  | ok v st1 => rw [hr] at h; exact h
  | exc d' v st1 =>
    rw [hr] at h
    have h : BR (subE d' k) (KF (.nx ((ρ.set dst (some (.exc d' v))).set err none)) st1) (X d' v st1) := h
    show WR (if subE d' k = true then _ else _) KF X
    cases hs : subE d' k with
    | true => exact h.t hs
    | false => exact h.f hs
  | bad => rw [hr] at h; exact h.elim⟩
theorem WSS.nil (h : KF (.nx ρ) st) : WSS c .nil ρ st KF X := ⟨h⟩
theorem WSS.cons (h : WS c s ρ st (fun fl st1 => SQ fl (fun ρ' => WSS c p ρ' st1 KF X) (KF fl st1)) X) : WSS c (.cons s p) ρ st KF X :=
  ⟨WR.bnd (h.out.mono (fun fl st1 h => by
    cases fl with
    | nx ρ' => exact h.out.out
    | rt v => exact h.out
    | bk v => exact h.out
    | ct v => exact h.out) fun _ _ _ h => h)⟩
theorem WSS.cut {P : Env → Store → Prop} (h : WS c s ρ st (fun fl st1 => SQ fl (fun ρ' => P ρ' st1) (KF fl st1)) X) (h2 : ∀ ρ' st1, P ρ' st1 → WSS c p ρ' st1 KF X) : WSS c (.cons s p) ρ st KF X :=
  WSS.cons ⟨h.out.mono (fun fl st1 h => by
    cases fl with
    | nx ρ' => exact ⟨h2 _ _ h.out⟩
    | rt v => exact ⟨h.out⟩
    | bk v => exact ⟨h.out⟩
    | ct v => exact ⟨h.out⟩) fun _ _ _ h => h⟩
theorem WL.ix {xs : List PV} (Inv : Nat → Env → Store → Prop) (h0 : Inv 0 ρ st)
    (hs : ∀ k (hk : k < xs.length) ρ st, Inv k ρ st → TG t xs[k] ρ fun ρ1 => WSS c p ρ1 st (fun fl st2 => LP fl (fun ρ2 => Inv (k + 1) ρ2 st2) (fun ρ2 => KF (.nx ρ2) st2) (fun v => KF (.rt v) st2)) X)
    (he : ∀ ρ st, Inv xs.length ρ st → KF (.nx ρ) st) : WL c t p (.fix xs) ρ st KF X := by
  refine ⟨?_⟩
  suffices h : ∀ (ys : List PV) (k : Nat) (ρ : Env) (st : Store), xs.drop k = ys → k ≤ xs.length → Inv k ρ st → WR (forL (foF c t p) ys ρ st) KF X from h xs 0 ρ st rfl (Nat.zero_le _) h0
  intro ys
  induction ys with
  | nil =>
    intro k ρ st hk hl hI
    have : k = xs.length := by have := congrArg List.length hk; rw [List.length_drop] at this; simp at this; omega
    subst this
    exact he ρ st hI
  | cons y ys ih =>
    intro k ρ st hk hl hI
    have hlt : k < xs.length := by have := congrArg List.length hk; rw [List.length_drop] at this; simp at this; omega
    have e := List.drop_eq_getElem_cons hlt
    rw [hk] at e
    injection e with e1 e2
    obtain ⟨ρ1, ea, h⟩ := (hs k hlt ρ st hI).out
    rw [← e1] at ea
    refine WR.bnd ?_
    unfold foF
    rw [ea]
    refine h.out.mono (fun fl st2 h => ?_) fun _ _ _ h => h
    cases fl with
    | nx ρ2 => exact ih (k + 1) ρ2 st2 e2.symm (by omega) h.out
    | ct ρ2 => exact ih (k + 1) ρ2 st2 e2.symm (by omega) h.out
    | bk ρ2 => exact h.out
    | rt v => exact h.out
theorem WW.inv (Inv : Nat → Env → Store → Prop) {m : Nat} (hm : m < c.W) (h0 : Inv m ρ st)
    (hs : ∀ m ρ st, Inv m ρ st → WT c e ρ st (fun k st1 => BR k (WSS c p ρ st1 (fun fl st2 => LP fl (fun ρ2 => ∃ m', m' < m ∧ Inv m' ρ2 st2) (fun ρ2 => KF (.nx ρ2) st2) (fun v => KF (.rt v) st2)) X) (KF (.nx ρ) st1)) X) : WW c e p ρ st KF X := by
  refine ⟨?_⟩
  suffices h : ∀ (W m : Nat) (ρ : Env) (st : Store), m < W → Inv m ρ st → WR (whl (fun ρ st => (ev c e).t ρ st) (fun ρ st => exSs c p ρ st) W ρ st) KF X from h c.W m ρ st hm h0
  intro W
  induction W with
  | zero => intro m ρ st h; omega
  | succ W ih =>
    intro m ρ st hW hI
    refine WR.bnd ((hs m ρ st hI).out.mono (fun k st1 h => ?_) fun _ _ _ h => h)
    cases k with
    | false => exact h.f rfl
    | true =>
      refine WR.bnd ((h.t rfl).out.mono (fun fl st2 h => ?_) fun _ _ _ h => h)
      cases fl with
      | nx ρ2 => obtain ⟨m', hm', h⟩ := h.out; exact ih m' ρ2 st2 (by omega) h
      | ct ρ2 => obtain ⟨m', hm', h⟩ := h.out; exact ih m' ρ2 st2 (by omega) h
      | bk ρ2 => exact h.out
      | rt v => exact h.out
/-! ### comprehensions -/
variable {cnd : Option E}
theorem WE.cm (h : WI c it ρ st (fun I st1 => CM c t cnd e ρ I st1 K) X) : WE c (.cm t it cnd e) ρ st K X :=
  ⟨by
    rw [ev_cm]
    unfold cmM
    rw [bnd_assoc]
    refine WR.bnd (h.out.mono (fun I st1 h => ?_) fun _ _ _ h => h)
    cases I <;> exact h.out.mono (fun _ _ h => h) (fun _ _ _ h => h.elim)⟩
theorem CE.al {x : PV} {KC : Option PV → Store → Prop} (h : TG t x ρ fun ρ' => WE { c with Φ := fun _ => c.Φ ρ } e ρ' st (fun y st1 => KC (some y) st1) NX) : CE c t none e ρ x st KC := by
  obtain ⟨ρ', e1, h⟩ := h.out
  refine ⟨?_⟩
  unfold cmF
  rw [e1]
  exact WR.bnd (α := Bool) (show WR _ _ _ from WR.bnd (WR.nox h.out))
theorem CE.iff' {x : PV} {KC : Option PV → Store → Prop} (h : TG t x ρ fun ρ' => WT { c with Φ := fun _ => c.Φ ρ } d ρ' st (fun k st1 => BR k (WE { c with Φ := fun _ => c.Φ ρ } e ρ' st1 (fun y st2 => KC (some y) st2) NX) (KC none st1)) NX) : CE c t (some d) e ρ x st KC := by
  obtain ⟨ρ', e1, h⟩ := h.out
  refine ⟨?_⟩
  unfold cmF
  rw [e1]
  refine WR.bnd (WR.nox (h.out.mono (fun k st1 h => ?_) fun _ _ _ h => h))
  cases k with
  | false => exact h.f rfl
  | true => exact WR.bnd (WR.nox (h.t rfl).out)
theorem CM.inv {xs : List PV} (Inv : Nat → List PV → Store → Prop) (h0 : Inv 0 [] st)
    (hs : ∀ k (hk : k < xs.length) ys st, Inv k ys st → CE c t cnd e ρ xs[k] st fun o st' => Inv (k + 1) (ys ++ o.toList) st')
    (he : ∀ ys st, Inv xs.length ys st → K (.lst ys) st) : CM c t cnd e ρ (.fix xs) st K := by
  refine ⟨WR.bnd ?_⟩
  suffices h : ∀ (zs : List PV) (k : Nat) (ys : List PV) (st : Store), xs.drop k = zs → k ≤ xs.length → Inv k ys st → WR (loopC (cmF c t cnd e ρ) zs st) (fun r st' => K (.lst (ys ++ r)) st') NX from h xs 0 [] st rfl (Nat.zero_le _) h0
  intro zs
  induction zs with
  | nil =>
    intro k ys st hk hl hI
    have : k = xs.length := by have := congrArg List.length hk; rw [List.length_drop] at this; simp at this; omega
    subst this
    show K (.lst (ys ++ [])) st
    rw [List.append_nil]
    exact he ys st hI
  | cons z zs ih =>
    intro k ys st hk hl hI
    have hlt : k < xs.length := by have := congrArg List.length hk; rw [List.length_drop] at this; simp at this; omega
    have e := List.drop_eq_getElem_cons hlt
    rw [hk] at e
    injection e with e1 e2
    have h := (hs k hlt ys st hI).out
    rw [← e1] at h
    refine WR.bnd (h.mono (fun o st2 h => WR.bnd ((ih (k + 1) _ st2 e2.symm (by omega) h).mono (fun r st3 h => ?_) fun _ _ _ h => h)) fun _ _ _ h => h)
    cases o with
    | none =>
      show K (.lst (ys ++ r)) st3
      simpa using h
    | some y =>
      show K (.lst (ys ++ (y :: r))) st3
      simpa using h
theorem CM.pure {γ : Type} {xs : List PV} (l : List γ) (f : γ → PV) (g : γ → Option PV) (hx : xs = l.map f)
    (hs : ∀ a ∈ l, CE c t cnd e ρ (f a) st fun o st' => o = g a ∧ st' = st) (he : K (.lst (l.filterMap g)) st) : CM c t cnd e ρ (.fix xs) st K := by
  subst hx
  refine CM.inv (fun k ys st' => ys = (l.take k).filterMap g ∧ st' = st) ⟨by simp, rfl⟩ (fun k hk ys st' ⟨h1, h2⟩ => ?_) fun ys st' ⟨h1, h2⟩ => ?_
  · subst h1 h2
    have hk' : k < l.length := by simpa using hk
    rw [List.getElem_map]
    have h := (hs l[k] (List.getElem_mem hk')).out
    refine ⟨h.mono (fun o st2 ⟨h1, h2⟩ => ⟨?_, h2⟩) fun _ _ _ h => h⟩
    rw [List.take_succ, List.getElem?_eq_getElem hk', List.filterMap_append, h1]
    show _ = _ ++ List.filterMap g [l[k]]
    cases e : g l[k] with
    | none => simp [e]
    | some y => simp [e]
  · subst h1 h2
    rw [List.length_map, List.take_length]; exact he
theorem CM.map {γ : Type} {xs : List PV} (l : List γ) (f : γ → PV) (g : γ → PV) (hx : xs = l.map f)
    (hs : ∀ a ∈ l, CE c t cnd e ρ (f a) st fun o st' => o = some (g a) ∧ st' = st) (he : K (.lst (l.map g)) st) : CM c t cnd e ρ (.fix xs) st K :=
  CM.pure l f (fun a => some (g a)) hx hs (by
    have : l.filterMap (fun a => some (g a)) = l.map g := by simp
    rw [this]; exact he)
end
/-! ### leaving a frame, calls -/
theorem FK.rt {ret : Bool} {lv : Nat} {v : PV} {st : Store} {K : PV → Store → Prop} {n : Nat} (hn : nor v = true) (k : K v (st.take n)) : FK ret lv n (.rt v) st K := ⟨by
  have e : (if cls n lv (frz st n v) = true then (.ok (frz st n v) (st.take n) : R PV) else .bad) = .ok v (st.take n) := by
    rw [nor_frz hn, nor_cls hn, if_pos rfl]
  have e2 : fin ret lv n (flV (.ok (.rt v) st)) = .ok v (st.take n) := by
    cases ret with
    | false => exact e
    | true =>
      cases v with
      | ref m => simp [nor] at hn
      | _ => exact e
  rw [e2]; exact k⟩
theorem FK.rt0 {ret : Bool} {lv : Nat} {v : PV} {st : Store} {K : PV → Store → Prop} (hn : nor v = true) (k : K v st) : FK ret lv st.length (.rt v) st K := FK.rt hn (by rw [List.take_length]; exact k)
theorem FK.rt1 {ret : Bool} {lv : Nat} {v : PV} {st ys : Store} {K : PV → Store → Prop} (hn : nor v = true) (k : K v st) : FK ret lv st.length (.rt v) (st ++ ys) K := FK.rt hn (by rw [List.take_left']; exact k; rfl)
theorem FK.rtl {ret : Bool} {lv : Nat} {v : PV} {st : Store} {K : PV → Store → Prop} {n : Nat} (hl : st.length = n) (hn : nor v = true) (k : K v st) : FK ret lv n (.rt v) st K := FK.rt hn (by rw [← hl, List.take_length]; exact k)
theorem FK.nx {ret : Bool} {lv : Nat} {ρ : Env} {st : Store} {K : PV → Store → Prop} {n : Nat} (k : K .non (st.take n)) : FK ret lv n (.nx ρ) st K := ⟨(FK.rt (ret := ret) (lv := lv) (v := .non) (st := st) (n := n) (K := K) rfl k).out⟩
theorem FK.nx0 {ret : Bool} {lv : Nat} {ρ : Env} {st : Store} {K : PV → Store → Prop} (k : K .non st) : FK ret lv st.length (.nx ρ) st K := FK.nx (by rw [List.take_length]; exact k)
/-- a fresh list handed back -/
theorem FK.ref {lv : Nat} {st : Store} {K : PV → Store → Prop} {n m : Nat} {xs : List PV} (hm : n ≤ m) (h : st[m]? = some (.lst xs)) (hn : nors xs = true) (k : K (.ref n) (st.take n ++ [.lst xs])) : FK true lv n (.rt (.ref m)) st K := ⟨by
  have e2 : fin true lv n (flV (.ok (.rt (PV.ref m)) st)) = .ok (PV.ref n) (st.take n ++ [.lst xs]) := by
    show (if m < n then (R.ok (PV.ref m) (st.take n) : R PV) else match st[m]? with | some ob => (if obC n lv ob then .ok (PV.ref n) (st.take n ++ [ob]) else .bad) | none => .bad) = _
    rw [if_neg (by omega), h]
    have : obC n lv (.lst xs) = true := nors_cls hn
    dsimp only
    rw [if_pos this]
  rw [e2]; exact k⟩
theorem WR.call {G : SI} {W d i : Nat} {fi : FnI} {b : Ss} {args : List PV} {Φ : List Env} {st : Store} {K : PV → Store → Prop} {X : Nat → PV → Store → Prop} (hfi : G.fns[i]? = some fi) (hb : bodyOf G fi = some b) (hl : args.length = fi.ps.length)
    (h : WSS ⟨(callB G W d).1, (callB G W d).2, W, fun ρ => Φ ++ [ρ], Φ.length, st.length⟩ b (entry fi.N.length args) st (fun fl st' => FK fi.ret Φ.length st.length fl st' K) (fun k v st' => nor v = true ∧ X k v (st'.take st.length))) :
    WR ((callB G W (d + 1)).1 i args Φ st) K X := by
  rw [call_eq hfi hb hl]
  have h := h.out
  cases hr : exSs ⟨(callB G W d).1, (callB G W d).2, W, fun ρ => Φ ++ [ρ], Φ.length, st.length⟩ b (entry fi.N.length args) st with
  | ok fl st1 =>
    rw [hr] at h
    have h : FK fi.ret Φ.length st.length fl st1 K := h
    exact h.out.mono (fun _ _ h => h) fun _ _ _ h => h.elim
  | exc k v st1 =>
    rw [hr] at h
    have h : nor v = true ∧ X k v (st1.take st.length) := h
    show WR (if nor v = true then PM.R.exc k v (st1.take st.length) else .bad) K X
    rw [if_pos h.1]; exact h.2
  | bad => rw [hr] at h; exact h.elim
theorem WR.lam {G : SI} {W d : Nat} {l : LamI} {e : E} {xs : List PV} {ρc : Env} {Φ : List Env} {st : Store} {K : PV → Store → Prop} {X : Nat → PV → Store → Prop} (hb : bodyL G l = some e) (hl : xs.length = (lamPs l).length)
    (h : WE ⟨(callB G W d).1, (callB G W d).2, W, fun _ => Φ, Φ.length, st.length⟩ e (xs.map some ++ caps l ρc) st (fun v st' => FK false Φ.length st.length (.rt v) st' K) (fun k v st' => nor v = true ∧ X k v (st'.take st.length))) :
    WR ((callB G W (d + 1)).2 l xs ρc Φ st) K X := by
  show WR (lamRun G W _ _ l xs ρc Φ st) K X
  unfold lamRun
  rw [hb]
  dsimp only
  rw [if_pos hl]
  have h := h.out
  cases hr : (ev ⟨(callB G W d).1, (callB G W d).2, W, fun _ => Φ, Φ.length, st.length⟩ e).v (xs.map some ++ caps l ρc) st with
  | ok v st1 =>
    rw [hr] at h
    have h : FK false Φ.length st.length (.rt v) st1 K := h
    exact h.out.mono (fun _ _ h => h) fun _ _ _ h => h.elim
  | exc k v st1 =>
    rw [hr] at h
    have h : nor v = true ∧ X k v (st1.take st.length) := h
    show WR (if nor v = true then PM.R.exc k v (st1.take st.length) else .bad) K X
    rw [if_pos h.1]; exact h.2
  | bad => rw [hr] at h; exact h.elim
end PM
set_option Elab.async false
set_option linter.all false
set_option maxRecDepth 100000
set_option maxHeartbeats 4000000
/-! PM38: values: rules of the operators and built-ins, what is shown. -/
namespace PM
open PySem L2
/-! ### sizes -/
def SB (n : Nat) (i : Int) : Prop := i.natAbs < 2 ^ n
theorem SB.sz {n : Nat} {i : Int} (h : SB n i) (hn : n ≤ 5000) : sz i = true := by
  unfold PM.sz
  exact decide_eq_true (Nat.lt_of_lt_of_le h (Nat.pow_le_pow_right (by decide) hn))
theorem SB.le {i : Int} (h1 : -(2 ^ 62) < i) (h2 : i < 2 ^ 62) : SB 62 i := by unfold SB; omega
theorem SB.mul {m n : Nat} {i j : Int} (h1 : SB m i) (h2 : SB n j) : SB (m + n) (i * j) := by
  unfold SB at *
  rw [Int.natAbs_mul, Nat.pow_add]
  exact Nat.mul_lt_mul_of_lt_of_lt h1 h2
theorem SB.add {m n : Nat} {i j : Int} (h1 : SB m i) (h2 : SB n j) : SB (max m n + 1) (i + j) := by
  unfold SB at *
  have a : 2 ^ m ≤ 2 ^ max m n := Nat.pow_le_pow_right (by decide) (Nat.le_max_left _ _)
  have b : 2 ^ n ≤ 2 ^ max m n := Nat.pow_le_pow_right (by decide) (Nat.le_max_right _ _)
  rw [Nat.pow_succ]; omega
theorem SB.sub {m n : Nat} {i j : Int} (h1 : SB m i) (h2 : SB n j) : SB (max m n + 1) (i - j) := by
  unfold SB at *
  have a : 2 ^ m ≤ 2 ^ max m n := Nat.pow_le_pow_right (by decide) (Nat.le_max_left _ _)
  have b : 2 ^ n ≤ 2 ^ max m n := Nat.pow_le_pow_right (by decide) (Nat.le_max_right _ _)
  rw [Nat.pow_succ]; omega
theorem SB.neg {n : Nat} {i : Int} (h : SB n i) : SB n (-i) := by unfold SB at *; omega
theorem SB.mono {m n : Nat} {i : Int} (h : SB m i) (hn : m ≤ n) : SB n i := Nat.lt_of_lt_of_le h (Nat.pow_le_pow_right (by decide) hn)
theorem SB.ediv {n : Nat} {i j : Int} (h : SB n i) : SB n (i / j) := by
  unfold SB at *
  exact Nat.lt_of_le_of_lt (Int.natAbs_ediv_le_natAbs i j) h
theorem SB.emod {n : Nat} {i j : Int} (h0 : 0 < j) (h : SB n j) : SB n (i % j) := by
  unfold SB at *
  have := Int.emod_nonneg i (b := j) (by omega)
  have := Int.emod_lt_of_pos i h0
  omega
/-! ### operators -/
section
variable {K : PV → Prop} {KB : Bool → Prop} {i j : Int} {xs ys : List PV} {a b : Str}
theorem GV.addI (k : K (.int (i + j))) : GV (binV .add (.int i) (.int j)) K := ⟨_, rfl, k⟩
theorem GV.subI (k : K (.int (i - j))) : GV (binV .sub (.int i) (.int j)) K := ⟨_, rfl, k⟩
theorem GV.mulI (hi : sz i = true) (hj : sz j = true) (k : K (.int (i * j))) : GV (binV .mul (.int i) (.int j)) K := ⟨_, by
  show (if (sz i && sz j) = true then some (PV.int (i * j)) else none) = _
  rw [hi, hj]; rfl, k⟩
theorem GV.fdivI (hj : 0 < j) (hs : sz j = true) (k : K (.int (i / j))) : GV (binV .fdiv (.int i) (.int j)) K := ⟨_, by
  show (if (decide (0 < j) && sz j) = true then some (PV.int (i / j)) else none) = _
  rw [decide_eq_true hj, hs]; rfl, k⟩
theorem GV.modI (hj : 0 < j) (k : K (.int (i % j))) : GV (binV .mod (.int i) (.int j)) K := ⟨_, by
  show (if 0 < j then some (PV.int (i % j)) else none) = _
  rw [if_pos hj], k⟩
theorem GV.powI (hj : 0 ≤ j) (hs : ((i.natAbs.log2 : Int) + 1) * j ≤ 2 ^ 27) (k : K (.int (i ^ j.toNat))) : GV (binV .pow (.int i) (.int j)) K := ⟨_, by
  show (if 0 ≤ j ∧ ((i.natAbs.log2 : Int) + 1) * j ≤ 2 ^ 27 then some (PV.int (i ^ j.toNat)) else none) = _
  rw [if_pos ⟨hj, hs⟩], k⟩
theorem GV.addL (h : xs.length + ys.length ≤ SZ) (k : K (.lst (xs ++ ys))) : GV (binV .add (.lst xs) (.lst ys)) K := ⟨_, by
  show (if xs.length + ys.length ≤ SZ then some (PV.lst (xs ++ ys)) else none) = _
  rw [if_pos h], k⟩
theorem GV.addT (h : xs.length + ys.length ≤ SZ) (k : K (.tup (xs ++ ys))) : GV (binV .add (.tup xs) (.tup ys)) K := ⟨_, by
  show (if xs.length + ys.length ≤ SZ then some (PV.tup (xs ++ ys)) else none) = _
  rw [if_pos h], k⟩
theorem GV.ltI (k : KB (decide (i < j))) : GV (cmpV .lt (.int i) (.int j)) KB := ⟨_, rfl, k⟩
theorem GV.leI (k : KB (decide (i ≤ j))) : GV (cmpV .le (.int i) (.int j)) KB := ⟨_, rfl, k⟩
theorem GV.gtI (k : KB (decide (j < i))) : GV (cmpV .gt (.int i) (.int j)) KB := ⟨_, rfl, k⟩
theorem GV.geI (k : KB (decide (j ≤ i))) : GV (cmpV .ge (.int i) (.int j)) KB := ⟨_, rfl, k⟩
theorem eqD_int : eqD (.int i) (.int j) = some (decide (i = j)) := by
  simp only [eqD, toD, layD, PyData.plain, PyData.depth, PyData.eqv]
  show some (i == j) = _
  congr 1
theorem eqD_str : eqD (.str a) (.str b) = some (decide (a = b)) := by
  simp only [eqD, toD, layD, PyData.plain, PyData.depth, PyData.eqv]
  show some (a == b) = _
  congr 1
theorem eqD_bl {a b : Bool} : eqD (.bl a) (.bl b) = some (decide (a = b)) := by
  simp [eqD, toD, layD, PyData.plain, PyData.depth, PyData.eqv]
  cases a <;> cases b <;> rfl
theorem GV.eqI (k : KB (decide (i = j))) : GV (cmpV .eq (.int i) (.int j)) KB := ⟨_, eqD_int, k⟩
theorem GV.neI (k : KB (!decide (i = j))) : GV (cmpV .ne (.int i) (.int j)) KB := ⟨_, by
  show (eqD (.int i) (.int j)).map (!·) = _
  rw [eqD_int]; rfl, k⟩
theorem GV.eqS (k : KB (decide (a = b))) : GV (cmpV .eq (.str a) (.str b)) KB := ⟨_, eqD_str, k⟩
theorem GV.neS (k : KB (!decide (a = b))) : GV (cmpV .ne (.str a) (.str b)) KB := ⟨_, by
  show (eqD (.str a) (.str b)).map (!·) = _
  rw [eqD_str]; rfl, k⟩
theorem GV.eqSS (k : KB true) : GV (cmpV .eq (.str a) (.str a)) KB := GV.eqS (by simpa using k)
theorem GV.neSS (k : KB false) : GV (cmpV .ne (.str a) (.str a)) KB := GV.neS (by simpa using k)
theorem GV.isN {x : PV} (k : KB (isNon x)) : GV (cmpV .isN x .non) KB := ⟨_, rfl, k⟩
theorem GV.notN {x : PV} (k : KB (!isNon x)) : GV (cmpV .notN x .non) KB := ⟨_, rfl, k⟩
/-! truth -/
theorem GV.trB {c : Bool} (k : KB c) : GV (truV (.bl c)) KB := ⟨_, rfl, k⟩
theorem GV.trI (k : KB (!decide (i = 0))) : GV (truV (.int i)) KB := ⟨_, rfl, by
  have : (i != 0) = !decide (i = 0) := by simp [bne]; rfl
  rw [this]; exact k⟩
theorem GV.trL (k : KB (!xs.isEmpty)) : GV (truV (.lst xs)) KB := ⟨_, rfl, k⟩
theorem GV.trT (k : KB (!xs.isEmpty)) : GV (truV (.tup xs)) KB := ⟨_, rfl, k⟩
theorem GV.trN (k : KB false) : GV (truV .non) KB := ⟨_, rfl, k⟩
/-! built-ins -/
theorem GV.lenT (k : K (.int xs.length)) : GV (biV .len [.tup xs]) K := ⟨_, rfl, k⟩
theorem GV.lenL (k : K (.int xs.length)) : GV (biV .len [.lst xs]) K := ⟨_, rfl, k⟩
theorem GV.lenS {ns : List Int} (k : K (.int ns.length)) : GV (biV .len [.scr ns]) K := ⟨_, rfl, k⟩
theorem GV.absI (k : K (.int (i.natAbs : Int))) : GV (biV .abs [.int i]) K := ⟨_, rfl, by
  have : (if i < 0 then -i else i) = (i.natAbs : Int) := by split <;> omega
  rw [this]; exact k⟩
theorem GV.max2I (k : K (.int (max i j))) : GV (biV .max2 [.int i, .int j]) K := ⟨_, rfl, by
  have : (if j > i then j else i) = max i j := by split <;> omega
  rw [this]; exact k⟩
theorem GV.min2I (k : K (.int (min i j))) : GV (biV .min2 [.int i, .int j]) K := ⟨_, rfl, by
  have : (if j < i then j else i) = min i j := by split <;> omega
  rw [this]; exact k⟩
theorem GV.intI (k : K (.int i)) : GV (biV .int1 [.int i]) K := ⟨_, rfl, k⟩
theorem GV.intB {c : Bool} (k : K (.int (if c then 1 else 0))) : GV (biV .int1 [.bl c]) K := ⟨_, rfl, k⟩
theorem GV.tupL (k : K (.tup xs)) : GV (biV .tuple [.lst xs]) K := ⟨_, rfl, k⟩
theorem GV.tupT (k : K (.tup xs)) : GV (biV .tuple [.tup xs]) K := ⟨_, rfl, k⟩
theorem allB_map {γ : Type} (l : List γ) (p : γ → Bool) : allB (l.map fun x => .bl (p x)) = some (l.map p) := by
  induction l with
  | nil => rfl
  | cons x l ih => simp [allB, ih]
theorem allI_map (l : List Int) : allI (l.map .int) = some l := by
  induction l with
  | nil => rfl
  | cons x l ih => simp [allI, ih]
theorem allI_map2 {γ : Type} (l : List γ) (p : γ → Int) : allI (l.map fun x => .int (p x)) = some (l.map p) := by
  induction l with
  | nil => rfl
  | cons x l ih => simp [allI, ih]
theorem GV.all {γ : Type} {l : List γ} {p : γ → Bool} (k : K (.bl (l.all p))) : GV (biV .all [.lst (l.map fun x => .bl (p x))]) K := ⟨.bl (l.all p), by
  show (allB _).map _ = _
  rw [allB_map]; simp [List.all_map], k⟩
theorem GV.any {γ : Type} {l : List γ} {p : γ → Bool} (k : K (.bl (l.any p))) : GV (biV .any [.lst (l.map fun x => .bl (p x))]) K := ⟨.bl (l.any p), by
  show (allB _).map _ = _
  rw [allB_map]; simp [List.any_map], k⟩
theorem GV.sumT {l : List Int} (k : K (.int l.sum)) : GV (biV .sum [.tup (l.map .int)]) K := ⟨.int l.sum, by
  show ((seqV _).bind allI).map _ = _
  show (allI _).map _ = _
  rw [allI_map]; rfl, k⟩
theorem GV.sumL {l : List Int} (k : K (.int l.sum)) : GV (biV .sum [.lst (l.map .int)]) K := ⟨.int l.sum, by
  show (allI _).map _ = _
  rw [allI_map]; rfl, k⟩
/-! ### what is shown -/
structure Shw (m n : Nat) (x : PV) : Prop where
  out : ∃ d, toD x = some d ∧ d.showable = true ∧ d.hasDict = false ∧ d.depth ≤ m ∧ d.shown.length ≤ n ∧ d.plain = true
def shwS (x : PV) : Str := ((toD x).map PyData.shown).getD Str.empty
theorem toDd_none {x : PV} {d : PyData} (h : toD x = some d) : toDd x = none := by
  cases x <;> first | rfl | cases h
theorem Shw.repr {m n : Nat} {x : PV} (h : Shw m n x) (hm : m ≤ 64) (hn : n ≤ SZ) : biV .repr [x] = some (.str (shwS x)) := by
  obtain ⟨d, e, h1, h2, h3, h4, _⟩ := h.out
  show (match toDd x with | some d => if okShowD d then some (PV.str d.shown) else none | none => match toD x with | some d => if okShow d then some (.str d.shown) else none | none => mkdS x) = _
  unfold shwS
  rw [toDd_none e, e]
  show (if okShow d = true then some (PV.str d.shown) else none) = _
  have : okShow d = true := by
    unfold okShow
    rw [h1, h2, decide_eq_true (Nat.le_trans h3 hm), decide_eq_true (Nat.le_trans h4 hn)]; rfl
  rw [if_pos this]; rfl
theorem GV.repr {m n : Nat} {x : PV} (h : Shw m n x) (hm : m ≤ 64) (hn : n ≤ SZ) (k : K (.str (shwS x))) : GV (biV .repr [x]) K := ⟨_, h.repr hm hn, k⟩
theorem Shw.mono {m n m' n' : Nat} {x : PV} (h : Shw m n x) (hm : m ≤ m') (hn : n ≤ n') : Shw m' n' x := by
  obtain ⟨d, e, h1, h2, h3, h4, h5⟩ := h.out
  exact ⟨d, e, h1, h2, Nat.le_trans h3 hm, Nat.le_trans h4 hn, h5⟩
theorem Shw.int {n : Nat} {i : Int} (h : SB n i) (h0 : 0 < n) (hn : n < 1920) : Shw 0 (n + 1) (.int i) := by
  have hl : i.natAbs.log2 < n := by
    by_cases hz : i.natAbs = 0
    · rw [hz]; simpa using h0
    · exact (Nat.log2_lt hz).mpr h
  refine ⟨.int i, rfl, ?_, rfl, Nat.le_refl _, ?_, rfl⟩
  · simp only [PyData.showable]; exact decide_eq_true (by omega)
  · simp only [PyData.shown]
    have h1 : (toString i).length ≤ n + 1 := int_text_length_le h0 hl
    have h2 : ((toString i : String) : Str).length = (toString i).length := ofString_length _
    omega
theorem Shw.non : Shw 0 4 .non := ⟨.none, rfl, rfl, rfl, Nat.le_refl _, by decide, rfl⟩
theorem Shw.bl {c : Bool} : Shw 0 5 (.bl c) := ⟨.bool c, rfl, rfl, rfl, Nat.le_refl _, by cases c <;> decide, rfl⟩
theorem Shw.str {s : Str} (h : ∀ c ∈ s.cps.toList, c < 16 ^ 8) : Shw 0 (10 * s.length + 2) (.str s) := ⟨.str s, rfl, rfl, rfl, Nat.le_refl _, StrLaws.reprText_len s h, rfl⟩
theorem listText_len (ts : List Str) : (listText ts).length ≤ piled ts + 2 := by
  cases ts with
  | nil => decide
  | cons t r =>
    have h := textFrom_length_pos r 1 (("[" : Str) ++ (if (0 : Nat) > 0 then ", " else "" : String) ++ t) (Nat.succ_pos 0)
    have e : ((("[" : Str) ++ (if (0 : Nat) > 0 then ", " else "" : String) ++ t)).length = 1 + t.length := by
      rw [strLen_append, strLen_append]; rfl
    have hX : (listText (t :: r)).length = (textFrom 0 "[" (t :: r)).length + 1 := by
      show (textFrom 0 "[" (t :: r) ++ "]").length = _
      rw [strLen_append]; rfl
    have hY : (textFrom 0 "[" (t :: r)).length = (textFrom 1 (("[" : Str) ++ (if (0 : Nat) > 0 then ", " else "" : String) ++ t) r).length := rfl
    rw [hX, hY, h, e, piled_cons]; omega
theorem shws {m n : Nat} : ∀ {xs : List PV}, (∀ x ∈ xs, Shw m n x) → ∃ ds, toDs xs = some ds ∧ PyData.showableAll ds = true ∧ PyData.hasDictAll ds = false ∧ PyData.depthAll ds ≤ m ∧ piled (PyData.shownAll ds) ≤ xs.length * (n + 2) ∧ PyData.plainAll ds = true
  | [], _ => ⟨[], rfl, rfl, rfl, Nat.zero_le _, Nat.zero_le _, rfl⟩
  | x :: xs, h => by
    obtain ⟨d, e, h1, h2, h3, h4, h5⟩ := (h x (List.mem_cons_self ..)).out
    obtain ⟨ds, e', g1, g2, g3, g4, g5⟩ := shws (m := m) (n := n) (xs := xs) fun y hy => h y (List.mem_cons_of_mem _ hy)
    refine ⟨d :: ds, by simp [toDs, e, e'], by simp [PyData.showableAll, h1, g1], by simp [PyData.hasDictAll, h2, g2], ?_, ?_, by simp [PyData.plainAll, h5, g5]⟩
    · show max d.depth (PyData.depthAll ds) ≤ m
      omega
    · simp only [PyData.shownAll]
      rw [piled_cons, List.length_cons, Nat.add_mul]; omega
theorem Shw.tup {m n : Nat} (h : ∀ x ∈ xs, Shw m n x) : Shw (m + 1) (xs.length * (n + 2) + 2) (.tup xs) := by
  obtain ⟨ds, e, h1, h2, h3, h4, h5⟩ := shws h
  refine ⟨.tuple ds, by simp [toD, e], by simpa [PyData.showable] using h1, by simpa [PyData.hasDict] using h2, ?_, ?_, by simpa [PyData.plain] using h5⟩
  · show PyData.depthAll ds + 1 ≤ m + 1
    omega
  · simp only [PyData.shown]
    have := fmt_text (PyData.shownAll ds)
    omega
theorem Shw.lst {m n : Nat} (h : ∀ x ∈ xs, Shw m n x) : Shw (m + 1) (xs.length * (n + 2) + 2) (.lst xs) := by
  obtain ⟨ds, e, h1, h2, h3, h4, h5⟩ := shws h
  refine ⟨.list ds, by simp [toD, e], by simpa [PyData.showable] using h1, by simpa [PyData.hasDict] using h2, ?_, ?_, by simpa [PyData.plain] using h5⟩
  · show PyData.depthAll ds + 1 ≤ m + 1
    omega
  · simp only [PyData.shown]
    have := listText_len (PyData.shownAll ds)
    omega
theorem eqD_same {m n : Nat} {x : PV} (h : Shw m n x) (hm : m ≤ 64) : eqD x x = some true := by
  obtain ⟨d, e, h1, h2, h3, h4, h5⟩ := h.out
  have : layD d = true := by unfold layD; rw [h5, decide_eq_true (Nat.le_trans h3 hm)]; rfl
  unfold eqD
  rw [e]
  simp [this, SeqAt.eqv_refl_plain d h5]
end
/-! ### lists that change -/
theorem getL_ref {st : Store} {n : Nat} {xs : List PV} (h : st[n]? = some (.lst xs)) : getL st (.ref n) = some (n, xs) := by
  show (match st[n]? with | some (.lst xs) => some (n, xs) | _ => none) = _
  rw [h]
theorem view_ref {st : Store} {n : Nat} {xs : List PV} (h : st[n]? = some (.lst xs)) : view st (.ref n) = .lst xs := by
  show (match st[n]? with | some (.lst xs) => PV.lst xs | some (.dct ks vs) => .dct ks vs | none => .ref n) = _
  rw [h]
theorem GV.seti {st : Store} {n j : Nat} {i : Int} {xs : List PV} {v : PV} {K : Store → Prop} (h : st[n]? = some (.lst xs)) (hv : nor v = true) (hj : ixN xs.length i = some j) (k : K (st.set n (.lst (xs.set j v)))) : GV (setV st (.ref n) (.int i) v) K := ⟨_, by
  show ((getL st (.ref n)).bind fun p => if nor v then (ixN p.2.length i).map fun j => st.set p.1 (.lst (p.2.set j v)) else none) = _
  rw [getL_ref h]
  show (if nor v then (ixN xs.length i).map fun j => st.set n (.lst (xs.set j v)) else none) = _
  rw [if_pos hv, hj]; rfl, k⟩
theorem GV.okO {st : Store} {n : Nat} {xs : List PV} {m : Mt} {K : Unit → Prop} (hm : m ≠ .upper) (h : st[n]? = some (.lst xs)) (k : K ()) : GV (okO m st (.ref n)) K := ⟨(), by
  unfold PM.okO
  rw [view_ref h]
  cases m <;> first | rfl | exact absurd rfl hm, k⟩
theorem GV.app {nb : Nat} {st : Store} {n : Nat} {xs : List PV} {y : PV} {K : PV × Store → Prop} (h : st[n]? = some (.lst xs)) (hy : (nor y || (decide (nb ≤ n) && nrf y)) = true) (hl : xs.length < SZ) (k : K (.non, st.set n (.lst (xs ++ [y])))) : GV (mtV nb .append st (.ref n) [y]) K := ⟨_, by
  show ((getL st (.ref n)).bind fun p => if (nor y || (decide (nb ≤ p.1) && nrf y)) && decide (p.2.length < SZ) then some (PV.non, st.set p.1 (.lst (p.2 ++ [y]))) else none) = _
  rw [getL_ref h]
  show (if ((nor y || (decide (nb ≤ n) && nrf y)) && decide (xs.length < SZ)) = true then _ else _) = _
  rw [hy, decide_eq_true hl]; rfl, k⟩
end PM
set_option Elab.async false
set_option linter.all false
set_option maxRecDepth 100000
set_option maxHeartbeats 4000000
/-! PM39: the lambdas of a body; a body without them (to be printed). -/
namespace PM
open PySem L2
def dfl : LamI := ⟨"", ⟨[], [], none, [], [], none, []⟩, .Constant .none 0 ⟨0, 0, 0, 0⟩, ⟨.function, [], false, false, []⟩, []⟩
mutual
def lamsE : E → List LamI
  | .lam l => [l]
  | .bin _ a b => lamsE a ++ lamsE b | .neg a => lamsE a | .cmp _ a b => lamsE a ++ lamsE b | .chain _ _ a b c => lamsE a ++ lamsE b ++ lamsE c
  | .and a b => lamsE a ++ lamsE b | .or a b => lamsE a ++ lamsE b | .not a => lamsE a | .ite c a b => lamsE c ++ lamsE a ++ lamsE b
  | .tup es => lamsEs es | .lst es => lamsEs es | .mut a => lamsE a | .ix a b => lamsE a ++ lamsE b
  | .sl a lo hi => lamsE a ++ (match lo with | some e => lamsE e | none => []) ++ (match hi with | some e => lamsE e | none => []) | .rev a => lamsE a
  | .call _ es _ => lamsEs es | .callv _ es => lamsEs es | .bi _ es => lamsEs es | .bn _ es => lamsEs es | .mt _ a es => lamsE a ++ lamsEs es
  | .cm _ it c e => lamsI it ++ (match c with | some e => lamsE e | none => []) ++ lamsE e
  | .at a => lamsE a | .isi a _ => lamsE a | .mk _ _ a => lamsE a | .v _ => [] | .k _ => [] | .dc .. => []
def lamsEs : Es → List LamI
  | .nil => [] | .cons e r => lamsE e ++ lamsEs r
def lamsI : It → List LamI
  | .seq a => lamsE a | .rng1 a => lamsE a | .rng2 a b => lamsE a ++ lamsE b | .rng3 a b s => lamsE a ++ (lamsE b ++ lamsE s) | .zip a b => lamsE a ++ lamsE b | .enum a => lamsE a
end
mutual
def lamsS : PM.S → List LamI
  | .asg _ e => lamsE e | .aug _ _ e => lamsE e | .seti o i e => lamsE o ++ lamsE i ++ lamsE e | .ex e => lamsE e | .ret e => lamsE e | .retn => []
  | .ite c a b => lamsE c ++ lamsSs a ++ lamsSs b | .wh c b => lamsE c ++ lamsSs b | .fo _ it b => lamsI it ++ lamsSs b
  | .brk => [] | .cnt => [] | .pass => [] | .rais _ e => lamsE e | .tryc _ e _ _ _ => lamsE e
def lamsSs : Ss → List LamI
  | .nil => [] | .cons s r => lamsS s ++ lamsSs r
end
mutual
def stE : E → E
  | .lam l => .v 9999
  | .bin o a b => .bin o (stE a) (stE b) | .neg a => .neg (stE a) | .cmp o a b => .cmp o (stE a) (stE b) | .chain o p a b c => .chain o p (stE a) (stE b) (stE c)
  | .and a b => .and (stE a) (stE b) | .or a b => .or (stE a) (stE b) | .not a => .not (stE a) | .ite c a b => .ite (stE c) (stE a) (stE b)
  | .tup es => .tup (stEs es) | .lst es => .lst (stEs es) | .mut a => .mut (stE a) | .ix a b => .ix (stE a) (stE b)
  | .sl a lo hi => .sl (stE a) (match lo with | some e => some (stE e) | none => none) (match hi with | some e => some (stE e) | none => none) | .rev a => .rev (stE a)
  | .call f es p => .call f (stEs es) p | .callv i es => .callv i (stEs es) | .bi b es => .bi b (stEs es) | .bn b es => .bn b (stEs es) | .mt m a es => .mt m (stE a) (stEs es)
  | .cm t it c e => .cm t (stI it) (match c with | some e => some (stE e) | none => none) (stE e)
  | .at a => .at (stE a) | .isi a c => .isi (stE a) c | .mk c n a => .mk c n (stE a) | .v i => .v i | .k c => .k c | .dc ks vs => .dc ks vs
def stEs : Es → Es
  | .nil => .nil | .cons e r => .cons (stE e) (stEs r)
def stI : It → It
  | .seq a => .seq (stE a) | .rng1 a => .rng1 (stE a) | .rng2 a b => .rng2 (stE a) (stE b) | .rng3 a b s => .rng3 (stE a) (stE b) (stE s) | .zip a b => .zip (stE a) (stE b) | .enum a => .enum (stE a)
end
mutual
def stS : PM.S → PM.S
  | .asg t e => .asg t (stE e) | .aug i o e => .aug i o (stE e) | .seti o i e => .seti (stE o) (stE i) (stE e) | .ex e => .ex (stE e) | .ret e => .ret (stE e) | .retn => .retn
  | .ite c a b => .ite (stE c) (stSs a) (stSs b) | .wh c b => .wh (stE c) (stSs b) | .fo t it b => .fo t (stI it) (stSs b)
  | .brk => .brk | .cnt => .cnt | .pass => .pass | .rais c e => .rais c (stE e) | .tryc i e c a b => .tryc i (stE e) c a b
def stSs : Ss → Ss
  | .nil => .nil | .cons s r => .cons (stS s) (stSs r)
end
/-- what is to be printed of a def -/
def pfn (G : SI) (fi : FnI) : Option Ss × Nat × Bool × List (Option E × Nat × List (Option Nat)) := match bodyOf G fi with
  | none => (none, 0, false, [])
  | some b => (some (stSs b), fi.N.length, fi.ret, (lamsSs b).map fun l => (bodyL G l, (lamPs l).length, (frees l.scope).map (slot l.N)))
theorem WR.call' {G : SI} {W d i n : Nat} {fi : FnI} {b : Ss} {args : List PV} {Φ : List Env} {st : Store} {ret : Bool} {K : PV → Store → Prop} {X : Nat → PV → Store → Prop} (hfi : G.fns[i]? = some fi) (hb : bodyOf G fi = some b) (hl : args.length = fi.ps.length) (hN : fi.N.length = n) (hr : fi.ret = ret)
    (h : WSS ⟨(callB G W d).1, (callB G W d).2, W, fun ρ => Φ ++ [ρ], Φ.length, st.length⟩ b (entry n args) st (fun fl st' => FK ret Φ.length st.length fl st' K) (fun k v st' => nor v = true ∧ X k v (st'.take st.length))) :
    WR ((callB G W (d + 1)).1 i args Φ st) K X := by
  subst hN hr
  exact WR.call hfi hb hl h
theorem WR.lam' {G : SI} {W d : Nat} {l : LamI} {e : E} {xs : List PV} {ρc : Env} {Φ : List Env} {st : Store} {K : PV → Store → Prop} {X : Nat → PV → Store → Prop} {ks : List (Option Nat)} (hb : bodyL G l = some e) (hl : (lamPs l).length = xs.length) (hk : (frees l.scope).map (slot l.N) = ks)
    (h : WE ⟨(callB G W d).1, (callB G W d).2, W, fun _ => Φ, Φ.length, st.length⟩ e (xs.map some ++ ks.map fun k => k.bind fun i => gv ρc i) st (fun v st' => FK false Φ.length st.length (.rt v) st' K) (fun k v st' => nor v = true ∧ X k v (st'.take st.length))) :
    WR ((callB G W (d + 1)).2 l xs ρc Φ st) K X := by
  refine WR.lam hb hl.symm ?_
  have e2 : caps l ρc = ks.map fun k => k.bind fun i => gv ρc i := by
    rw [← hk, List.map_map]; rfl
  rw [e2]; exact h
/-- what is known of a def -/
def infF (G : SI) (fi : FnI) : Option Ss × Nat × Nat × Bool := (bodyOf G fi, fi.N.length, fi.ps.length, fi.ret)
def infL (G : SI) (l : LamI) : Option E × Nat × List (Option Nat) := (bodyL G l, (lamPs l).length, (frees l.scope).map (slot l.N))
/-- the calls of a program, not to be unfolded -/
structure Cb (G : SI) where
  W : Nat
  cf : Nat → Nat → List PV → List Env → Store → R PV
  cl : Nat → LamI → List PV → Env → List Env → Store → R PV
  hf : ∀ d, cf d = (callB G W d).1
  hl : ∀ d, cl d = (callB G W d).2
def Cb.of (G : SI) (W : Nat) : Cb G := ⟨W, fun d => (callB G W d).1, fun d => (callB G W d).2, fun _ => rfl, fun _ => rfl⟩
theorem WR.callI {G : SI} {Q : Cb G} {d i n k : Nat} {b : Ss} {args : List PV} {ρ : Env} {Φ : List Env} {st : Store} {ret : Bool} {K : PV → Store → Prop} {X : Nat → PV → Store → Prop} {l : List (Option Ss × Nat × Nat × Bool)} (hI : G.fns.map (infF G) = l) (hi : l[i]? = some (some b, n, k, ret)) (hk : args.length = k) (he : entry n args = ρ)
    (h : WSS ⟨Q.cf d, Q.cl d, Q.W, fun ρ => Φ ++ [ρ], Φ.length, st.length⟩ b ρ st (fun fl st' => FK ret Φ.length st.length fl st' K) (fun k v st' => nor v = true ∧ X k v (st'.take st.length))) :
    WR (Q.cf (d + 1) i args Φ st) K X := by
  rw [← hI, List.getElem?_map] at hi
  obtain ⟨fi, e1, e2⟩ := Option.map_eq_some_iff.mp hi
  unfold infF at e2
  injection e2 with e2 e3
  injection e3 with e3 e4
  injection e4 with e4 e5
  rw [Q.hf (d + 1)]
  rw [Q.hf d, Q.hl d, ← he] at h
  exact WR.call' e1 e2 (hk.trans e4.symm) e3 e5 h
theorem WR.lamI {G : SI} {Q : Cb G} {d k n : Nat} {ls : List LamI} {e : E} {xs : List PV} {ρ ρc : Env} {Φ : List Env} {st : Store} {K : PV → Store → Prop} {X : Nat → PV → Store → Prop} {ks : List (Option Nat)} {r : List (Option E × Nat × List (Option Nat))} (hI : ls.map (infL G) = r) (hi : r[k]? = some (some e, n, ks)) (hk : n = xs.length) (he : (xs.map some ++ ks.map fun k => k.bind fun i => gv ρc i) = ρ)
    (h : WE ⟨Q.cf d, Q.cl d, Q.W, fun _ => Φ, Φ.length, st.length⟩ e ρ st (fun v st' => FK false Φ.length st.length (.rt v) st' K) (fun k v st' => nor v = true ∧ X k v (st'.take st.length))) :
    WR (Q.cl (d + 1) (ls.getD k dfl) xs ρc Φ st) K X := by
  rw [← hI, List.getElem?_map] at hi
  obtain ⟨l, e1, e2⟩ := Option.map_eq_some_iff.mp hi
  unfold infL at e2
  injection e2 with e2 e3
  injection e3 with e3 e4
  have : ls.getD k dfl = l := by rw [List.getD_eq_getElem?_getD, e1]; rfl
  rw [this, Q.hl (d + 1)]
  rw [Q.hf d, Q.hl d, ← he] at h
  exact WR.lam' e2 (e3.trans hk) e4 h
end PM
set_option Elab.async false
set_option linter.all false
set_option maxRecDepth 100000
set_option maxHeartbeats 4000000
/-! PM40: the pots of the laws. -/
namespace PM
open PySem L2
local macro_rules | `(tactic| ac_rfl) => `(tactic| first | ((with_reducible show PM.WE _ _ _ _ _ _); (first | refine PM.WE.v (by rfl) ?_ | refine PM.WE.k ?_ | refine PM.WE.bin ?_ | refine PM.WE.cmp ?_ | refine PM.WE.call ?_ | refine PM.WE.ix ?_ | refine PM.WE.bi ?_ | refine PM.WE.tup ?_ | refine PM.WE.lst ?_ | refine PM.WE.and ?_ | refine PM.WE.or ?_ | refine PM.WE.not ?_ | refine PM.WE.neg ?_ | refine PM.WE.ite ?_ | refine PM.WE.isi ?_ | refine PM.WE.at ?_ | refine PM.WE.chain ?_ | refine PM.WE.sl ?_ | refine PM.WE.rev ?_ | refine PM.WE.bn ?_ | refine PM.WE.mt ?_ | refine PM.WE.mut ?_ | refine PM.WE.cm ?_ | refine PM.WE.lam ?_ | refine PM.WE.dc ?_ | refine PM.WE.mkE ?_ | refine PM.WE.callv (by rfl) ?_)) | ((with_reducible show PM.VW _ _ _); refine PM.VW.nr (by rfl) ?_) | ((with_reducible show PM.GV (PM.isiV _ _) _); (first | refine PM.GV.of (a := true) (by rfl) ?_ | refine PM.GV.of (a := false) (by rfl) ?_)) | ((with_reducible show PM.GV (PM.ixV _ _) _); refine PM.GV.of (by rfl) ?_) | ((with_reducible show PM.GV _ _); (first | (with_reducible refine PM.GV.addI ?_) | (with_reducible refine PM.GV.subI ?_) | (with_reducible refine PM.GV.ltI ?_) | (with_reducible refine PM.GV.leI ?_) | (with_reducible refine PM.GV.gtI ?_) | (with_reducible refine PM.GV.geI ?_) | (with_reducible refine PM.GV.eqI ?_) | (with_reducible refine PM.GV.neI ?_) | (with_reducible refine PM.GV.trB ?_) | (with_reducible refine PM.GV.trI ?_) | (with_reducible refine PM.GV.trN ?_) | (with_reducible refine PM.GV.intI ?_) | (with_reducible refine PM.GV.intB ?_) | (with_reducible refine PM.GV.absI ?_) | (with_reducible refine PM.GV.lenT ?_) | (with_reducible refine PM.GV.lenL ?_) | (with_reducible refine PM.GV.lenS ?_) | (with_reducible refine PM.GV.max2I ?_) | (with_reducible refine PM.GV.min2I ?_) | (with_reducible refine PM.GV.isN ?_) | (with_reducible refine PM.GV.notN ?_) | (with_reducible refine PM.GV.eqSS ?_) | (with_reducible refine PM.GV.neSS ?_) | (with_reducible refine PM.GV.tupL ?_) | (with_reducible refine PM.GV.tupT ?_) | ((with_reducible refine PM.GV.modI ?_ ?_); (focus (first | assumption | omega))) | ((with_reducible refine PM.GV.fdivI ?_ ?_ ?_); (focus (first | assumption | omega)); (focus bv_omega)) | ((with_reducible refine PM.GV.mulI ?_ ?_ ?_); (focus bv_omega); (focus bv_omega)))) | ((with_reducible show PM.WA _ _ _ _ _ _); (first | refine PM.WA.cons ?_ | refine PM.WA.nil ?_)) | ((with_reducible show PM.WSS _ _ _ _ _ _); (first | refine PM.WSS.cons ?_ | refine PM.WSS.nil ?_)) | ((with_reducible show PM.SQ _ _ _); (first | refine PM.SQ.nx ?_ | refine PM.SQ.rt ?_ | refine PM.SQ.bk ?_ | refine PM.SQ.ct ?_)) | ((with_reducible show PM.WS _ _ _ _ _ _); (first | refine PM.WS.asg ?_ | refine PM.WS.ret ?_ | refine PM.WS.ite ?_ | refine PM.WS.ex ?_ | refine PM.WS.rais ?_ | refine PM.WS.seti ?_ | refine PM.WS.augA (by rfl) ?_ | refine PM.WS.augS (by rfl) ?_ | refine PM.WS.retn ?_ | refine PM.WS.pass ?_ | refine PM.WS.brk ?_ | refine PM.WS.cnt ?_ | refine PM.WS.fo ?_ | refine PM.WS.wh ?_ | refine PM.WS.tryc ?_)) | ((with_reducible show PM.TG _ _ _ _); (first | refine PM.TG.n (by rfl) ?_ | refine PM.TG.t ?_)) | ((with_reducible show PM.WT _ _ _ _ _ _); (first | refine PM.WT.cmp ?_ | refine PM.WT.and ?_ | refine PM.WT.or ?_ | refine PM.WT.not ?_ | refine PM.WT.ite ?_ | refine PM.WT.isi ?_ | refine PM.WT.pl (by rfl) ?_)) | ((with_reducible show PM.VWs _ _ _); (first | refine PM.VWs.cons ?_ | refine PM.VWs.nil ?_)) | ((with_reducible show PM.TGs _ _ _ _); (first | refine PM.TGs.cons ?_ | refine PM.TGs.nil ?_)) | refine PM.IsI.mk' ?_ | refine PM.IsB.mk' ?_ | refine PM.IsL.mk' ?_ | refine PM.P2.mk' ?_ | refine PM.IsE.mk' ?_ | refine PM.BR.T ?_ | refine PM.BR.F ?_ | refine PM.BR.n ?_ | ((with_reducible show PM.LP _ _ _ _); (first | refine PM.LP.nx ?_ | refine PM.LP.rt ?_ | refine PM.LP.ct ?_ | refine PM.LP.bk ?_)) | ((with_reducible show PM.PA _ _ _); refine PM.PA.mk (by rfl) ?_) | ((with_reducible show PM.WI _ _ _ _ _ _); (first | refine PM.WI.rng1 ?_ | refine PM.WI.rng2 ?_ | refine PM.WI.seq ?_ | refine PM.WI.enum ?_ | refine PM.WI.zip ?_)) | ((with_reducible show PM.WO _ _ _ _ _ _); (first | refine PM.WO.no ?_ | refine PM.WO.so ?_)) | refine PM.EN.l ?_ | refine PM.EN.t ?_ | refine PM.ZP.l ?_ | refine PM.ZP.t ?_)
local macro_rules | `(tactic| bv_omega) => `(tactic| first | assumption | decide +kernel | (apply PM.SB.sz; (focus (repeat' (first | assumption | (apply PM.SB.le <;> omega) | apply PM.SB.mul | apply PM.SB.add | apply PM.SB.sub | apply PM.SB.neg))); decide))
local macro_rules | `(tactic| nofun) => `(tactic| repeat ((fail_if_success (with_reducible show PM.WSS _ (PM.Ss.cons _ _) _ _ _ _)); ac_rfl))
abbrev kI (i : Int) : E := .k (.int i)
abbrev one (e : E) : Es := .cons e .nil
abbrev int1 (e : E) : E := .bi .int1 (one e)
/-- _law_take, by its numbers -/
def takeB (p1 p2 p3 p4 p5 c1 c2 m1 c3 m2 q : Int) : Ss :=
  .cons (.ite (.cmp .gt (.ix (.v 0) (kI 0)) (kI 0))
    (.cons (.asg (.n 2) (.bin .mod (int1 (.ix (.v 0) (kI 0))) (.v 1)))
      (.cons (.seti (.v 0) (kI 0) (.bin .fdiv (.ix (.v 0) (kI 0)) (.v 1))) (.cons (.ret (.v 2)) .nil))) .nil)
  (.cons (.seti (.v 0) (kI 2) (.bin .add (.ix (.v 0) (kI 2)) (kI 1)))
  (.cons (.asg (.n 3) (.ix (.lst (.cons (kI p1) (.cons (kI p2) (.cons (kI p3) (.cons (kI p4) (.cons (kI p5) .nil)))))) (.bin .mod (int1 (.ix (.v 0) (kI 2))) (kI 5))))
  (.cons (.asg (.n 4) (.bin .mod (int1 (.bin .pow (int1 (.bin .add (.bin .add (.ix (.v 0) (kI 1)) (.bin .mul (.bin .mul (kI c1) (.ix (.v 0) (kI 2))) (.ix (.v 0) (kI 2)))) (kI c2))) (kI 3))) (.v 3)))
  (.cons (.asg (.n 4) (.bin .mod (int1 (.bin .mul (.v 4) (.bin .add (.bin .mod (int1 (.v 4)) (kI m1)) (.bin .mul (kI c3) (.ix (.v 0) (kI 2)))))) (kI m2)))
  (.cons (.ret (.bin .mod (int1 (.bin .fdiv (.v 4) (kI q))) (.v 1))) .nil)))))
/-- the pot at n: what is left of its own, its mixture, its count (at most B) -/
structure Pot (st : Store) (n B : Nat) : Prop where
  out : ∃ own mix k : Int, st[n]? = some (.lst [.int own, .int mix, .int k]) ∧ 0 ≤ own ∧ SB 1000 own ∧ SB 62 mix ∧ 0 ≤ k ∧ k ≤ B
theorem Pot.mono {st : Store} {n B C : Nat} (h : Pot st n B) (hc : B ≤ C) : Pot st n C := by
  obtain ⟨own, mix, k, h1, h2, h3, h4, h5, h6⟩ := h.out
  exact ⟨own, mix, k, h1, h2, h3, h4, h5, by omega⟩
theorem Pot.lt {st : Store} {n B : Nat} (h : Pot st n B) : n < st.length := by
  obtain ⟨own, mix, k, h1, _⟩ := h.out
  exact (List.getElem?_eq_some_iff.mp h1).1
/-- a store after draws from the pot at n: nothing else has changed -/
structure PotS (st st' : Store) (n B : Nat) : Prop where
  pot : Pot st' n B
  len : st'.length = st.length
  oth : ∀ m, m ≠ n → st'[m]? = st[m]?
theorem PotS.refl {st : Store} {n B : Nat} (h : Pot st n B) : PotS st st n B := ⟨h, rfl, fun _ _ => rfl⟩
theorem PotS.trans {st st1 st2 : Store} {n B C : Nat} (h1 : PotS st st1 n B) (h2 : PotS st1 st2 n C) : PotS st st2 n C :=
  ⟨h2.pot, h2.len.trans h1.len, fun m hm => (h2.oth m hm).trans (h1.oth m hm)⟩
theorem PotS.mono {st st1 : Store} {n B C : Nat} (h1 : PotS st st1 n B) (h : B ≤ C) : PotS st st1 n C := ⟨h1.pot.mono h, h1.len, h1.oth⟩
theorem PotS.at {st st1 : Store} {n B m : Nat} {ob : Ob} (h1 : PotS st st1 n B) (hm : m ≠ n) (h : st[m]? = some ob) : st1[m]? = some ob := (h1.oth m hm).trans h
theorem set_at {st : Store} {n : Nat} {a b : Ob} (h : st[n]? = some a) : (st.set n b)[n]? = some b := by
  rw [List.getElem?_set_self (List.getElem?_eq_some_iff.mp h).1]
theorem log2_of {n : Nat} {i : Int} (h : SB n i) (h0 : 0 < n) : i.natAbs.log2 < n := by
  by_cases hz : i.natAbs = 0
  · rw [hz]; simpa using h0
  · exact (Nat.log2_lt hz).mpr h
theorem ix5 {p1 p2 p3 p4 p5 j : Int} {P : Int → Prop} (h1 : P p1) (h2 : P p2) (h3 : P p3) (h4 : P p4) (h5 : P p5) (h0 : 0 ≤ j) (hj : j < 5) :
    ∃ p, ixV (.lst [.int p1, .int p2, .int p3, .int p4, .int p5]) (.int j) = some (.int p) ∧ P p := by
  have : j = 0 ∨ j = 1 ∨ j = 2 ∨ j = 3 ∨ j = 4 := by omega
  rcases this with rfl | rfl | rfl | rfl | rfl
  · exact ⟨p1, rfl, h1⟩
  · exact ⟨p2, rfl, h2⟩
  · exact ⟨p3, rfl, h3⟩
  · exact ⟨p4, rfl, h4⟩
  · exact ⟨p5, rfl, h5⟩
theorem take_W {c : Cfg} {st : Store} {n B : Nat} {p1 p2 p3 p4 p5 c1 c2 m1 c3 m2 q u : Int} {K : Fl → Store → Prop} {X : Nat → PV → Store → Prop} (hp : Pot st n B) (hB : B ≤ 1000000000) (hu : 0 < u) (hu2 : sz u = true)
    (h1 : 0 < p1 ∧ SB 31 p1) (h2 : 0 < p2 ∧ SB 31 p2) (h3 : 0 < p3 ∧ SB 31 p3) (h4 : 0 < p4 ∧ SB 31 p4) (h5 : 0 < p5 ∧ SB 31 p5) (hc1 : SB 62 c1) (hc2 : SB 62 c2) (hm1 : 0 < m1) (hm1' : SB 62 m1) (hc3 : SB 62 c3) (hm2 : 0 < m2) (hq : 0 < q) (hq' : SB 62 q)
    (k : ∀ (r : Int) (st' : Store), 0 ≤ r → r < u → PotS st st' n (B + 1) → K (.rt (.int r)) st') : WSS c (takeB p1 p2 p3 p4 p5 c1 c2 m1 c3 m2 q) [some (.ref n), some (.int u), none, none, none] st K X := by
  obtain ⟨own, mix, cnt, e, o1, o2, o3, o4, o5⟩ := hp.out
  have sc : SB 62 cnt := SB.le (by omega) (by omega)
  have sc1 : SB 62 (cnt + 1) := SB.le (by omega) (by omega)
  unfold takeB
  repeat ac_rfl
  refine VW.rf e (GV.of rfl ?_)
  repeat ac_rfl
  refine BR.d (fun h => ?_) fun h => ?_
  · repeat ac_rfl
    refine VW.rf e (GV.of rfl ?_)
    repeat ac_rfl
    refine VW.rf e (GV.of rfl ?_)
    repeat ac_rfl
    refine GV.seti e rfl (j := 0) rfl ?_
    repeat ac_rfl
    refine k _ _ (Int.emod_nonneg _ (by omega)) (Int.emod_lt_of_pos _ hu) ⟨⟨own / u, mix, cnt, set_at e, Int.ediv_nonneg o1 (by omega), o2.ediv, o3, o4, by omega⟩, by simp, fun m hm => List.getElem?_set_ne (Ne.symm hm)⟩
  · repeat ac_rfl
    refine VW.rf e (GV.of rfl ?_)
    repeat ac_rfl
    refine GV.seti e rfl (j := 2) rfl ?_
    have e2 : (st.set n (.lst ([PV.int own, .int mix, .int cnt].set 2 (.int (cnt + 1)))))[n]? = some (.lst [.int own, .int mix, .int (cnt + 1)]) := set_at e
    repeat ac_rfl
    refine VW.rf e2 (GV.of rfl ?_)
    repeat ac_rfl
    obtain ⟨p, ep, hp1, hp2⟩ := ix5 (P := fun p => 0 < p ∧ SB 31 p) h1 h2 h3 h4 h5 (Int.emod_nonneg (cnt + 1) (by decide : (5 : Int) ≠ 0)) (Int.emod_lt_of_pos (cnt + 1) (by decide))
    refine GV.of ep ?_
    repeat ac_rfl
    refine VW.rf e2 (GV.of rfl ?_)
    repeat ac_rfl
    refine VW.rf e2 (GV.of rfl ?_)
    repeat ac_rfl
    refine VW.rf e2 (GV.of rfl ?_)
    repeat ac_rfl
    refine GV.powI (by decide) ?_ ?_
    · have sb := ((o3.add ((hc1.mul sc1).mul sc1)).add hc2)
      have := log2_of sb (by decide)
      omega
    repeat ac_rfl
    have sb2 : SB 31 ((mix + c1 * (cnt + 1) * (cnt + 1) + c2) ^ Int.toNat 3 % p) := SB.emod hp1 hp2
    refine VW.rf e2 (GV.of rfl ?_)
    repeat ac_rfl
    refine GV.mulI (sb2.sz (by decide)) (((SB.emod hm1 hm1').add (hc3.mul sc1)).sz (by decide)) ?_
    repeat ac_rfl
    exact k _ _ (Int.emod_nonneg _ (by omega)) (Int.emod_lt_of_pos _ hu) ⟨⟨own, mix, cnt + 1, e2, o1, o2, o3, by omega, by omega⟩, by simp, fun m hm => List.getElem?_set_ne (Ne.symm hm)⟩
/-- _law_pot, by its numbers -/
def potB (a1 a2 a3 m0 b1 b2 b3 m1 : Int) : Ss :=
  .cons (.asg (.n 2) ((E.cmp .lt (.v 1) (.bi .len (one (.v 0)))).ite (.ix (.v 0) (.v 1)) (.bin .add (.bin .add (.bin .mod (int1 (.bi .sum (one (.sl (.v 0) none (some (kI 1)))))) (kI a1)) (.bin .mul (kI a2) (.v 1))) (kI a3))))
  (.cons (.asg (.n 3) (.bin .mul (.bin .mod (int1 (.bi .abs (one (.v 2)))) (.bin .pow (.bin .pow (kI 10) (kI 60)) (kI 5))) (int1 (.cmp .ge (.bi .abs (one (.v 2))) (.bin .pow (kI 10) (kI 18))))))
  (.cons (.asg (.n 4) (.bin .mod (int1 (.v 2)) (kI m0)))
  (.cons (.ret (.mut (.lst (.cons (.v 3) (.cons (.bin .mod (int1 (.bin .add (.bin .add (.bin .mul (.v 4) (kI b1)) (.bin .mul (.bin .mul (kI b2) (.v 1)) (.v 1))) (kI b3))) (kI m1)) (.cons (kI 0) .nil)))))) .nil)))
theorem GV.ixS {ns : List Int} {j : Int} {K : PV → Prop} (h0 : 0 ≤ j) (h1 : j < ns.length) (k : ∀ z : Int, K (.int z)) : GV (ixV (.scr ns) (.int j)) K := by
  have e : atI ns j = some (ns[j.toNat]'(by omega)) := by
    unfold atI ixN
    rw [if_pos h0, if_pos h1]
    show ns[j.toNat]? = _
    rw [List.getElem?_eq_getElem]
  refine ⟨.int (ns[j.toNat]'(by omega)), ?_, k _⟩
  show (atI ns j).map PV.int = _
  rw [e]; rfl
theorem pot_W {c : Cfg} {st : Store} {ns : List Int} {a1 a2 a3 m0 b1 b2 b3 m1 p : Int} {K : Fl → Store → Prop} {X : Nat → PV → Store → Prop} (hp : 0 ≤ p) (hp2 : p < 1000) (ha1 : 0 < a1) (ha2 : SB 62 a2) (hm0 : 0 < m0) (hm0' : SB 62 m0) (hb1 : SB 62 b1) (hb2 : SB 62 b2) (hm1 : 0 < m1) (hm1' : SB 62 m1)
    (k : ∀ own mix : Int, 0 ≤ own → SB 1000 own → SB 62 mix → ∀ ρ : Env, K (.rt (.ref st.length)) (st ++ [.lst [.int own, .int mix, .int 0]])) : WSS c (potB a1 a2 a3 m0 b1 b2 b3 m1) [some (.scr ns), some (.int p), none, none, none] st K X := by
  have fin : ∀ cell : Int, WSS c (.cons (.asg (.n 3) (.bin .mul (.bin .mod (int1 (.bi .abs (one (.v 2)))) (.bin .pow (.bin .pow (kI 10) (kI 60)) (kI 5))) (int1 (.cmp .ge (.bi .abs (one (.v 2))) (.bin .pow (kI 10) (kI 18))))))
  (.cons (.asg (.n 4) (.bin .mod (int1 (.v 2)) (kI m0)))
  (.cons (.ret (.mut (.lst (.cons (.v 3) (.cons (.bin .mod (int1 (.bin .add (.bin .add (.bin .mul (.v 4) (kI b1)) (.bin .mul (.bin .mul (kI b2) (.v 1)) (.v 1))) (kI b3))) (kI m1)) (.cons (kI 0) .nil)))))) .nil))) [some (.scr ns), some (.int p), some (.int cell), none, none] st K X := fun cell => by
    have sp : SB 62 p := SB.le (by omega) (by omega)
    repeat ac_rfl
    refine GV.powI (by decide) (by decide +kernel) ?_
    repeat ac_rfl
    refine GV.powI (by decide) (by decide +kernel) ?_
    repeat ac_rfl
    refine GV.modI (by decide +kernel) ?_
    repeat ac_rfl
    refine GV.powI (by decide) (by decide +kernel) ?_
    have hpos : (0 : Int) < ((10 : Int) ^ Int.toNat 60) ^ Int.toNat 5 := by decide +kernel
    have h0 : SB 998 ((cell.natAbs : Int) % ((10 : Int) ^ Int.toNat 60) ^ Int.toNat 5) := SB.emod hpos (by unfold SB; decide +kernel)
    have h1 : (0 : Int) ≤ (cell.natAbs : Int) % ((10 : Int) ^ Int.toNat 60) ^ Int.toNat 5 := Int.emod_nonneg _ (by omega)
    generalize (cell.natAbs : Int) % ((10 : Int) ^ Int.toNat 60) ^ Int.toNat 5 = w at h0 h1 ⊢
    generalize (10 : Int) ^ Int.toNat 18 = w2
    repeat ac_rfl
    have h2 : SB 1 (if decide (w2 ≤ (cell.natAbs : Int)) = true then (1 : Int) else 0) := by unfold SB; split <;> decide
    have h3 : (0 : Int) ≤ (if decide (w2 ≤ (cell.natAbs : Int)) = true then (1 : Int) else 0) := by split <;> decide
    generalize (if decide (w2 ≤ (cell.natAbs : Int)) = true then (1 : Int) else 0) = w3 at h2 h3 ⊢
    repeat ac_rfl
    have h4 : SB 62 (cell % m0) := SB.emod hm0 hm0'
    generalize cell % m0 = w4 at h4 ⊢
    repeat ac_rfl
    refine ⟨rfl, ?_⟩
    repeat ac_rfl
    exact k _ _ (Int.mul_nonneg h1 h3) ((h0.mul h2).mono (by decide)) (SB.emod hm1 hm1') []
  unfold potB
  refine WSS.cut (P := fun ρ' st' => st' = st ∧ ∃ z : Int, ρ' = [some (.scr ns), some (.int p), some (.int z), none, none]) ?_ (fun ρ' st1 ⟨e, z, e2⟩ => by subst e e2; exact fin z)
  repeat ac_rfl
  refine BR.d (fun h => ?_) fun h => ?_
  · repeat ac_rfl
    refine GV.ixS hp h fun z => ?_
    repeat ac_rfl
    exact ⟨rfl, z, rfl⟩
  · repeat ac_rfl
    refine GV.of rfl ?_
    repeat ac_rfl
    refine GV.sumL ?_
    repeat ac_rfl
    exact ⟨rfl, _, rfl⟩
end PM
set_option Elab.async false
set_option linter.all false
set_option maxRecDepth 100000
set_option maxHeartbeats 4000000
/-! PM41: a law's own frame; draws from some things. -/
namespace PM
open PySem L2
local macro_rules | `(tactic| ac_rfl) => `(tactic| first | ((with_reducible show PM.WE _ _ _ _ _ _); (first | refine PM.WE.v (by rfl) ?_ | refine PM.WE.k ?_ | refine PM.WE.bin ?_ | refine PM.WE.cmp ?_ | refine PM.WE.call ?_ | refine PM.WE.ix ?_ | refine PM.WE.bi ?_ | refine PM.WE.tup ?_ | refine PM.WE.lst ?_ | refine PM.WE.and ?_ | refine PM.WE.or ?_ | refine PM.WE.not ?_ | refine PM.WE.neg ?_ | refine PM.WE.ite ?_ | refine PM.WE.isi ?_ | refine PM.WE.at ?_ | refine PM.WE.chain ?_ | refine PM.WE.sl ?_ | refine PM.WE.rev ?_ | refine PM.WE.bn ?_ | refine PM.WE.mt ?_ | refine PM.WE.mut ?_ | refine PM.WE.cm ?_ | refine PM.WE.lam ?_ | refine PM.WE.dc ?_ | refine PM.WE.mkE ?_ | refine PM.WE.callv (by rfl) ?_)) | ((with_reducible show PM.VW _ _ _); refine PM.VW.nr (by rfl) ?_) | ((with_reducible show PM.GV (PM.isiV _ _) _); (first | refine PM.GV.of (a := true) (by rfl) ?_ | refine PM.GV.of (a := false) (by rfl) ?_)) | ((with_reducible show PM.GV (PM.ixV _ _) _); refine PM.GV.of (by rfl) ?_) | ((with_reducible show PM.GV _ _); (first | (with_reducible refine PM.GV.addI ?_) | (with_reducible refine PM.GV.subI ?_) | (with_reducible refine PM.GV.ltI ?_) | (with_reducible refine PM.GV.leI ?_) | (with_reducible refine PM.GV.gtI ?_) | (with_reducible refine PM.GV.geI ?_) | (with_reducible refine PM.GV.eqI ?_) | (with_reducible refine PM.GV.neI ?_) | (with_reducible refine PM.GV.trB ?_) | (with_reducible refine PM.GV.trI ?_) | (with_reducible refine PM.GV.trN ?_) | (with_reducible refine PM.GV.intI ?_) | (with_reducible refine PM.GV.intB ?_) | (with_reducible refine PM.GV.absI ?_) | (with_reducible refine PM.GV.lenT ?_) | (with_reducible refine PM.GV.lenL ?_) | (with_reducible refine PM.GV.lenS ?_) | (with_reducible refine PM.GV.max2I ?_) | (with_reducible refine PM.GV.min2I ?_) | (with_reducible refine PM.GV.isN ?_) | (with_reducible refine PM.GV.notN ?_) | (with_reducible refine PM.GV.eqSS ?_) | (with_reducible refine PM.GV.neSS ?_) | (with_reducible refine PM.GV.tupL ?_) | (with_reducible refine PM.GV.tupT ?_) | ((with_reducible refine PM.GV.modI ?_ ?_); (focus (first | assumption | omega))) | ((with_reducible refine PM.GV.fdivI ?_ ?_ ?_); (focus (first | assumption | omega)); (focus bv_omega)) | ((with_reducible refine PM.GV.mulI ?_ ?_ ?_); (focus bv_omega); (focus bv_omega)))) | ((with_reducible show PM.WA _ _ _ _ _ _); (first | refine PM.WA.cons ?_ | refine PM.WA.nil ?_)) | ((with_reducible show PM.WSS _ _ _ _ _ _); (first | refine PM.WSS.cons ?_ | refine PM.WSS.nil ?_)) | ((with_reducible show PM.SQ _ _ _); (first | refine PM.SQ.nx ?_ | refine PM.SQ.rt ?_ | refine PM.SQ.bk ?_ | refine PM.SQ.ct ?_)) | ((with_reducible show PM.WS _ _ _ _ _ _); (first | refine PM.WS.asg ?_ | refine PM.WS.ret ?_ | refine PM.WS.ite ?_ | refine PM.WS.ex ?_ | refine PM.WS.rais ?_ | refine PM.WS.seti ?_ | refine PM.WS.augA (by rfl) ?_ | refine PM.WS.augS (by rfl) ?_ | refine PM.WS.retn ?_ | refine PM.WS.pass ?_ | refine PM.WS.brk ?_ | refine PM.WS.cnt ?_ | refine PM.WS.fo ?_ | refine PM.WS.wh ?_ | refine PM.WS.tryc ?_)) | ((with_reducible show PM.TG _ _ _ _); (first | refine PM.TG.n (by rfl) ?_ | refine PM.TG.t ?_)) | ((with_reducible show PM.WT _ _ _ _ _ _); (first | refine PM.WT.cmp ?_ | refine PM.WT.and ?_ | refine PM.WT.or ?_ | refine PM.WT.not ?_ | refine PM.WT.ite ?_ | refine PM.WT.isi ?_ | refine PM.WT.pl (by rfl) ?_)) | ((with_reducible show PM.VWs _ _ _); (first | refine PM.VWs.cons ?_ | refine PM.VWs.nil ?_)) | ((with_reducible show PM.TGs _ _ _ _); (first | refine PM.TGs.cons ?_ | refine PM.TGs.nil ?_)) | refine PM.IsI.mk' ?_ | refine PM.IsB.mk' ?_ | refine PM.IsL.mk' ?_ | refine PM.P2.mk' ?_ | refine PM.IsE.mk' ?_ | refine PM.BR.T ?_ | refine PM.BR.F ?_ | refine PM.BR.n ?_ | ((with_reducible show PM.LP _ _ _ _); (first | refine PM.LP.nx ?_ | refine PM.LP.rt ?_ | refine PM.LP.ct ?_ | refine PM.LP.bk ?_)) | ((with_reducible show PM.PA _ _ _); refine PM.PA.mk (by rfl) ?_) | ((with_reducible show PM.WI _ _ _ _ _ _); (first | refine PM.WI.rng1 ?_ | refine PM.WI.rng2 ?_ | refine PM.WI.seq ?_ | refine PM.WI.enum ?_ | refine PM.WI.zip ?_)) | ((with_reducible show PM.WO _ _ _ _ _ _); (first | refine PM.WO.no ?_ | refine PM.WO.so ?_)) | refine PM.EN.l ?_ | refine PM.EN.t ?_ | refine PM.ZP.l ?_ | refine PM.ZP.t ?_)
local macro_rules | `(tactic| bv_omega) => `(tactic| first | assumption | decide +kernel | (apply PM.SB.sz; (focus (repeat' (first | assumption | (apply PM.SB.le <;> omega) | apply PM.SB.mul | apply PM.SB.add | apply PM.SB.sub | apply PM.SB.neg))); decide))
local macro_rules | `(tactic| nofun) => `(tactic| repeat ((fail_if_success (with_reducible show PM.WSS _ (PM.Ss.cons _ _) _ _ _ _)); ac_rfl))
theorem gv_set {ρ : Env} {i : Nat} {v : Option PV} (h : i < ρ.length) : gv (ρ.set i v) i = v := by
  unfold gv
  rw [List.getElem?_set_self h]; rfl
theorem gv_set_ne {ρ : Env} {i j : Nat} {v : Option PV} (h : i ≠ j) : gv (ρ.set i v) j = gv ρ j := by
  unfold gv
  rw [List.getElem?_set_ne h]
def cellsB : Ss := .cons (.ret (.bn .lr1 (one (.bi .max2 (.cons (kI 1) (one (.bi .min2 (.cons (.v 1) (one (.bi .len (one (.v 0)))))))))))) .nil
theorem GV.lr1 {j : Int} {K : List PV → Prop} (h0 : inR j = true) (h : j.toNat ≤ SZ) (k : K (rangeL 0 j.toNat)) : GV (biN .lr1 [.int j]) K := ⟨_, by
  show (if (inR j && decide (j.toNat ≤ SZ)) = true then some (rangeL 0 j.toNat) else none) = _
  rw [h0, decide_eq_true h]; rfl, k⟩
theorem inR_by {j : Int} (h0 : -(2 ^ 62) ≤ j) (h1 : j < 2 ^ 62) : inR j = true := by
  unfold inR
  rw [decide_eq_true h0, decide_eq_true h1]; rfl
theorem cells_W {c : Cfg} {st : Store} {ns : List Int} {m : Int} {K : Fl → Store → Prop} {X : Nat → PV → Store → Prop} (hm : m ≤ 1000) (k : ∀ n : Nat, n ≤ 1000 → K (.rt (.lst (rangeL 0 n))) st) : WSS c cellsB [some (.scr ns), some (.int m)] st K X := by
  unfold cellsB
  repeat ac_rfl
  have h1 : max 1 (min m (ns.length : Int)) ≤ 1000 := by omega
  have h2 : 0 ≤ max 1 (min m (ns.length : Int)) := by omega
  refine GV.lr1 (inR_by (by omega) (by omega)) (by unfold SZ; omega) ?_
  repeat ac_rfl
  exact k _ (by omega)
theorem rangeL_map (lo : Int) (n : Nat) : rangeL lo n = (List.range n).map fun i => .int (lo + (i : Int)) := rfl
abbrev lawE (ic ip ir j : Nat) (m : Int) : E := .bi .all (one (.cm (.n j) (.seq (.call ic (.cons (.v 0) (one (kI m))) [0, 1])) none (.call ir (one (.call ip (.cons (.v 0) (one (.v j))) [0, 1])) [0])))
theorem law_W {G : SI} {Q : Cb G} {d ic ip ir j : Nat} {m a1 a2 a3 m0 b1 b2 b3 m1 : Int} {ns : List Int} {Φ0 : List Env} {lv nb : Nat} {ρ : Env} {st : Store} {K : PV → Store → Prop} {X : Nat → PV → Store → Prop}
    (hc : ∀ {Φ : List Env} {st : Store} {K : PV → Store → Prop} {X : Nat → PV → Store → Prop}, WSS ⟨Q.cf d, Q.cl d, Q.W, fun ρ => Φ ++ [ρ], Φ.length, st.length⟩ cellsB [some (.scr ns), some (.int m)] st (fun fl st' => FK false Φ.length st.length fl st' K) (fun k v st' => nor v = true ∧ X k v (st'.take st.length)) → WR (Q.cf (d + 1) ic [.scr ns, .int m] Φ st) K X)
    (hp : ∀ {p : PV} {Φ : List Env} {st : Store} {K : PV → Store → Prop} {X : Nat → PV → Store → Prop}, WSS ⟨Q.cf d, Q.cl d, Q.W, fun ρ => Φ ++ [ρ], Φ.length, st.length⟩ (potB a1 a2 a3 m0 b1 b2 b3 m1) [some (.scr ns), some p, none, none, none] st (fun fl st' => FK true Φ.length st.length fl st' K) (fun k v st' => nor v = true ∧ X k v (st'.take st.length)) → WR (Q.cf (d + 1) ip [.scr ns, p] Φ st) K X)
    (hr : ∀ {Φ : List Env} {st : Store} {n : Nat}, Pot st n 0 → WR (Q.cf (d + 1) ir [.ref n] Φ st) (fun v _ => v = .bl true) NX)
    (hm : m ≤ 1000) (ha1 : 0 < a1) (ha2 : SB 62 a2) (hm0 : 0 < m0) (hm0' : SB 62 m0) (hb1 : SB 62 b1) (hb2 : SB 62 b2) (hm1 : 0 < m1) (hm1' : SB 62 m1)
    (h0 : gv ρ 0 = some (.scr ns)) (hj : j < ρ.length) (hj0 : j ≠ 0) (k : ∀ st', K (.bl true) st') : WE ⟨Q.cf (d + 1), Q.cl (d + 1), Q.W, fun ρ => Φ0 ++ [ρ], lv, nb⟩ (lawE ic ip ir j m) ρ st K X := by
  refine WE.bi (WA.cons (WE.cm (WI.seq (WE.call (WA.cons (WE.v h0 ?_))))))
  repeat ac_rfl
  refine hc (cells_W hm fun n hn => FK.rt0 (by
    have : ∀ l : List Nat, nors (l.map fun (i : Nat) => PV.int (0 + (i : Int))) = true := fun l => by
      induction l with
      | nil => rfl
      | cons a l ih => simpa [nors, nor] using ih
    exact this _) ?_)
  refine GV.of (a := .fix (rangeL 0 n)) rfl ?_
  refine CM.inv (fun k ys st => ys = (List.range k).map (fun _ => PV.bl true)) rfl (fun i hi ys st hI => ?_) fun ys st hI => ?_
  · subst hI
    refine CE.al (TG.n rfl (WE.call (WA.cons (WE.call (WA.cons (WE.v ((gv_set_ne hj0).trans h0) (WA.cons (WE.v (gv_set hj) (WA.nil ⟨rfl, ?_⟩)))))))))
    simp only [rangeL, List.getElem_map, List.getElem_range]
    refine hp (pot_W (by omega) (by simp [rangeL] at hi; omega) ha1 ha2 hm0 hm0' hb1 hb2 hm1 hm1' fun own mix g1 g2 g3 _ => ?_)
    refine FK.ref (Nat.le_refl _) (xs := [.int own, .int mix, .int 0]) (by simp) rfl ?_
    rw [List.take_left']
    · refine WA.nil ⟨rfl, (hr (n := st.length) ⟨own, mix, 0, by simp, g1, g2, g3, by decide, by decide⟩).mono (fun v st' h => ?_) fun _ _ _ h => h⟩
      subst h
      show _ ++ [_] = _
      rw [List.range_succ, List.map_append]; rfl
    · rfl
  · subst hI
    refine WA.nil (VWs.cons (VW.nr rfl (VWs.nil (GV.all (l := List.range (rangeL 0 n).length) (p := fun _ => true) ?_))))
    have : (List.range (rangeL 0 n).length).all (fun _ => true) = true := by simp
    rw [this]
    exact k st
/-- _law_of -/
def ofB (i : Nat) : Ss := .cons (.ret (.ix (.v 1) (.call i (.cons (.v 0) (one (.bi .len (one (.v 1))))) [0, 1]))) .nil
theorem GV.ixL {xs : List PV} {j : Int} {K : PV → Prop} (h0 : 0 ≤ j) (h1 : j < xs.length) (k : ∀ x ∈ xs, K x) : GV (ixV (.lst xs) (.int j)) K := by
  have e : atI xs j = some (xs[j.toNat]'(by omega)) := by
    unfold atI ixN
    rw [if_pos h0, if_pos h1]
    show xs[j.toNat]? = _
    rw [List.getElem?_eq_getElem]
  exact ⟨xs[j.toNat]'(by omega), e, k _ (List.getElem_mem _)⟩
theorem GV.ixT {xs : List PV} {j : Int} {K : PV → Prop} (h0 : 0 ≤ j) (h1 : j < xs.length) (k : ∀ x ∈ xs, K x) : GV (ixV (.tup xs) (.int j)) K := by
  have e : atI xs j = some (xs[j.toNat]'(by omega)) := by
    unfold atI ixN
    rw [if_pos h0, if_pos h1]
    show xs[j.toNat]? = _
    rw [List.getElem?_eq_getElem]
  exact ⟨xs[j.toNat]'(by omega), e, k _ (List.getElem_mem _)⟩
end PM
set_option Elab.async false
set_option linter.all false
set_option maxRecDepth 100000
set_option maxHeartbeats 4000000
/-! PM42: the looks at ints and tuples that all parts share. -/
namespace PM
open PySem L2
local macro_rules | `(tactic| ac_rfl) => `(tactic| first | ((with_reducible show PM.WE _ _ _ _ _ _); (first | refine PM.WE.v (by rfl) ?_ | refine PM.WE.k ?_ | refine PM.WE.bin ?_ | refine PM.WE.cmp ?_ | refine PM.WE.call ?_ | refine PM.WE.ix ?_ | refine PM.WE.bi ?_ | refine PM.WE.tup ?_ | refine PM.WE.lst ?_ | refine PM.WE.and ?_ | refine PM.WE.or ?_ | refine PM.WE.not ?_ | refine PM.WE.neg ?_ | refine PM.WE.ite ?_ | refine PM.WE.isi ?_ | refine PM.WE.at ?_ | refine PM.WE.chain ?_ | refine PM.WE.sl ?_ | refine PM.WE.rev ?_ | refine PM.WE.bn ?_ | refine PM.WE.mt ?_ | refine PM.WE.mut ?_ | refine PM.WE.cm ?_ | refine PM.WE.lam ?_ | refine PM.WE.dc ?_ | refine PM.WE.mkE ?_ | refine PM.WE.callv (by rfl) ?_)) | ((with_reducible show PM.VW _ _ _); refine PM.VW.nr (by rfl) ?_) | ((with_reducible show PM.GV (PM.isiV _ _) _); (first | refine PM.GV.of (a := true) (by rfl) ?_ | refine PM.GV.of (a := false) (by rfl) ?_)) | ((with_reducible show PM.GV (PM.ixV _ _) _); refine PM.GV.of (by rfl) ?_) | ((with_reducible show PM.GV _ _); (first | (with_reducible refine PM.GV.addI ?_) | (with_reducible refine PM.GV.subI ?_) | (with_reducible refine PM.GV.ltI ?_) | (with_reducible refine PM.GV.leI ?_) | (with_reducible refine PM.GV.gtI ?_) | (with_reducible refine PM.GV.geI ?_) | (with_reducible refine PM.GV.eqI ?_) | (with_reducible refine PM.GV.neI ?_) | (with_reducible refine PM.GV.trB ?_) | (with_reducible refine PM.GV.trI ?_) | (with_reducible refine PM.GV.trN ?_) | (with_reducible refine PM.GV.intI ?_) | (with_reducible refine PM.GV.intB ?_) | (with_reducible refine PM.GV.absI ?_) | (with_reducible refine PM.GV.lenT ?_) | (with_reducible refine PM.GV.lenL ?_) | (with_reducible refine PM.GV.lenS ?_) | (with_reducible refine PM.GV.max2I ?_) | (with_reducible refine PM.GV.min2I ?_) | (with_reducible refine PM.GV.isN ?_) | (with_reducible refine PM.GV.notN ?_) | (with_reducible refine PM.GV.eqSS ?_) | (with_reducible refine PM.GV.neSS ?_) | (with_reducible refine PM.GV.tupL ?_) | (with_reducible refine PM.GV.tupT ?_) | ((with_reducible refine PM.GV.modI ?_ ?_); (focus (first | assumption | omega))) | ((with_reducible refine PM.GV.fdivI ?_ ?_ ?_); (focus (first | assumption | omega)); (focus bv_omega)) | ((with_reducible refine PM.GV.mulI ?_ ?_ ?_); (focus bv_omega); (focus bv_omega)))) | ((with_reducible show PM.WA _ _ _ _ _ _); (first | refine PM.WA.cons ?_ | refine PM.WA.nil ?_)) | ((with_reducible show PM.WSS _ _ _ _ _ _); (first | refine PM.WSS.cons ?_ | refine PM.WSS.nil ?_)) | ((with_reducible show PM.SQ _ _ _); (first | refine PM.SQ.nx ?_ | refine PM.SQ.rt ?_ | refine PM.SQ.bk ?_ | refine PM.SQ.ct ?_)) | ((with_reducible show PM.WS _ _ _ _ _ _); (first | refine PM.WS.asg ?_ | refine PM.WS.ret ?_ | refine PM.WS.ite ?_ | refine PM.WS.ex ?_ | refine PM.WS.rais ?_ | refine PM.WS.seti ?_ | refine PM.WS.augA (by rfl) ?_ | refine PM.WS.augS (by rfl) ?_ | refine PM.WS.retn ?_ | refine PM.WS.pass ?_ | refine PM.WS.brk ?_ | refine PM.WS.cnt ?_ | refine PM.WS.fo ?_ | refine PM.WS.wh ?_ | refine PM.WS.tryc ?_)) | ((with_reducible show PM.TG _ _ _ _); (first | refine PM.TG.n (by rfl) ?_ | refine PM.TG.t ?_)) | ((with_reducible show PM.WT _ _ _ _ _ _); (first | refine PM.WT.cmp ?_ | refine PM.WT.and ?_ | refine PM.WT.or ?_ | refine PM.WT.not ?_ | refine PM.WT.ite ?_ | refine PM.WT.isi ?_ | refine PM.WT.pl (by rfl) ?_)) | ((with_reducible show PM.VWs _ _ _); (first | refine PM.VWs.cons ?_ | refine PM.VWs.nil ?_)) | ((with_reducible show PM.TGs _ _ _ _); (first | refine PM.TGs.cons ?_ | refine PM.TGs.nil ?_)) | refine PM.IsI.mk' ?_ | refine PM.IsB.mk' ?_ | refine PM.IsL.mk' ?_ | refine PM.P2.mk' ?_ | refine PM.IsE.mk' ?_ | refine PM.BR.T ?_ | refine PM.BR.F ?_ | refine PM.BR.n ?_ | ((with_reducible show PM.LP _ _ _ _); (first | refine PM.LP.nx ?_ | refine PM.LP.rt ?_ | refine PM.LP.ct ?_ | refine PM.LP.bk ?_)) | ((with_reducible show PM.PA _ _ _); refine PM.PA.mk (by rfl) ?_) | ((with_reducible show PM.WI _ _ _ _ _ _); (first | refine PM.WI.rng1 ?_ | refine PM.WI.rng2 ?_ | refine PM.WI.seq ?_ | refine PM.WI.enum ?_ | refine PM.WI.zip ?_)) | ((with_reducible show PM.WO _ _ _ _ _ _); (first | refine PM.WO.no ?_ | refine PM.WO.so ?_)) | refine PM.EN.l ?_ | refine PM.EN.t ?_ | refine PM.ZP.l ?_ | refine PM.ZP.t ?_)
local macro_rules | `(tactic| bv_omega) => `(tactic| first | assumption | decide +kernel | (apply PM.SB.sz; (focus (repeat' (first | assumption | (apply PM.SB.le <;> omega) | apply PM.SB.mul | apply PM.SB.add | apply PM.SB.sub | apply PM.SB.neg))); decide))
local macro_rules | `(tactic| nofun) => `(tactic| repeat ((fail_if_success (with_reducible show PM.WSS _ (PM.Ss.cons _ _) _ _ _ _)); ac_rfl))
/-- values that isinstance tells of -/
def okv : PV → Bool | .non => true | .bl _ => true | .int _ => true | .str _ => true | .tup _ => true | .lst _ => true | .dct _ _ => true | _ => false
def isInt (v : PV) (lo hi : Int) : Bool := match v with | .int x => decide (lo ≤ x) && decide (x ≤ hi) | _ => false
def isIntB : Ss := .cons (.ret (.and (.isi (.v 0) (.ty "int")) (.and (.not (.isi (.v 0) (.ty "bool"))) (.chain .le .le (.v 1) (.v 0) (.v 2))))) .nil
theorem isInt_W {c : Cfg} {st : Store} {v : PV} {lo hi : Int} {K : Fl → Store → Prop} {X : Nat → PV → Store → Prop} (hv : okv v = true) (k : K (.rt (.bl (isInt v lo hi))) st) : WSS c isIntB [some v, some (.int lo), some (.int hi)] st K X := by
  unfold isIntB
  cases v with
  | int x =>
    repeat ac_rfl
    refine BR.d (fun h => ?_) fun h => ?_
    · repeat ac_rfl
      have e : isInt (.int x) lo hi = decide (x ≤ hi) := by unfold isInt; simp [h]
      rw [← e]; exact k
    · repeat ac_rfl
      have e : isInt (.int x) lo hi = false := by unfold isInt; simp [h]
      rw [← e]; exact k
  | bl x => repeat ac_rfl
            exact k
  | non => repeat ac_rfl
           exact k
  | str x => repeat ac_rfl
             exact k
  | tup x => repeat ac_rfl
             exact k
  | lst x => repeat ac_rfl
             exact k
  | dct x y => repeat ac_rfl
               exact k
  | _ => cases hv
def areInts (v : PV) (lo hi : Int) : Bool := match v with | .tup xs => xs.all fun x => isInt x lo hi | _ => false
def areIntsB (i : Nat) : Ss := .cons (.ret (.and (.isi (.v 0) (.ty "tuple")) (.bi .all (one (.cm (.n 3) (.seq (.v 0)) none (.call i (.cons (.v 3) (.cons (.v 1) (one (.v 2)))) [0, 1, 2])))))) .nil
def okvs (v : PV) : Bool := match v with | .tup xs => xs.all okv | v => okv v
theorem areInts_W {c : Cfg} {st : Store} {v : PV} {lo hi : Int} {i : Nat} {K : Fl → Store → Prop} {X : Nat → PV → Store → Prop} (hv : okvs v = true)
    (hw : ∀ {w : PV} {Φ : List Env} {st : Store} {K : PV → Store → Prop} {X : Nat → PV → Store → Prop}, okv w = true → K (.bl (isInt w lo hi)) st → WR (c.cf i [w, .int lo, .int hi] Φ st) K X)
    (k : K (.rt (.bl (areInts v lo hi))) st) : WSS c (areIntsB i) [some v, some (.int lo), some (.int hi), none] st K X := by
  unfold areIntsB
  cases v with
  | tup xs =>
    have hv : xs.all okv = true := hv
    rw [List.all_eq_true] at hv
    repeat ac_rfl
    refine GV.of (a := .fix xs) rfl ?_
    refine CM.map xs id (fun x => .bl (isInt x lo hi)) (by simp) (fun x hx => ?_) ?_
    · refine CE.al ?_
      repeat ac_rfl
      exact hw (hv x hx) ⟨rfl, rfl⟩
    · repeat ac_rfl
      refine GV.all ?_
      repeat ac_rfl
      exact k
  | bl x => repeat ac_rfl
            exact k
  | non => repeat ac_rfl
           exact k
  | str x => repeat ac_rfl
             exact k
  | int x => repeat ac_rfl
             exact k
  | lst x => repeat ac_rfl
             exact k
  | dct x y => repeat ac_rfl
               exact k
  | _ => cases hv
theorem cut1 (xs : List PV) : cut xs (some 1) none = xs.tail := by
  cases xs with
  | nil => rfl
  | cons x xs =>
    unfold cut
    simp only [HT.sIx_none]
    have : HT.sIx (x :: xs).length 0 (some 1) = min 1 (x :: xs).length := HT.sIx_nat (x :: xs).length 0 1
    rw [this, List.take_of_length_le]
    · have : min 1 (x :: xs).length = 1 := by simp
      rw [this]; rfl
    · simp
theorem GV.sl1 {xs : List PV} {K : PV → Prop} (k : K (.tup xs.tail)) : GV (slV (.tup xs) (some 1) none) K := ⟨_, by
  show some (PV.tup (cut xs (some 1) none)) = _
  rw [cut1], k⟩
theorem zipL_map (ns ms : List Int) : zipL (ns.map .int) (ms.map .int) = (ns.zip ms).map fun p => .tup [.int p.1, .int p.2] := by
  unfold zipL
  rw [List.zipWith_map, List.map_zip_eq_zipWith]; rfl
def rising (ns : List Int) : Bool := (ns.zip ns.tail).all fun p => decide (p.1 < p.2)
def risingB : Ss := .cons (.ret (.bi .all (one (.cm (.t [.n 1, .n 2]) (.zip (.v 0) (.sl (.v 0) (some (kI 1)) none)) none (.cmp .lt (.v 1) (.v 2)))))) .nil
theorem rising_W {c : Cfg} {st : Store} {ns : List Int} {K : Fl → Store → Prop} {X : Nat → PV → Store → Prop} (k : K (.rt (.bl (rising ns))) st) : WSS c risingB [some (.tup (ns.map .int)), none, none] st K X := by
  unfold risingB
  repeat ac_rfl
  refine GV.sl1 ?_
  repeat ac_rfl
  refine CM.map (ns.zip ns.tail) (fun p => .tup [.int p.1, .int p.2]) (fun p => .bl (decide (p.1 < p.2))) (by rw [← List.map_tail, zipL_map]) (fun x hx => ?_) ?_
  · refine CE.al ?_
    repeat ac_rfl
    exact ⟨rfl, rfl⟩
  · repeat ac_rfl
    refine GV.all ?_
    repeat ac_rfl
    exact k
end PM
set_option Elab.async false
set_option linter.all false
set_option maxRecDepth 100000
set_option maxHeartbeats 4000000
/-! PM43: what the laws share: draws of some things, values bent, errors heard. -/
namespace PM
open PySem L2
local macro_rules | `(tactic| ac_rfl) => `(tactic| first | ((with_reducible show PM.WE _ _ _ _ _ _); (first | refine PM.WE.v (by rfl) ?_ | refine PM.WE.k ?_ | refine PM.WE.bin ?_ | refine PM.WE.cmp ?_ | refine PM.WE.call ?_ | refine PM.WE.ix ?_ | refine PM.WE.bi ?_ | refine PM.WE.tup ?_ | refine PM.WE.lst ?_ | refine PM.WE.and ?_ | refine PM.WE.or ?_ | refine PM.WE.not ?_ | refine PM.WE.neg ?_ | refine PM.WE.ite ?_ | refine PM.WE.isi ?_ | refine PM.WE.at ?_ | refine PM.WE.chain ?_ | refine PM.WE.sl ?_ | refine PM.WE.rev ?_ | refine PM.WE.bn ?_ | refine PM.WE.mt ?_ | refine PM.WE.mut ?_ | refine PM.WE.cm ?_ | refine PM.WE.lam ?_ | refine PM.WE.dc ?_ | refine PM.WE.mkE ?_ | refine PM.WE.callv (by rfl) ?_)) | ((with_reducible show PM.VW _ _ _); refine PM.VW.nr (by rfl) ?_) | ((with_reducible show PM.GV (PM.isiV _ _) _); (first | refine PM.GV.of (a := true) (by rfl) ?_ | refine PM.GV.of (a := false) (by rfl) ?_)) | ((with_reducible show PM.GV (PM.ixV _ _) _); refine PM.GV.of (by rfl) ?_) | ((with_reducible show PM.GV _ _); (first | (with_reducible refine PM.GV.addI ?_) | (with_reducible refine PM.GV.subI ?_) | (with_reducible refine PM.GV.ltI ?_) | (with_reducible refine PM.GV.leI ?_) | (with_reducible refine PM.GV.gtI ?_) | (with_reducible refine PM.GV.geI ?_) | (with_reducible refine PM.GV.eqI ?_) | (with_reducible refine PM.GV.neI ?_) | (with_reducible refine PM.GV.trB ?_) | (with_reducible refine PM.GV.trI ?_) | (with_reducible refine PM.GV.trN ?_) | (with_reducible refine PM.GV.intI ?_) | (with_reducible refine PM.GV.intB ?_) | (with_reducible refine PM.GV.absI ?_) | (with_reducible refine PM.GV.lenT ?_) | (with_reducible refine PM.GV.lenL ?_) | (with_reducible refine PM.GV.lenS ?_) | (with_reducible refine PM.GV.max2I ?_) | (with_reducible refine PM.GV.min2I ?_) | (with_reducible refine PM.GV.isN ?_) | (with_reducible refine PM.GV.notN ?_) | (with_reducible refine PM.GV.eqSS ?_) | (with_reducible refine PM.GV.neSS ?_) | (with_reducible refine PM.GV.tupL ?_) | (with_reducible refine PM.GV.tupT ?_) | ((with_reducible refine PM.GV.modI ?_ ?_); (focus (first | assumption | omega))) | ((with_reducible refine PM.GV.fdivI ?_ ?_ ?_); (focus (first | assumption | omega)); (focus bv_omega)) | ((with_reducible refine PM.GV.mulI ?_ ?_ ?_); (focus bv_omega); (focus bv_omega)))) | ((with_reducible show PM.WA _ _ _ _ _ _); (first | refine PM.WA.cons ?_ | refine PM.WA.nil ?_)) | ((with_reducible show PM.WSS _ _ _ _ _ _); (first | refine PM.WSS.cons ?_ | refine PM.WSS.nil ?_)) | ((with_reducible show PM.SQ _ _ _); (first | refine PM.SQ.nx ?_ | refine PM.SQ.rt ?_ | refine PM.SQ.bk ?_ | refine PM.SQ.ct ?_)) | ((with_reducible show PM.WS _ _ _ _ _ _); (first | refine PM.WS.asg ?_ | refine PM.WS.ret ?_ | refine PM.WS.ite ?_ | refine PM.WS.ex ?_ | refine PM.WS.rais ?_ | refine PM.WS.seti ?_ | refine PM.WS.augA (by rfl) ?_ | refine PM.WS.augS (by rfl) ?_ | refine PM.WS.retn ?_ | refine PM.WS.pass ?_ | refine PM.WS.brk ?_ | refine PM.WS.cnt ?_ | refine PM.WS.fo ?_ | refine PM.WS.wh ?_ | refine PM.WS.tryc ?_)) | ((with_reducible show PM.TG _ _ _ _); (first | refine PM.TG.n (by rfl) ?_ | refine PM.TG.t ?_)) | ((with_reducible show PM.WT _ _ _ _ _ _); (first | refine PM.WT.cmp ?_ | refine PM.WT.and ?_ | refine PM.WT.or ?_ | refine PM.WT.not ?_ | refine PM.WT.ite ?_ | refine PM.WT.isi ?_ | refine PM.WT.pl (by rfl) ?_)) | ((with_reducible show PM.VWs _ _ _); (first | refine PM.VWs.cons ?_ | refine PM.VWs.nil ?_)) | ((with_reducible show PM.TGs _ _ _ _); (first | refine PM.TGs.cons ?_ | refine PM.TGs.nil ?_)) | refine PM.IsI.mk' ?_ | refine PM.IsB.mk' ?_ | refine PM.IsL.mk' ?_ | refine PM.P2.mk' ?_ | refine PM.IsE.mk' ?_ | refine PM.BR.T ?_ | refine PM.BR.F ?_ | refine PM.BR.n ?_ | ((with_reducible show PM.LP _ _ _ _); (first | refine PM.LP.nx ?_ | refine PM.LP.rt ?_ | refine PM.LP.ct ?_ | refine PM.LP.bk ?_)) | ((with_reducible show PM.PA _ _ _); refine PM.PA.mk (by rfl) ?_) | ((with_reducible show PM.WI _ _ _ _ _ _); (first | refine PM.WI.rng1 ?_ | refine PM.WI.rng2 ?_ | refine PM.WI.seq ?_ | refine PM.WI.enum ?_ | refine PM.WI.zip ?_)) | ((with_reducible show PM.WO _ _ _ _ _ _); (first | refine PM.WO.no ?_ | refine PM.WO.so ?_)) | refine PM.EN.l ?_ | refine PM.EN.t ?_ | refine PM.ZP.l ?_ | refine PM.ZP.t ?_)
local macro_rules | `(tactic| bv_omega) => `(tactic| first | assumption | decide +kernel | (apply PM.SB.sz; (focus (repeat' (first | assumption | (apply PM.SB.le <;> omega) | apply PM.SB.mul | apply PM.SB.add | apply PM.SB.sub | apply PM.SB.neg))); decide))
local macro_rules | `(tactic| nofun) => `(tactic| repeat ((fail_if_success (with_reducible show PM.WSS _ (PM.Ss.cons _ _) _ _ _ _)); ac_rfl))
/-! ### values without numbers of the store, lambdas, errors -/
mutual
def dpv : PV → Bool
  | .non => true | .bl _ => true | .int _ => true | .str _ => true | .tup xs => dpvs xs | .lst xs => dpvs xs | .dct ks vs => nors ks && nors vs | _ => false
def dpvs : List PV → Bool
  | [] => true
  | x :: xs => dpv x && dpvs xs
end
theorem dpvs_iff : ∀ {xs : List PV}, dpvs xs = true ↔ ∀ x ∈ xs, dpv x = true
  | [] => by simp [dpvs]
  | x :: xs => by simp [dpvs, dpvs_iff (xs := xs)]
mutual
theorem dpv_nor : ∀ {v : PV}, dpv v = true → nor v = true
  | .tup xs, h => by simp only [dpv] at h; simpa [nor] using dpvs_nors h
  | .lst xs, h => by simp only [dpv] at h; simpa [nor] using dpvs_nors h
  | .dct ks vs, h => by simpa [nor, dpv] using h
  | .non, _ => rfl
  | .bl _, _ => rfl
  | .int _, _ => rfl
  | .str _, _ => rfl
  | .ref _, h => by simp [dpv] at h
  | .clo _ _, h => by simp [dpv] at h
  | .exc _ _, h => by simp [dpv] at h
  | .mkd _ _ _, h => by simp [dpv] at h
  | .set _, h => by simp [dpv] at h
  | .scr _, h => by simp [dpv] at h
theorem dpvs_nors : ∀ {vs : List PV}, dpvs vs = true → nors vs = true
  | [], _ => rfl
  | x :: xs, h => by simp only [dpvs, Bool.and_eq_true] at h; simp [nors, dpv_nor h.1, dpvs_nors h.2]
end
theorem dpv_ok {v : PV} (h : dpv v = true) : okv v = true := by
  cases v <;> first | rfl | simp [dpv] at h
theorem dpv_oks {v : PV} (h : dpv v = true) : okvs v = true := by
  cases v with
  | tup xs =>
    show xs.all okv = true
    rw [List.all_eq_true]
    exact fun x hx => dpv_ok (dpvs_iff.mp (by simpa [dpv] using h) x hx)
  | _ => first | rfl | (simp [dpv] at h; done)
theorem dpv_nr {v : PV} (h : dpv v = true) : isRef v = false := by
  cases v <;> first | rfl | simp [dpv] at h
theorem dpv_tup {xs : List PV} (h : ∀ x ∈ xs, dpv x = true) : dpv (.tup xs) = true := by simpa [dpv] using dpvs_iff.mpr h
theorem dpv_lst {xs : List PV} (h : ∀ x ∈ xs, dpv x = true) : dpv (.lst xs) = true := by simpa [dpv] using dpvs_iff.mpr h
theorem cut_mem {xs : List PV} {lo hi : Option Int} {x : PV} (h : x ∈ cut xs lo hi) : x ∈ xs := List.mem_of_mem_drop (List.mem_of_mem_take h)
theorem cut_len {xs : List PV} {lo hi : Option Int} : (cut xs lo hi).length ≤ xs.length := by
  unfold cut
  rw [List.length_take, List.length_drop]; omega
/-! ### what all laws bring -/
structure Help {G : SI} (Q : Cb G) where
  it : Nat
  io : Nat
  take : ∀ {d : Nat} {Φ : List Env} {st : Store} {K : PV → Store → Prop} {X : Nat → PV → Store → Prop} {n B : Nat} {u : Int}, Pot st n B → B ≤ 1000000000 → 0 < u → u ≤ 1000000000 → (∀ (r : Int) (st' : Store), 0 ≤ r → r < u → PotS st st' n (B + 1) → K (.int r) st') → WR (Q.cf (d + 1) it [.ref n, .int u] Φ st) K X
  of : ∀ {d : Nat} {Φ : List Env} {st : Store} {K : PV → Store → Prop} {X : Nat → PV → Store → Prop} {n B : Nat} {xs : List PV}, Pot st n B → B ≤ 1000000000 → 0 < xs.length → xs.length ≤ 1000 → nors xs = true → (∀ x ∈ xs, ∀ st', PotS st st' n (B + 1) → K x st') → WR (Q.cf (d + 2) io [.ref n, .lst xs] Φ st) K X
theorem nors_mem : ∀ {xs : List PV}, nors xs = true → ∀ x ∈ xs, nor x = true
  | [], _, x, hx => by cases hx
  | y :: ys, h, x, hx => by
    simp only [nors, Bool.and_eq_true] at h
    rcases List.mem_cons.mp hx with rfl | hx
    · exact h.1
    · exact nors_mem h.2 x hx
theorem of_W {c : Cfg} {st : Store} {n B it : Nat} {xs : List PV} {KF : Fl → Store → Prop} {X : Nat → PV → Store → Prop}
    (ht : ∀ {Φ : List Env} {K : PV → Store → Prop} {u : Int}, 0 < u → u ≤ 1000000000 → (∀ (r : Int) (st' : Store), 0 ≤ r → r < u → PotS st st' n (B + 1) → K (.int r) st') → WR (c.cf it [.ref n, .int u] Φ st) K X)
    (h0 : 0 < xs.length) (h1 : xs.length ≤ 1000) (k : ∀ x ∈ xs, ∀ st', PotS st st' n (B + 1) → KF (.rt x) st') : WSS c (ofB it) [some (.ref n), some (.lst xs)] st KF X := by
  unfold ofB
  repeat ac_rfl
  refine ht (by omega) (by omega) fun r st' g0 g1 ps => ?_
  repeat ac_rfl
  refine GV.ixL g0 g1 fun x hx => ?_
  repeat ac_rfl
  exact k x hx st' ps
/-- _law_heard -/
def heardB : Ss := .cons (.asg (.t [.n 1, .n 2]) (.tup (.cons (.k .non) (one (.k .non))))) (.cons (.tryc 2 (.callv 0 .nil) 0 3 1) (.cons (.ret (.tup (.cons (.v 1) (one (.v 2))))) .nil))
theorem heard_W {c : Cfg} {st : Store} {Φ : List Env} {l : LamI} {lv k : Nat} {v : PV} {ρc : Env} {KF : Fl → Store → Prop} {X : Nat → PV → Store → Prop} (hc : c.Φ = fun ρ => Φ ++ [ρ]) (hΦ : Φ[lv]? = some ρc)
    (h : ∀ {Φ' : List Env} {K : PV → Store → Prop} {X : Nat → PV → Store → Prop}, X k v st → WR (c.cl l [] ρc Φ' st) K X) (hk : KF (.rt (.tup [.exc k v, .non])) st) : WSS c heardB [some (.clo l lv), none, none, none] st KF X := by
  unfold heardB
  repeat ac_rfl
  have hlt : lv < Φ.length := (List.getElem?_eq_some_iff.mp hΦ).1
  rw [hc]
  refine GV.of (show (Φ ++ [_])[lv]? = some ρc by rw [List.getElem?_append_left hlt]; exact hΦ) ?_
  refine h ?_
  have hs : subE k 0 = true := by unfold subE; simp
  refine BR.tr hs ?_
  repeat ac_rfl
  exact hk
/-- _law_is_bool -/
def isBoolB : Ss := .cons (.ret (.and (.isi (.v 0) (.ty "bool")) (.cmp .eq (.v 0) (.v 1)))) .nil
theorem GV.eqB {a b : Bool} {K : Bool → Prop} (k : K (decide (a = b))) : GV (cmpV .eq (.bl a) (.bl b)) K := ⟨_, eqD_bl, k⟩
theorem isBool_W {c : Cfg} {st : Store} {b : Bool} {KF : Fl → Store → Prop} {X : Nat → PV → Store → Prop} (k : KF (.rt (.bl true)) st) : WSS c isBoolB [some (.bl b), some (.bl b)] st KF X := by
  unfold isBoolB
  repeat ac_rfl
  refine GV.eqB ?_
  repeat ac_rfl
  have : decide (b = b) = true := by simp
  rw [this]; exact k
/-! ### values that are bent -/
inductive BV : Nat → PV → Prop
  | int {n : Nat} {i : Int} : SB 200 i → BV n (.int i)
  | bl {n : Nat} {b : Bool} : BV n (.bl b)
  | non {n : Nat} : BV n .non
  | str {n : Nat} {s : Str} : s.length ≤ 1000 → BV n (.str s)
  | tup {n : Nat} {xs : List PV} : (∀ x ∈ xs, BV n x) → xs.length ≤ 100000 → BV (n + 1) (.tup xs)
theorem BV.dp : ∀ {n : Nat} {v : PV}, BV n v → dpv v = true
  | _, _, .int _ => rfl
  | _, _, .bl => rfl
  | _, _, .non => rfl
  | _, _, .str _ => rfl
  | _ + 1, _, .tup h _ => dpv_tup fun x hx => BV.dp (h x hx)
theorem toDs_of {n : Nat} : ∀ {xs : List PV}, (∀ x ∈ xs, ∃ d, toD x = some d ∧ d.plain = true ∧ d.depth ≤ n) → ∃ ds, toDs xs = some ds ∧ PyData.plainAll ds = true ∧ PyData.depthAll ds ≤ n ∧ ds.isEmpty = xs.isEmpty
  | [], _ => ⟨[], rfl, rfl, Nat.zero_le _, rfl⟩
  | x :: xs, h => by
    obtain ⟨d, e, h1, h2⟩ := h x (List.mem_cons_self ..)
    obtain ⟨ds, e', g1, g2, _⟩ := toDs_of (xs := xs) fun y hy => h y (List.mem_cons_of_mem _ hy)
    refine ⟨d :: ds, by simp [toDs, e, e'], by simp [PyData.plainAll, h1, g1], ?_, rfl⟩
    show max d.depth (PyData.depthAll ds) ≤ n
    omega
theorem BV.dat : ∀ {n : Nat} {v : PV}, BV n v → ∃ d, toD v = some d ∧ d.plain = true ∧ d.depth ≤ n
  | _, _, .int _ => ⟨_, rfl, rfl, Nat.zero_le _⟩
  | _, _, .bl => ⟨_, rfl, rfl, Nat.zero_le _⟩
  | _, _, .non => ⟨_, rfl, rfl, Nat.zero_le _⟩
  | _, _, .str _ => ⟨_, rfl, rfl, Nat.zero_le _⟩
  | n + 1, _, .tup h _ => by
    obtain ⟨ds, e, h1, h2, _⟩ := toDs_of fun x hx => BV.dat (h x hx)
    refine ⟨.tuple ds, by simp [toD, e], by simpa [PyData.plain] using h1, ?_⟩
    show PyData.depthAll ds + 1 ≤ n + 1
    omega
theorem BV.ne {n : Nat} {xs : List PV} (h : BV n (.tup xs)) (hn : n ≤ 64) : cmpV .ne (.tup xs) (.tup []) = some (!xs.isEmpty) := by
  cases h with
  | @tup m _ h _ =>
    obtain ⟨ds, e, h1, h2, h3⟩ := toDs_of fun x hx => BV.dat (h x hx)
    show (eqD (.tup xs) (.tup [])).map (!·) = _
    have e1 : toD (.tup xs) = some (.tuple ds) := by simp [toD, e]
    have e2 : toD (.tup []) = some (.tuple []) := rfl
    unfold eqD
    rw [e1, e2]
    have l1 : layD (.tuple ds) = true := by
      unfold layD
      have : (PyData.tuple ds).depth ≤ 64 := by show PyData.depthAll ds + 1 ≤ 64; omega
      rw [decide_eq_true this]
      simpa [PyData.plain] using h1
    have l2 : layD (.tuple []) = true := rfl
    simp only [l1, l2, Bool.and_self, if_true, Option.map_some]
    rw [← h3]
    cases ds with
    | nil => rfl
    | cons x l => rfl
theorem GV.slS {s : Str} {lo hi : Option Int} {K : PV → Prop} (h : s.length ≤ SZ) (k : ∀ z, K (.str z)) : GV (slV (.str s) lo hi) K := ⟨.str ⟨(cut s.cps.toList lo hi).toArray⟩, by
  show (if s.length ≤ SZ then some (PV.str ⟨(cut s.cps.toList lo hi).toArray⟩) else none) = _
  rw [if_pos h], k _⟩
theorem GV.addS {a b : Str} {K : PV → Prop} (h : a.length + b.length ≤ SZ) (k : K (.str (a ++ b))) : GV (binV .add (.str a) (.str b)) K := ⟨_, by
  show (if a.length + b.length ≤ SZ then some (PV.str (a ++ b)) else none) = _
  rw [if_pos h], k⟩
theorem GV.strI {i : Int} {K : PV → Prop} (h : i.natAbs.log2 < 1920) (k : K (.str (toString i))) : GV (biV .str1 [.int i]) K := ⟨.str (toString i), by
  show (if i.natAbs.log2 < 1920 then some (PV.str (toString i)) else none) = _
  rw [if_pos h], k⟩
theorem GV.upO {st : Store} {s : Str} {K : Unit → Prop} (k : K ()) : GV (PM.okO .upper st (.str s)) K := ⟨(), rfl, k⟩
theorem GV.up {nb : Nat} {st : Store} {s : Str} {K : PV × Store → Prop} (h : s.length ≤ 100000) (k : K (.str (PySem.Txt.upper s), st)) : GV (mtV nb .upper st (.str s) []) K := ⟨_, by
  show (if s.length ≤ 100000 then some (PV.str (PySem.Txt.upper s), st) else none) = _
  rw [if_pos h], k⟩
def bentB (it io ib iodd : Nat) : Ss := (Ss.cons (S.ite (((E.v 1).isi (Cl.ty "tuple")).and ((E.cmp Cop.ne (E.v 1) (E.tup Es.nil)).and (E.cmp Cop.gt (E.call it (Es.cons (E.v 0) (Es.cons (E.k (PV.int (5))) Es.nil)) [0, 1]) (E.k (PV.int (0)))))) (Ss.cons (S.asg (Tg.n 2) (E.call it (Es.cons (E.v 0) (Es.cons (E.bi Bi.len (Es.cons (E.v 1) Es.nil)) Es.nil)) [0, 1])) (Ss.cons (S.ret (E.bin Bop.add (E.bin Bop.add ((E.v 1).sl none (some (E.v 2))) (E.tup (Es.cons (E.call ib (Es.cons (E.v 0) (Es.cons ((E.v 1).ix (E.v 2)) Es.nil)) [0, 1]) Es.nil))) ((E.v 1).sl (some (E.bin Bop.add (E.v 2) (E.k (PV.int (1))))) none))) Ss.nil)) Ss.nil) (Ss.cons (S.ite ((E.v 1).isi (Cl.ty "tuple")) (Ss.cons (S.ret (E.call io (Es.cons (E.v 0) (Es.cons (E.lst (Es.cons (E.bn Bn.list (Es.cons (E.v 1) Es.nil)) (Es.cons ((E.v 1).sl (some (E.k (PV.int (1)))) none) (Es.cons ((E.v 1).sl none (some (E.k (PV.int (1))).neg)) (Es.cons (E.bin Bop.add (E.v 1) ((E.v 1).sl (some (E.k (PV.int (1))).neg) none)) (Es.cons (E.v 1).rev (Es.cons (E.tup Es.nil) (Es.cons (E.k PV.non) Es.nil)))))))) Es.nil)) [0, 1])) Ss.nil) Ss.nil) (Ss.cons (S.ite ((E.v 1).isi (Cl.ty "bool")) (Ss.cons (S.ret (E.call io (Es.cons (E.v 0) (Es.cons (E.lst (Es.cons (E.v 1).not (Es.cons (E.bi Bi.int1 (Es.cons (E.v 1) Es.nil)) (Es.cons (E.k PV.non) Es.nil)))) Es.nil)) [0, 1])) Ss.nil) Ss.nil) (Ss.cons (S.ite ((E.v 1).isi (Cl.ty "int")) (Ss.cons (S.ret (E.call io (Es.cons (E.v 0) (Es.cons (E.lst (Es.cons (E.bin Bop.add (E.v 1) (E.k (PV.int (1)))) (Es.cons (E.bin Bop.sub (E.v 1) (E.k (PV.int (1)))) (Es.cons (E.bin Bop.sub (E.v 1).neg (E.k (PV.int (1)))) (Es.cons (E.bi Bi.str1 (Es.cons (E.v 1) Es.nil)) (Es.cons (E.cmp Cop.eq (E.v 1) (E.k (PV.int (1)))) (Es.cons (E.k PV.non) (Es.cons (E.tup (Es.cons (E.v 1) Es.nil)) (Es.cons (E.bin Bop.pow (E.k (PV.int (10))) (E.k (PV.int (9)))) Es.nil))))))))) Es.nil)) [0, 1])) Ss.nil) Ss.nil) (Ss.cons (S.ite ((E.v 1).isi (Cl.ty "str")) (Ss.cons (S.ret (E.call io (Es.cons (E.v 0) (Es.cons (E.lst (Es.cons (E.bin Bop.add (E.v 1) (E.k (PV.str (("a" : PySem.Str))))) (Es.cons ((E.v 1).sl (some (E.k (PV.int (1)))) none) (Es.cons (E.mt Mt.upper (E.v 1) Es.nil) (Es.cons (E.k (PV.str (("" : PySem.Str)))) (Es.cons (E.k PV.non) (Es.cons (E.k (PV.int (0))) Es.nil))))))) Es.nil)) [0, 1])) Ss.nil) Ss.nil) (Ss.cons (S.ret (E.call iodd (Es.cons (E.v 0) Es.nil) [0])) Ss.nil))))))
section
variable {G : SI} {Q : Cb G}
theorem of_dp {H : Help Q} {d p B : Nat} {Φ : List Env} {st : Store} {K : PV → Store → Prop} {X : Nat → PV → Store → Prop} {xs : List PV} (hp : Pot st p B) (hB : B ≤ 1000000000) (h0 : 0 < xs.length) (h1 : xs.length ≤ 1000) (hx : dpvs xs = true) (k : ∀ v' st', dpv v' = true → PotS st st' p (B + 1) → K v' st') : WR (Q.cf (d + 2) H.io [.ref p, .lst xs] Φ st) K X :=
  H.of hp hB h0 h1 (dpvs_nors hx) fun x hm st' ps => k x st' (dpvs_iff.mp hx x hm) ps
def isTup2 : PV → Bool | .tup _ => true | _ => false
theorem bent_atom (H : Help Q) {ib iodd : Nat}
    (hC : ∀ {d : Nat} {Φ : List Env} {st : Store} {K : PV → Store → Prop} {X : Nat → PV → Store → Prop} {a b : PV}, WSS ⟨Q.cf d, Q.cl d, Q.W, fun ρ => Φ ++ [ρ], Φ.length, st.length⟩ (bentB H.it H.io ib iodd) [some a, some b, none] st (fun fl st' => FK false Φ.length st.length fl st' K) (fun k v st' => nor v = true ∧ X k v (st'.take st.length)) → WR (Q.cf (d + 1) ib [a, b] Φ st) K X)
    (hO : ∀ {d : Nat} {Φ : List Env} {st : Store} {K : PV → Store → Prop} {X : Nat → PV → Store → Prop} {n B : Nat}, Pot st n B → B ≤ 1000000000 → (∀ v' st', dpv v' = true → PotS st st' n (B + 1) → K v' st') → WR (Q.cf (d + 3) iodd [.ref n] Φ st) K X)
    {n : Nat} {v : PV} (hv : BV n v) (ht : isTup2 v = false) {d p B : Nat} {Φ : List Env} {st : Store} {K : PV → Store → Prop} {X : Nat → PV → Store → Prop} (hp : Pot st p B) (hB : B ≤ 1000000000) (k : ∀ v' st', dpv v' = true → PotS st st' p (B + 1) → K v' st') : WR (Q.cf (d + 4) ib [.ref p, v] Φ st) K X := by
    refine hC ?_
    unfold bentB
    cases hv with
    | int hi =>
      rename_i i
      repeat ac_rfl
      refine GV.strI (Nat.lt_trans (log2_of hi (by decide)) (by decide)) ?_
      repeat ac_rfl
      refine GV.powI (by decide) (by decide +kernel) ?_
      repeat ac_rfl
      refine of_dp hp (by omega) (by simp) (by simp) rfl fun v' st' h1 ps => ?_
      repeat ac_rfl
      exact FK.rtl ps.len (dpv_nor h1) (k v' st' h1 ps)
    | bl =>
      repeat ac_rfl
      refine of_dp hp (by omega) (by simp) (by simp) rfl fun v' st' h1 ps => ?_
      repeat ac_rfl
      exact FK.rtl ps.len (dpv_nor h1) (k v' st' h1 ps)
    | non =>
      repeat ac_rfl
      refine hO hp (by omega) fun v' st' h1 ps => ?_
      repeat ac_rfl
      exact FK.rtl ps.len (dpv_nor h1) (k v' st' h1 ps)
    | str hs =>
      repeat ac_rfl
      refine GV.addS (by unfold SZ; have : (("a" : Str)).length = 1 := rfl; omega) ?_
      repeat ac_rfl
      refine GV.slS (by unfold SZ; omega) fun z => ?_
      repeat ac_rfl
      refine GV.upO ?_
      repeat ac_rfl
      refine GV.up (by omega) ?_
      repeat ac_rfl
      refine of_dp hp (by omega) (by simp) (by simp) rfl fun v' st' h1 ps => ?_
      repeat ac_rfl
      exact FK.rtl ps.len (dpv_nor h1) (k v' st' h1 ps)
    | tup _ _ => cases ht
/-- a value bent -/
theorem bent_W (H : Help Q) {ib iodd : Nat}
    (hC : ∀ {d : Nat} {Φ : List Env} {st : Store} {K : PV → Store → Prop} {X : Nat → PV → Store → Prop} {a b : PV}, WSS ⟨Q.cf d, Q.cl d, Q.W, fun ρ => Φ ++ [ρ], Φ.length, st.length⟩ (bentB H.it H.io ib iodd) [some a, some b, none] st (fun fl st' => FK false Φ.length st.length fl st' K) (fun k v st' => nor v = true ∧ X k v (st'.take st.length)) → WR (Q.cf (d + 1) ib [a, b] Φ st) K X)
    (hO : ∀ {d : Nat} {Φ : List Env} {st : Store} {K : PV → Store → Prop} {X : Nat → PV → Store → Prop} {n B : Nat}, Pot st n B → B ≤ 1000000000 → (∀ v' st', dpv v' = true → PotS st st' n (B + 1) → K v' st') → WR (Q.cf (d + 3) iodd [.ref n] Φ st) K X) :
    ∀ (n : Nat), n ≤ 60 → ∀ {v : PV}, BV n v → ∀ {d p B : Nat} {Φ : List Env} {st : Store} {K : PV → Store → Prop} {X : Nat → PV → Store → Prop}, Pot st p B → B + 3 * n ≤ 999999990 → (∀ v' st', dpv v' = true → PotS st st' p (B + 3 * n + 3) → K v' st') → WR (Q.cf (d + n + 4) ib [.ref p, v] Φ st) K X := by
  intro n
  induction n with
  | zero =>
    intro hn v hv d p B Φ st K X hp hB k
    refine bent_atom H hC hO hv ?_ hp (by omega) fun v' st' h1 ps => k v' st' h1 (ps.mono (by omega))
    cases hv <;> rfl
  | succ n ih =>
    intro hn v hv d p B Φ st K X hp hB k
    have e : d + (n + 1) + 4 = (d + n + 4) + 1 := by omega
    rw [e]
    cases ht : isTup2 v with
    | false => exact bent_atom H hC hO hv ht hp (by omega) fun v' st' h1 ps => k v' st' h1 (ps.mono (by omega))
    | true =>
      cases v with
      | tup xs =>
        have hne := BV.ne hv (by omega)
        have hdp : ∀ x ∈ xs, dpv x = true := dpvs_iff.mp (by simpa [dpv] using hv.dp)
        cases hv with
        | tup hx hl =>
          have c1 : ∀ {lo hi : Option Int}, (cut xs lo hi).length ≤ 100000 := fun {lo hi} => Nat.le_trans cut_len hl
          refine hC ?_
          unfold bentB
          have plainT : ∀ {st2 : Store} {B2 : Nat}, PotS st st2 p B2 → B2 ≤ B + 1 → WSS ⟨Q.cf (d + n + 4), Q.cl (d + n + 4), Q.W, fun ρ => Φ ++ [ρ], Φ.length, st.length⟩ (Ss.cons (S.ite ((E.v 1).isi (Cl.ty "tuple")) (Ss.cons (S.ret (E.call H.io (Es.cons (E.v 0) (Es.cons (E.lst (Es.cons (E.bn Bn.list (Es.cons (E.v 1) Es.nil)) (Es.cons ((E.v 1).sl (some (E.k (PV.int (1)))) none) (Es.cons ((E.v 1).sl none (some (E.k (PV.int (1))).neg)) (Es.cons (E.bin Bop.add (E.v 1) ((E.v 1).sl (some (E.k (PV.int (1))).neg) none)) (Es.cons (E.v 1).rev (Es.cons (E.tup Es.nil) (Es.cons (E.k PV.non) Es.nil)))))))) Es.nil)) [0, 1])) Ss.nil) Ss.nil) (Ss.cons (S.ite ((E.v 1).isi (Cl.ty "bool")) (Ss.cons (S.ret (E.call H.io (Es.cons (E.v 0) (Es.cons (E.lst (Es.cons (E.v 1).not (Es.cons (E.bi Bi.int1 (Es.cons (E.v 1) Es.nil)) (Es.cons (E.k PV.non) Es.nil)))) Es.nil)) [0, 1])) Ss.nil) Ss.nil) (Ss.cons (S.ite ((E.v 1).isi (Cl.ty "int")) (Ss.cons (S.ret (E.call H.io (Es.cons (E.v 0) (Es.cons (E.lst (Es.cons (E.bin Bop.add (E.v 1) (E.k (PV.int (1)))) (Es.cons (E.bin Bop.sub (E.v 1) (E.k (PV.int (1)))) (Es.cons (E.bin Bop.sub (E.v 1).neg (E.k (PV.int (1)))) (Es.cons (E.bi Bi.str1 (Es.cons (E.v 1) Es.nil)) (Es.cons (E.cmp Cop.eq (E.v 1) (E.k (PV.int (1)))) (Es.cons (E.k PV.non) (Es.cons (E.tup (Es.cons (E.v 1) Es.nil)) (Es.cons (E.bin Bop.pow (E.k (PV.int (10))) (E.k (PV.int (9)))) Es.nil))))))))) Es.nil)) [0, 1])) Ss.nil) Ss.nil) (Ss.cons (S.ite ((E.v 1).isi (Cl.ty "str")) (Ss.cons (S.ret (E.call H.io (Es.cons (E.v 0) (Es.cons (E.lst (Es.cons (E.bin Bop.add (E.v 1) (E.k (PV.str (("a" : PySem.Str))))) (Es.cons ((E.v 1).sl (some (E.k (PV.int (1)))) none) (Es.cons (E.mt Mt.upper (E.v 1) Es.nil) (Es.cons (E.k (PV.str (("" : PySem.Str)))) (Es.cons (E.k PV.non) (Es.cons (E.k (PV.int (0))) Es.nil))))))) Es.nil)) [0, 1])) Ss.nil) Ss.nil) (Ss.cons (S.ret (E.call iodd (Es.cons (E.v 0) Es.nil) [0])) Ss.nil)))))
              [some (.ref p), some (.tup xs), none] st2 (fun fl st' => FK false Φ.length st.length fl st' K) (fun k v st' => nor v = true ∧ X k v (st'.take st.length)) := by
            intro st2 B2 ps hB2
            repeat ac_rfl
            refine GV.of (a := xs) rfl ?_
            repeat ac_rfl
            refine GV.of rfl ?_
            repeat ac_rfl
            refine GV.of rfl ?_
            repeat ac_rfl
            refine GV.of rfl ?_
            repeat ac_rfl
            refine GV.addT (by have := c1 (lo := some (-1)) (hi := none); unfold SZ; omega) ?_
            repeat ac_rfl
            refine GV.of rfl ?_
            repeat ac_rfl
            refine of_dp ps.pot (by omega) (by simp) (by simp) (dpvs_iff.mpr ?_) fun v' st' h1 ps2 => ?_
            · intro x hx'
              simp only [List.mem_cons, List.not_mem_nil, or_false] at hx'
              rcases hx' with rfl | rfl | rfl | rfl | rfl | rfl | rfl
              · exact dpv_lst hdp
              · exact dpv_tup fun y hy => hdp y (cut_mem hy)
              · exact dpv_tup fun y hy => hdp y (cut_mem hy)
              · refine dpv_tup fun y hy => ?_
                rcases List.mem_append.mp hy with h | h
                · exact hdp y h
                · exact hdp y (cut_mem h)
              · exact dpv_tup fun y hy => hdp y (List.mem_reverse.mp hy)
              · rfl
              · rfl
            · repeat ac_rfl
              exact FK.rtl (ps2.len.trans ps.len) (dpv_nor h1) (k v' st' h1 ((ps.trans ps2).mono (by omega)))
          repeat ac_rfl
          refine GV.of hne ?_
          cases hxs : xs.isEmpty with
          | true =>
            nofun
            exact plainT (PotS.refl hp) (by omega)
          | false =>
            repeat ac_rfl
            refine H.take hp (by omega) (by decide) (by decide) fun r1 s1 g0 g1 p1 => ?_
            repeat ac_rfl
            refine BR.d (fun hr => ?_) fun hr => ?_
            · have hlen : 0 < xs.length := by
                cases xs with
                | nil => cases hxs
                | cons a r => simp
              repeat ac_rfl
              refine H.take p1.pot (by omega) (by omega) (by omega) fun r2 s2 g2 g3 p2 => ?_
              repeat ac_rfl
              refine GV.of rfl ?_
              repeat ac_rfl
              refine GV.ixT g2 g3 fun x hxm => ?_
              repeat ac_rfl
              refine ih (by omega) (hx x hxm) p2.pot (by omega) fun v' s3 h1 p3 => ?_
              repeat ac_rfl
              refine GV.addT (by have := c1 (lo := none) (hi := some r2); unfold SZ; simp; omega) ?_
              repeat ac_rfl
              refine GV.of rfl ?_
              repeat ac_rfl
              refine GV.addT (by have := c1 (lo := none) (hi := some r2); have := c1 (lo := some (r2 + 1)) (hi := none); unfold SZ; simp; omega) ?_
              repeat ac_rfl
              have hd : dpv (.tup (cut xs none (some r2) ++ [v'] ++ cut xs (some (r2 + 1)) none)) = true := by
                refine dpv_tup fun y hy => ?_
                rcases List.mem_append.mp hy with h | h
                · rcases List.mem_append.mp h with h | h
                  · exact hdp y (cut_mem h)
                  · have : y = v' := by simpa using h
                    rw [this]; exact h1
                · exact hdp y (cut_mem h)
              exact FK.rtl (p3.len.trans (p2.len.trans p1.len)) (dpv_nor hd) (k _ _ hd (((p1.trans p2).trans p3).mono (by omega)))
            · nofun
              exact plainT p1 (by omega)
      | _ => cases ht
end
end PM
set_option Elab.async false
set_option linter.all false
set_option maxRecDepth 100000
set_option maxHeartbeats 4000000
/-! PM44: sundries of the walks: greatest common parts, sorted sets, what is shown. -/
namespace PM
open PySem L2
local macro_rules | `(tactic| ac_rfl) => `(tactic| first | ((with_reducible show PM.WE _ _ _ _ _ _); (first | refine PM.WE.v (by rfl) ?_ | refine PM.WE.k ?_ | refine PM.WE.bin ?_ | refine PM.WE.cmp ?_ | refine PM.WE.call ?_ | refine PM.WE.ix ?_ | refine PM.WE.bi ?_ | refine PM.WE.tup ?_ | refine PM.WE.lst ?_ | refine PM.WE.and ?_ | refine PM.WE.or ?_ | refine PM.WE.not ?_ | refine PM.WE.neg ?_ | refine PM.WE.ite ?_ | refine PM.WE.isi ?_ | refine PM.WE.at ?_ | refine PM.WE.chain ?_ | refine PM.WE.sl ?_ | refine PM.WE.rev ?_ | refine PM.WE.bn ?_ | refine PM.WE.mt ?_ | refine PM.WE.mut ?_ | refine PM.WE.cm ?_ | refine PM.WE.lam ?_ | refine PM.WE.dc ?_ | refine PM.WE.mkE ?_ | refine PM.WE.callv (by rfl) ?_)) | ((with_reducible show PM.VW _ _ _); refine PM.VW.nr (by rfl) ?_) | ((with_reducible show PM.GV (PM.isiV _ _) _); (first | refine PM.GV.of (a := true) (by rfl) ?_ | refine PM.GV.of (a := false) (by rfl) ?_)) | ((with_reducible show PM.GV (PM.ixV _ _) _); refine PM.GV.of (by rfl) ?_) | ((with_reducible show PM.GV _ _); (first | (with_reducible refine PM.GV.addI ?_) | (with_reducible refine PM.GV.subI ?_) | (with_reducible refine PM.GV.ltI ?_) | (with_reducible refine PM.GV.leI ?_) | (with_reducible refine PM.GV.gtI ?_) | (with_reducible refine PM.GV.geI ?_) | (with_reducible refine PM.GV.eqI ?_) | (with_reducible refine PM.GV.neI ?_) | (with_reducible refine PM.GV.trB ?_) | (with_reducible refine PM.GV.trI ?_) | (with_reducible refine PM.GV.trN ?_) | (with_reducible refine PM.GV.intI ?_) | (with_reducible refine PM.GV.intB ?_) | (with_reducible refine PM.GV.absI ?_) | (with_reducible refine PM.GV.lenT ?_) | (with_reducible refine PM.GV.lenL ?_) | (with_reducible refine PM.GV.lenS ?_) | (with_reducible refine PM.GV.max2I ?_) | (with_reducible refine PM.GV.min2I ?_) | (with_reducible refine PM.GV.isN ?_) | (with_reducible refine PM.GV.notN ?_) | (with_reducible refine PM.GV.eqSS ?_) | (with_reducible refine PM.GV.neSS ?_) | (with_reducible refine PM.GV.tupL ?_) | (with_reducible refine PM.GV.tupT ?_) | ((with_reducible refine PM.GV.modI ?_ ?_); (focus (first | assumption | omega))) | ((with_reducible refine PM.GV.fdivI ?_ ?_ ?_); (focus (first | assumption | omega)); (focus bv_omega)) | ((with_reducible refine PM.GV.mulI ?_ ?_ ?_); (focus bv_omega); (focus bv_omega)))) | ((with_reducible show PM.WA _ _ _ _ _ _); (first | refine PM.WA.cons ?_ | refine PM.WA.nil ?_)) | ((with_reducible show PM.WSS _ _ _ _ _ _); (first | refine PM.WSS.cons ?_ | refine PM.WSS.nil ?_)) | ((with_reducible show PM.SQ _ _ _); (first | refine PM.SQ.nx ?_ | refine PM.SQ.rt ?_ | refine PM.SQ.bk ?_ | refine PM.SQ.ct ?_)) | ((with_reducible show PM.WS _ _ _ _ _ _); (first | refine PM.WS.asg ?_ | refine PM.WS.ret ?_ | refine PM.WS.ite ?_ | refine PM.WS.ex ?_ | refine PM.WS.rais ?_ | refine PM.WS.seti ?_ | refine PM.WS.augA (by rfl) ?_ | refine PM.WS.augS (by rfl) ?_ | refine PM.WS.retn ?_ | refine PM.WS.pass ?_ | refine PM.WS.brk ?_ | refine PM.WS.cnt ?_ | refine PM.WS.fo ?_ | refine PM.WS.wh ?_ | refine PM.WS.tryc ?_)) | ((with_reducible show PM.TG _ _ _ _); (first | refine PM.TG.n (by rfl) ?_ | refine PM.TG.t ?_)) | ((with_reducible show PM.WT _ _ _ _ _ _); (first | refine PM.WT.cmp ?_ | refine PM.WT.and ?_ | refine PM.WT.or ?_ | refine PM.WT.not ?_ | refine PM.WT.ite ?_ | refine PM.WT.isi ?_ | refine PM.WT.pl (by rfl) ?_)) | ((with_reducible show PM.VWs _ _ _); (first | refine PM.VWs.cons ?_ | refine PM.VWs.nil ?_)) | ((with_reducible show PM.TGs _ _ _ _); (first | refine PM.TGs.cons ?_ | refine PM.TGs.nil ?_)) | refine PM.IsI.mk' ?_ | refine PM.IsB.mk' ?_ | refine PM.IsL.mk' ?_ | refine PM.P2.mk' ?_ | refine PM.IsE.mk' ?_ | refine PM.BR.T ?_ | refine PM.BR.F ?_ | refine PM.BR.n ?_ | ((with_reducible show PM.LP _ _ _ _); (first | refine PM.LP.nx ?_ | refine PM.LP.rt ?_ | refine PM.LP.ct ?_ | refine PM.LP.bk ?_)) | ((with_reducible show PM.PA _ _ _); refine PM.PA.mk (by rfl) ?_) | ((with_reducible show PM.WI _ _ _ _ _ _); (first | refine PM.WI.rng1 ?_ | refine PM.WI.rng2 ?_ | refine PM.WI.seq ?_ | refine PM.WI.enum ?_ | refine PM.WI.zip ?_)) | ((with_reducible show PM.WO _ _ _ _ _ _); (first | refine PM.WO.no ?_ | refine PM.WO.so ?_)) | refine PM.EN.l ?_ | refine PM.EN.t ?_ | refine PM.ZP.l ?_ | refine PM.ZP.t ?_)
local macro_rules | `(tactic| bv_omega) => `(tactic| first | assumption | decide +kernel | (apply PM.SB.sz; (focus (repeat' (first | assumption | (apply PM.SB.le <;> omega) | apply PM.SB.mul | apply PM.SB.add | apply PM.SB.sub | apply PM.SB.neg))); decide))
local macro_rules | `(tactic| nofun) => `(tactic| repeat ((fail_if_success (with_reducible show PM.WSS _ (PM.Ss.cons _ _) _ _ _ _)); ac_rfl))
section
variable {c : Cfg} {t : Tg} {p : Ss} {cnd : Option E} {e : E} {ρ : Env} {KF : Fl → Store → Prop} {Φ : List Env} {st : Store} {K : PV → Store → Prop} {X : Nat → PV → Store → Prop}
theorem gcd_loop {a b : Nat} (hb : b ≠ 0) : Nat.gcd b (a % b) = Nat.gcd a b := by
  rw [Nat.gcd_comm b, ← Nat.gcd_rec, Nat.gcd_comm]
def low (t b : Int) : PV := .tup [.int (t / (Nat.gcd b.natAbs t.natAbs : Nat)), .int (b / (Nat.gcd b.natAbs t.natAbs : Nat))]
theorem pos3 {a b : Int} (ha : 0 < a) (hb : 0 < b) : 0 < 2 * a * b := Int.mul_pos (by omega) hb
theorem isInt_of {x lo hi : Int} (h0 : lo ≤ x) (h1 : x ≤ hi) : isInt (.int x) lo hi = true := by simp [isInt, h0, h1]
theorem mul_nn {a b m n : Int} (a0 : 0 ≤ a) (a1 : a ≤ m) (b0 : 0 ≤ b) (b1 : b ≤ n) (hm : 0 ≤ m) : 0 ≤ a * b ∧ a * b ≤ m * n := ⟨Int.mul_nonneg a0 b0, Int.mul_le_mul a1 b1 b0 hm⟩
theorem WL.nil (h : KF (.nx ρ) st) : WL c t p (.fix []) ρ st KF X := ⟨h⟩
theorem WL.cons {x : PV} {xs : List PV} (h : TG t x ρ fun ρ1 => WSS c p ρ1 st (fun fl st2 => LP fl (fun ρ2 => WL c t p (.fix xs) ρ2 st2 KF X) (fun ρ2 => KF (.nx ρ2) st2) (fun v => KF (.rt v) st2)) X) : WL c t p (.fix (x :: xs)) ρ st KF X := by
  obtain ⟨ρ1, e, h⟩ := h.out
  refine ⟨WR.bnd ?_⟩
  unfold foF
  rw [e]
  refine h.out.mono (fun fl st2 h => ?_) fun _ _ _ h => h
  cases fl with
  | nx ρ2 => exact h.out.out
  | ct ρ2 => exact h.out.out
  | bk ρ2 => exact h.out
  | rt v => exact h.out
theorem nors_ints (ws : List Int) : nors (ws.map .int) = true := by
  induction ws with
  | nil => rfl
  | cons w ws ih => simpa [nors, nor] using ih
theorem nors_map {γ : Type} (f : γ → Int) (ws : List γ) : nors (ws.map fun w => .int (f w)) = true := by
  induction ws with
  | nil => rfl
  | cons w ws ih => simpa [nors, nor] using ih
theorem okvs_ints (ws : List Int) : okvs (.tup (ws.map .int)) = true := by
  show (ws.map PV.int).all okv = true
  rw [List.all_map]
  exact List.all_eq_true.mpr fun x _ => rfl
theorem areInts_ints {ws : List Int} {lo hi : Int} (h0 : ∀ w ∈ ws, lo ≤ w) (h1 : ∀ w ∈ ws, w ≤ hi) : areInts (.tup (ws.map .int)) lo hi = true := by
  show (ws.map PV.int).all _ = true
  rw [List.all_map, List.all_eq_true]
  exact fun x hx => isInt_of (h0 x hx) (h1 x hx)
theorem at_ints {ds : List Int} {j : Int} {n : Nat} (hj : j = n) (hn : n < ds.length) : L2.atI (ds.map PV.int) j = some (.int (ds[n]?.getD 0)) := by
  subst hj
  unfold L2.atI L2.ixN
  rw [if_pos (by omega), List.length_map, if_pos (by omega)]
  show (ds.map PV.int)[((n : Int)).toNat]? = _
  rw [Int.toNat_natCast, List.getElem?_map, List.getElem?_eq_getElem hn]; rfl
theorem nors_fm {γ : Type} (f : γ → Option Int) (l : List γ) : nors (l.filterMap fun x => (f x).map .int) = true := by
  induction l with
  | nil => rfl
  | cons x l ih =>
    rw [List.filterMap_cons]
    cases f x with
    | none => exact ih
    | some y => simpa [nors, nor] using ih
theorem tele (f : Nat → Int) : ∀ k, ((List.range k).map fun i => f (i + 1) - f i).sum = f k - f 0
  | 0 => by simp
  | k + 1 => by rw [List.range_succ, List.map_append, List.sum_append, tele f k]; simp; omega
theorem foldMax_le {l : List Int} {q : Int} (h : ∀ x ∈ l, x ≤ q) : ∀ {a : Int}, a ≤ q → l.foldl (fun a b => if b > a then b else a) a ≤ q := by
  induction l with
  | nil => intro a ha; exact ha
  | cons x l ih =>
    intro a ha
    rw [List.foldl_cons]
    refine ih (fun y hy => h y (List.mem_cons_of_mem _ hy)) ?_
    have := h x (List.mem_cons_self ..)
    split <;> omega
theorem foldMin_ge {l : List Int} {q : Int} (h : ∀ x ∈ l, q ≤ x) : ∀ {a : Int}, q ≤ a → q ≤ l.foldl (fun a b => if b < a then b else a) a := by
  induction l with
  | nil => intro a ha; exact ha
  | cons x l ih =>
    intro a ha
    rw [List.foldl_cons]
    refine ih (fun y hy => h y (List.mem_cons_of_mem _ hy)) ?_
    have := h x (List.mem_cons_self ..)
    split <;> omega
theorem GV.maxT {l : List Int} {q : Int} {K : PV → Prop} (hl : l ≠ []) (h : ∀ x ∈ l, x ≤ q) (k : ∀ m, m ≤ q → K (.int m)) : GV (biV .maxL [.tup (l.map .int)]) K := by
  cases l with
  | nil => exact absurd rfl hl
  | cons a r =>
    refine ⟨.int (r.foldl (fun a b => if b > a then b else a) a), ?_, k _ (foldMax_le (fun x hx => h x (List.mem_cons_of_mem _ hx)) (h a (List.mem_cons_self ..)))⟩
    show (match (allI (((a :: r)).map PV.int)).bind foldMax with | some m => some (PV.int m) | none => _) = _
    rw [allI_map]; rfl
theorem GV.minT {l : List Int} {q : Int} {K : PV → Prop} (hl : l ≠ []) (h : ∀ x ∈ l, q ≤ x) (k : ∀ m, q ≤ m → K (.int m)) : GV (biV .minL [.tup (l.map .int)]) K := by
  cases l with
  | nil => exact absurd rfl hl
  | cons a r =>
    refine ⟨.int (r.foldl (fun a b => if b < a then b else a) a), ?_, k _ (foldMin_ge (fun x hx => h x (List.mem_cons_of_mem _ hx)) (h a (List.mem_cons_self ..)))⟩
    show (match (allI (((a :: r)).map PV.int)).bind foldMin with | some m => some (PV.int m) | none => _) = _
    rw [allI_map]; rfl
theorem CM.dyn {n : Nat} {xs : List PV} (g : PV → PV) (h : st[n]? = some (.lst xs)) (hW : xs.length < c.W) (hs : ∀ x ∈ xs, CE c t cnd e ρ x st fun o st' => o = some (g x) ∧ st' = st) (he : K (.lst (xs.map g)) st) : CM c t cnd e ρ (.dyn n) st K := by
  refine ⟨WR.bnd ?_⟩
  suffices z : ∀ (ys : List PV) (W i : Nat), xs.drop i = ys → i ≤ xs.length → ys.length < W → WR (loopD (cmF c t cnd e ρ) n W i st) (fun r st' => r = ys.map g ∧ st' = st) NX from
    (z xs c.W 0 rfl (Nat.zero_le _) hW).mono (fun r st' ⟨h1, h2⟩ => by subst h1 h2; exact he) fun _ _ _ h => h
  intro ys
  induction ys with
  | nil =>
    intro W i hi hl hw
    have : xs.length ≤ i := by have := congrArg List.length hi; simp at this; omega
    cases W with
    | zero => simp at hw
    | succ W =>
      unfold loopD
      rw [h]
      dsimp only
      rw [List.getElem?_eq_none this]
      exact ⟨rfl, rfl⟩
  | cons y ys ih =>
    intro W i hi hl hw
    have hlt : i < xs.length := by have := congrArg List.length hi; simp at this; omega
    have e1 := List.drop_eq_getElem_cons hlt
    rw [hi] at e1
    injection e1 with e1 e2
    cases W with
    | zero => simp at hw
    | succ W =>
      unfold loopD
      rw [h]
      dsimp only
      rw [List.getElem?_eq_getElem hlt]
      refine WR.bnd ((hs xs[i] (List.getElem_mem hlt)).out.mono (fun o st2 ⟨h1, h2⟩ => ?_) fun _ _ _ h => h)
      subst h1 h2
      refine WR.bnd ((ih W (i + 1) e2.symm (by omega) (by simpa using hw)).mono (fun r st3 ⟨h1, h2⟩ => ?_) fun _ _ _ h => h)
      subst h1 h2
      exact ⟨by rw [← e1]; rfl, rfl⟩
theorem sh1 {i : Int} (h0 : -(2 ^ 62) < i) (h1 : i < 2 ^ 62) : Shw 0 63 (.int i) := Shw.int (SB.le h0 h1) (by decide) (by decide)
theorem shT2 {x y : PV} {m n : Nat} (hx : Shw m n x) (hy : Shw m n y) : Shw (m + 1) (2 * (n + 2) + 2) (.tup [x, y]) := Shw.tup (xs := [x, y]) (by
  intro z hz
  rcases List.mem_cons.mp hz with rfl | hz
  · exact hx
  · rcases List.mem_cons.mp hz with rfl | hz
    · exact hy
    · cases hz)
theorem shT1 {x : PV} {m n : Nat} (hx : Shw m n x) : Shw (m + 1) (1 * (n + 2) + 2) (.tup [x]) := Shw.tup (xs := [x]) (by
  intro z hz
  rcases List.mem_cons.mp hz with rfl | hz
  · exact hx
  · cases hz)
theorem shL2 {x y : PV} {m n : Nat} (hx : Shw m n x) (hy : Shw m n y) : Shw (m + 1) (2 * (n + 2) + 2) (.lst [x, y]) := Shw.lst (xs := [x, y]) (by
  intro z hz
  rcases List.mem_cons.mp hz with rfl | hz
  · exact hx
  · rcases List.mem_cons.mp hz with rfl | hz
    · exact hy
    · cases hz)
theorem shL1 {x : PV} {m n : Nat} (hx : Shw m n x) : Shw (m + 1) (1 * (n + 2) + 2) (.lst [x]) := Shw.lst (xs := [x]) (by
  intro z hz
  rcases List.mem_cons.mp hz with rfl | hz
  · exact hx
  · cases hz)
theorem shB {b : Bool} : Shw 0 63 (.bl b) := Shw.bl.mono (by decide) (by decide)
theorem shN : Shw 0 63 .non := Shw.non.mono (by decide) (by decide)
theorem tk {X : Nat → PV → Store → Prop} {k : Nat} {v : PV} {st : Store} (hn : nor v = true) (x : X k v st) : nor v = true ∧ X k v (st.take st.length) := ⟨hn, by rw [List.take_length]; exact x⟩
theorem mem_ins {x : Int} : ∀ {l : List Int} {y : Int}, y ∈ ins (fun a b => decide (a < b)) x l ↔ y = x ∨ y ∈ l
  | [], y => by simp [ins]
  | z :: r, y => by
    unfold ins
    split
    · simp
    · simp [mem_ins (l := r)]; constructor
      · rintro (h | h | h) <;> simp [h]
      · rintro (h | h | h) <;> simp [h]
theorem mem_isort : ∀ {l : List Int} {y : Int}, y ∈ isort (fun a b => decide (a < b)) l ↔ y ∈ l
  | [], y => by simp [isort]
  | z :: r, y => by simp [isort, mem_ins, mem_isort (l := r)]
theorem pw_ins {x : Int} : ∀ {l : List Int}, l.Pairwise (· < ·) → x ∉ l → (ins (fun a b => decide (a < b)) x l).Pairwise (· < ·)
  | [], _, _ => by simp [ins]
  | z :: r, h, hx => by
    unfold ins
    have hz := List.pairwise_cons.mp h
    split
    · rename_i hlt
      have hlt : x < z := by simpa using hlt
      refine List.pairwise_cons.mpr ⟨fun y hy => ?_, h⟩
      rcases List.mem_cons.mp hy with rfl | hy
      · exact hlt
      · have := hz.1 y hy; omega
    · rename_i hlt
      have hlt : ¬ x < z := by simpa using hlt
      have hne : x ≠ z := fun e => hx (by simp [e])
      refine List.pairwise_cons.mpr ⟨fun y hy => ?_, pw_ins hz.2 fun e => hx (by simp [e])⟩
      rcases mem_ins.mp hy with rfl | hy
      · omega
      · exact hz.1 y hy
theorem pw_isort : ∀ {l : List Int}, l.Nodup → (isort (fun a b => decide (a < b)) l).Pairwise (· < ·)
  | [], _ => by simp [isort]
  | z :: r, h => by
    have h := List.nodup_cons.mp h
    unfold isort
    exact pw_ins (pw_isort h.2) fun e => h.1 (mem_isort.mp e)
theorem mem_dedup : ∀ {l : List Int} {y : Int}, y ∈ dedup l ↔ y ∈ l
  | [], y => by simp [dedup]
  | z :: r, y => by
    unfold dedup
    split
    · rename_i hz
      rw [mem_dedup (l := r)]
      simp only [List.mem_cons]
      constructor
      · exact .inr
      · rintro (rfl | h)
        · exact hz
        · exact h
    · simp [mem_dedup (l := r)]
theorem nd_dedup : ∀ {l : List Int}, (dedup l).Nodup
  | [] => by simp [dedup]
  | z :: r => by
    unfold dedup
    split
    · exact nd_dedup
    · rename_i hz
      exact List.nodup_cons.mpr ⟨fun e => hz (mem_dedup.mp e), nd_dedup⟩
theorem len_dedup : ∀ {l : List Int}, (dedup l).length ≤ l.length
  | [] => by simp [dedup]
  | z :: r => by
    unfold dedup
    have := len_dedup (l := r)
    split <;> simp <;> omega
theorem len_ins {x : Int} : ∀ {l : List Int}, (ins (fun a b => decide (a < b)) x l).length = l.length + 1
  | [] => by simp [ins]
  | z :: r => by
    unfold ins
    split
    · simp
    · simp [len_ins (l := r)]
theorem len_isort : ∀ {l : List Int}, (isort (fun a b => decide (a < b)) l).length = l.length
  | [] => by simp [isort]
  | z :: r => by simp [isort, len_ins, len_isort (l := r)]
theorem rising_pw : ∀ {l : List Int}, l.Pairwise (· < ·) → rising l = true
  | [], _ => rfl
  | [x], _ => rfl
  | x :: y :: r, h => by
    have h := List.pairwise_cons.mp h
    have ih := rising_pw h.2
    unfold rising at ih ⊢
    simp only [List.tail_cons, List.zip_cons_cons, List.all_cons, Bool.and_eq_true, decide_eq_true_eq] at ih ⊢
    exact ⟨h.1 y (by simp), ih⟩
theorem GV.sset {ns : List Int} {K : List PV → Prop} (hl : ns.length < 60) (k : ∀ ws : List Int, ws.length ≤ ns.length → (∀ w ∈ ws, w ∈ ns) → rising ws = true → K (ws.map .int)) : GV (biN .sset [.lst (ns.map .int)]) K := by
  refine ⟨(isort (fun a b => decide (a < b)) (dedup ns)).map .int, ?_, k _ (by rw [len_isort]; exact len_dedup) (fun w hw => mem_dedup.mp (mem_isort.mp hw)) (rising_pw (pw_isort nd_dedup))⟩
  show (allI _).bind _ = _
  rw [allI_map]
  show (if ns.length < 4000 ∧ (dedup ns).length < 64 then _ else _) = _
  have := len_dedup (l := ns)
  rw [if_pos ⟨by omega, by omega⟩]
/-! what is shown -/
theorem shI {n : Nat} {ns : List Int} (h : ∀ x ∈ ns, -(2 ^ 62) < x ∧ x < 2 ^ 62) (hl : ns.length ≤ n) : Shw 1 (n * 65 + 2) (.tup (ns.map .int)) := by
  refine (Shw.tup (m := 0) (n := 63) (xs := ns.map .int) ?_).mono (Nat.le_refl _) ?_
  · intro z hz
    obtain ⟨x, hx, rfl⟩ := List.mem_map.mp hz
    exact sh1 (h x hx).1 (h x hx).2
  · rw [List.length_map]; omega
theorem shF {γ : Type} {n : Nat} {l : List γ} {f : γ → Option Int} (h : ∀ a y, a ∈ l → f a = some y → -(2 ^ 62) < y ∧ y < 2 ^ 62) (hl : l.length ≤ n) : Shw 1 (n * 65 + 2) (.tup (l.filterMap fun a => (f a).map .int)) := by
  refine (Shw.tup (m := 0) (n := 63) (xs := l.filterMap fun a => (f a).map .int) ?_).mono (Nat.le_refl _) ?_
  · intro z hz
    obtain ⟨a, ha, e⟩ := List.mem_filterMap.mp hz
    obtain ⟨y, ey, rfl⟩ := Option.map_eq_some_iff.mp e
    exact sh1 (h a y ha ey).1 (h a y ha ey).2
  · have := List.length_filterMap_le (fun a => (f a).map PV.int) l
    omega
theorem shLow {t b : Int} (h0 : -(2 ^ 62) < t) (h1 : t < 2 ^ 62) (h2 : -(2 ^ 62) < b) (h3 : b < 2 ^ 62) : Shw 1 132 (low t b) :=
  shT2 (Shw.int (SB.ediv (SB.le h0 h1)) (by decide) (by decide)) (Shw.int (SB.ediv (SB.le h2 h3)) (by decide) (by decide))
theorem Pot.app {n B : Nat} {ob : Ob} (h : Pot st n B) : Pot (st ++ [ob]) n B := by
  obtain ⟨own, mix, k, h1, r⟩ := h.out
  exact ⟨own, mix, k, by rw [List.getElem?_append_left h.lt]; exact h1, r⟩
theorem lastE {s : Store} {ob : Ob} : (s ++ [ob])[s.length]? = some ob := by simp
theorem setE {s : Store} {a b : Ob} : (s ++ [a]).set s.length b = s ++ [b] := by
  rw [List.set_append_right _ _ (Nat.le_refl _)]; simp
theorem GV.okE {s : Store} {xs : List PV} {K : Unit → Prop} (k : K ()) : GV (PM.okO .append (s ++ [.lst xs]) (.ref s.length)) K := GV.okO (by decide) lastE k
theorem GV.appE {nb : Nat} {s : Store} {xs : List PV} {y : PV} {K : PV × Store → Prop} (hb : nb ≤ s.length) (hy : nrf y = true) (hl : xs.length < SZ) (k : K (.non, s ++ [.lst (xs ++ [y])])) : GV (mtV nb .append (s ++ [.lst xs]) (.ref s.length) [y]) K :=
  GV.app lastE (by rw [decide_eq_true hb, hy]; simp) hl (by rw [setE]; exact k)
theorem GV.seqE {s : Store} {xs : List PV} {K : ItV → Prop} (k : K (.dyn s.length)) : GV (toSeq (s ++ [.lst xs]) (.ref s.length)) K := ⟨.dyn s.length, by
  show (match (s ++ [Ob.lst xs])[s.length]? with | some (.lst _) => some (ItV.dyn s.length) | _ => none) = _
  rw [lastE], k⟩
theorem GV.tr1 {j : Int} {K : PV → Prop} (h0 : inR j = true) (h : j.toNat ≤ SZ) (k : K (.tup (rangeL 0 j.toNat))) : GV (biV .tr1 [.int j]) K := ⟨_, by
  show (if (inR j && decide (j.toNat ≤ SZ)) = true then some (PV.tup (rangeL 0 j.toNat)) else none) = _
  rw [h0, decide_eq_true h]; rfl, k⟩
theorem phi_at {ρ : PM.Env} : (Φ ++ [ρ])[Φ.length]? = some ρ := by simp
theorem nor_nr {v : PV} (h : nor v = true) : isRef v = false := by cases v <;> first | rfl | (simp [nor] at h)
theorem all_t {γ : Type} (l : List γ) : (l.all fun _ => true) = true := by simp
/-- _law_common -/
def commonB : Ss := (Ss.cons (S.asg (Tg.t [Tg.n 0, Tg.n 1]) (E.tup (Es.cons (E.bi Bi.abs (Es.cons (E.v 0) Es.nil)) (Es.cons (E.bi Bi.abs (Es.cons (E.v 1) Es.nil)) Es.nil)))) (Ss.cons (S.wh (E.cmp Cop.ne (E.v 1) (E.k (PV.int (0)))) (Ss.cons (S.asg (Tg.t [Tg.n 0, Tg.n 1]) (E.tup (Es.cons (E.v 1) (Es.cons (E.bin Bop.mod (E.v 0) (E.v 1)) Es.nil)))) Ss.nil)) (Ss.cons (S.ret (E.v 0)) Ss.nil)))
theorem common_W {a b : Int} (hW : b.natAbs < c.W) (k : KF (.rt (.int (Nat.gcd b.natAbs a.natAbs : Nat))) st) : WSS c commonB [some (.int a), some (.int b)] st KF X := by
  unfold commonB
  repeat ac_rfl
  refine WW.inv (fun m ρ st' => st' = st ∧ ∃ x y : Nat, ρ = [some (.int x), some (.int y)] ∧ Nat.gcd x y = Nat.gcd b.natAbs a.natAbs ∧ m = y) (m := b.natAbs) hW ⟨rfl, a.natAbs, b.natAbs, rfl, Nat.gcd_comm _ _, rfl⟩ ?_
  · rintro m ρ st' ⟨rfl, x, y, rfl, hg, rfl⟩
    repeat ac_rfl
    refine BR.d (fun h => ?_) fun h => ?_
    · repeat ac_rfl
      have hc : m = 0 := by omega
      subst hc
      have ha : x = Nat.gcd b.natAbs a.natAbs := by rw [← hg]; simp
      rw [ha]; exact k
    · have hc : (0 : Int) < m := by omega
      repeat ac_rfl
      refine ⟨x % m, Nat.mod_lt _ (by omega), rfl, m, x % m, rfl, ?_, rfl⟩
      rw [gcd_loop (by omega), hg]
/-! ### what repr tells -/
def rps (x : PV) : Str := match biV .repr [x] with | some (.str s) => s | _ => Str.empty
structure Shr (x : PV) : Prop where
  out : biV .repr [x] = some (.str (rps x))
theorem Shw.r {m n : Nat} {x : PV} (h : Shw m n x) (hm : m ≤ 64) (hn : n ≤ SZ) : Shr x := ⟨by
  unfold rps
  rw [h.repr hm hn]⟩
theorem GV.rep {x : PV} {K : PV → Prop} (h : Shr x) (k : K (.str (rps x))) : GV (biV .repr [x]) K := ⟨_, h.out, k⟩
theorem Shr.of {x : PV} {d : PyData} (e : toDd x = some d) (h : okShowD d = true) : Shr x := by
  have e2 : biV .repr [x] = some (.str d.shown) := by
    show (match toDd x with | some d => if okShowD d then some (PV.str d.shown) else none | none => match toD x with | some d => if okShow d then some (.str d.shown) else none | none => mkdS x) = _
    rw [e]
    dsimp only
    rw [if_pos h]
  refine ⟨?_⟩
  unfold rps
  rw [e2]
theorem shD0 : Shr (.dct [] []) := Shr.of rfl (by decide +kernel)
theorem shD1 : Shr (.dct [.str "a"] [.int 1]) := Shr.of rfl (by decide +kernel)
end
end PM
set_option Elab.async false
set_option linter.all false
set_option maxRecDepth 100000
set_option maxHeartbeats 4000000
/-! PM45: the pot beside lists, lists walked while the store changes, errors that were made. -/
namespace PM
open PySem
theorem PotS.app {s s' : Store} {n B : Nat} {ob : Ob} (hn : n < s.length) (h : PotS (s ++ [ob]) s' n B) : ∃ s2, s' = s2 ++ [ob] ∧ PotS s s2 n B := by
  have hl := h.len
  rw [List.length_append] at hl
  simp only [List.length_cons, List.length_nil] at hl
  have e1 : s'[s.length]? = some ob := (h.oth s.length (by omega)).trans (by simp)
  have e2 : s' = s'.take s.length ++ [ob] := by
    apply List.ext_getElem?
    intro i
    by_cases hi : i < s.length
    · rw [List.getElem?_append_left (by rw [List.length_take]; omega), List.getElem?_take_of_lt hi]
    · by_cases hi2 : i = s.length
      · subst hi2
        rw [e1, List.getElem?_append_right (by rw [List.length_take]; omega), List.length_take, show s.length - min s.length s'.length = 0 by omega]; rfl
      · rw [List.getElem?_eq_none (by omega), List.getElem?_eq_none (by rw [List.length_append, List.length_take]; simp; omega)]
  refine ⟨s'.take s.length, e2, ⟨?_, by rw [List.length_take]; omega, fun m hm => ?_⟩⟩
  · obtain ⟨own, mix, k, h1, r⟩ := h.pot.out
    exact ⟨own, mix, k, by rw [List.getElem?_take_of_lt hn]; exact h1, r⟩
  · by_cases hi : m < s.length
    · rw [List.getElem?_take_of_lt hi, h.oth m hm, List.getElem?_append_left hi]
    · rw [List.getElem?_eq_none (by rw [List.length_take]; omega), List.getElem?_eq_none (by omega)]
section
variable {c : Cfg} {t : Tg} {cnd : Option E} {e : E} {ρ : PM.Env} {st : Store} {K : PV → Store → Prop}
theorem CM.dynI {n : Nat} {xs : List PV} (Inv : Nat → List PV → Store → Prop) (hst : ∀ k ys st, Inv k ys st → st[n]? = some (.lst xs)) (hW : xs.length < c.W) (h0 : Inv 0 [] st)
    (hs : ∀ k (hk : k < xs.length) ys st, Inv k ys st → CE c t cnd e ρ xs[k] st fun o st' => Inv (k + 1) (ys ++ o.toList) st')
    (he : ∀ ys st, Inv xs.length ys st → K (.lst ys) st) : CM c t cnd e ρ (.dyn n) st K := by
  refine ⟨WR.bnd ?_⟩
  suffices h : ∀ (zs : List PV) (W k : Nat) (ys : List PV) (st : Store), xs.drop k = zs → k ≤ xs.length → zs.length < W → Inv k ys st → WR (loopD (cmF c t cnd e ρ) n W k st) (fun r st' => K (.lst (ys ++ r)) st') NX from h xs c.W 0 [] st rfl (Nat.zero_le _) hW h0
  intro zs
  induction zs with
  | nil =>
    intro W k ys st hk hl hw hI
    have : k = xs.length := by have := congrArg List.length hk; rw [List.length_drop] at this; simp at this; omega
    subst this
    cases W with
    | zero => simp at hw
    | succ W =>
      unfold loopD
      rw [hst _ _ _ hI]
      dsimp only
      rw [List.getElem?_eq_none (Nat.le_refl _)]
      show K (.lst (ys ++ [])) st
      rw [List.append_nil]
      exact he ys st hI
  | cons z zs ih =>
    intro W k ys st hk hl hw hI
    have hlt : k < xs.length := by have := congrArg List.length hk; rw [List.length_drop] at this; simp at this; omega
    have e := List.drop_eq_getElem_cons hlt
    rw [hk] at e
    injection e with e1 e2
    cases W with
    | zero => simp at hw
    | succ W =>
      unfold loopD
      rw [hst _ _ _ hI]
      dsimp only
      rw [List.getElem?_eq_getElem hlt]
      refine WR.bnd ((hs k hlt ys st hI).out.mono (fun o st2 h => WR.bnd ((ih W (k + 1) _ st2 e2.symm (by omega) (by simpa using hw) h).mono (fun r st3 h => ?_) fun _ _ _ h => h)) fun _ _ _ h => h)
      cases o with
      | none =>
        show K (.lst (ys ++ r)) st3
        simpa using h
      | some y =>
        show K (.lst (ys ++ y :: r)) st3
        simpa using h
end
/-- a list of the frame's own, handed back by content -/
theorem FK.frz {lv : Nat} {st : Store} {K : PV → Store → Prop} {n m : Nat} {xs : List PV} (hm : n ≤ m) (h : st[m]? = some (.lst xs)) (hn : nors xs = true) (k : K (.lst xs) (st.take n)) : FK false lv n (.rt (.ref m)) st K := ⟨by
  have e0 : PM.frz st n (.ref m) = .lst xs := by
    unfold PM.frz
    rw [if_neg (by omega), h]
  have e1 : cls n lv (.lst xs) = true := by
    unfold cls
    exact nors_cls hn
  have e2 : fin false lv n (flV (.ok (.rt (.ref m)) st)) = .ok (.lst xs) (st.take n) := by
    show (if cls n lv (PM.frz st n (.ref m)) = true then (.ok (PM.frz st n (.ref m)) (st.take n) : R PV) else .bad) = _
    rw [e0, if_pos e1]
  rw [e2]; exact k⟩
theorem nors_mapF {γ : Type} {f : γ → PV} {l : List γ} (h : ∀ a ∈ l, nor (f a) = true) : nors (l.map f) = true := by
  induction l with
  | nil => rfl
  | cons a l ih =>
    simp only [List.map_cons, nors, Bool.and_eq_true]
    exact ⟨h a (List.mem_cons_self ..), ih fun b hb => h b (List.mem_cons_of_mem _ hb)⟩
theorem toDs_strs : ∀ ss : List Str, toDs (ss.map .str) = some (ss.map PyData.str)
  | [] => rfl
  | s :: r => by simp [toDs, toD, toDs_strs r]
theorem plain_strs : ∀ ss : List Str, PyData.plainAll (ss.map PyData.str) = true ∧ PyData.depthAll (ss.map PyData.str) = 0
  | [] => ⟨rfl, rfl⟩
  | s :: r => by
    obtain ⟨h1, h2⟩ := plain_strs r
    refine ⟨by simp [PyData.plainAll, PyData.plain, h1], ?_⟩
    show max (PyData.depth (.str s)) (PyData.depthAll (r.map PyData.str)) = 0
    rw [h2]; rfl
theorem eqD_strs (ss : List Str) : eqD (.lst (ss.map .str)) (.lst (ss.map .str)) = some true := by
  obtain ⟨h1, h2⟩ := plain_strs ss
  have e : toD (.lst (ss.map .str)) = some (.list (ss.map PyData.str)) := by simp [toD, toDs_strs]
  have hp : (PyData.list (ss.map PyData.str)).plain = true := by simpa [PyData.plain] using h1
  have l1 : layD (.list (ss.map PyData.str)) = true := by
    unfold layD
    have : (PyData.list (ss.map PyData.str)).depth ≤ 64 := by
      show PyData.depthAll (ss.map PyData.str) + 1 ≤ 64
      omega
    rw [hp, decide_eq_true this]; rfl
  unfold eqD
  rw [e]
  simp [l1, SeqAt.eqv_refl_plain _ hp]
/-! ### what repr tells of a value, of an error made of it -/
theorem repr_txt {v : PV} {z : Str} (h : txtV v = some z) : biV .repr [v] = some (.str z) := by
  show (match toDd v with | some d => if okShowD d then some (PV.str d.shown) else none | none => match toD v with | some d => if okShow d then some (.str d.shown) else none | none => mkdS v) = _
  unfold txtV at h
  cases e : toDd v with
  | some d =>
    rw [e] at h
    dsimp only at h ⊢
    split at h
    · rename_i hh; cases h; rw [if_pos hh]
    · cases h
  | none =>
    rw [e] at h
    cases e2 : toD v with
    | some d =>
      rw [e2] at h
      simp only [Option.bind_some] at h
      dsimp only
      split at h
      · rename_i hh; cases h; rw [if_pos hh]
      · cases h
    | none => rw [e2] at h; cases h
def mkT (n z : Str) : Str := nmS n ++ "(" ++ z ++ ")"
theorem repr_mkd {c : Nat} {n z : Str} {v : PV} (h : txtV v = some z) (hl : (mkT n z).length ≤ SZ) : biV .repr [.mkd c n v] = some (.str (mkT n z)) := by
  show ((txtV v).bind fun z => if (nmS n ++ "(" ++ z ++ ")").length ≤ SZ then some (PV.str (nmS n ++ "(" ++ z ++ ")")) else none) = _
  rw [h]
  exact if_pos hl
theorem GV.extE {nb : Nat} {s : Store} {xs ys : List PV} {K : PV × Store → Prop} (hn : nors ys = true) (hl : xs.length + ys.length ≤ SZ) (k : K (.non, s ++ [.lst (xs ++ ys)])) : GV (mtV nb .extend (s ++ [.lst xs]) (.ref s.length) [.tup ys]) K := ⟨_, by
  have e : mExt (s ++ [.lst xs]) (.ref s.length) [.tup ys] = some (.non, s ++ [.lst (xs ++ ys)]) := by
    unfold mExt
    dsimp only
    rw [getL_ref lastE]
    show (if (nors ys && decide (xs.length + ys.length ≤ SZ)) = true then some (PV.non, (s ++ [Ob.lst xs]).set s.length (.lst (xs ++ ys))) else none) = _
    rw [hn, decide_eq_true hl, setE]; rfl
  exact e, k⟩
theorem enumL_at {xs : List PV} {k : Nat} (h : k < (enumL xs).length) (h2 : k < xs.length) : (enumL xs)[k] = .tup [.int (k : Int), xs[k]] := by
  have e : (enumL xs)[k]? = some (.tup [.int (k : Int), xs[k]]) := by
    unfold enumL
    rw [List.getElem?_zipWith, List.getElem?_range h2, List.getElem?_eq_getElem h2]
  rw [List.getElem?_eq_getElem h] at e
  exact Option.some.inj e
theorem filtMap {γ δ : Type} (f : γ → δ) (q : γ → Bool) : ∀ l : List γ, (l.filterMap fun a => if q a = true then some (f a) else none) = (l.filter q).map f
  | [] => rfl
  | a :: l => by
    have ih := filtMap f q l
    cases h : q a <;> simp [h, ih]
end PM
set_option Elab.async false
set_option linter.all false
set_option maxRecDepth 100000
set_option maxHeartbeats 4000000
/-! PM46: tuples and lists of ints: equal, repeated, cut, numbered, from behind. -/
namespace PM
open PySem
/-- a body without its first statements -/
def dropSs : Nat → Ss → Ss
  | 0, b => b
  | n + 1, .cons _ b => dropSs n b
  | _ + 1, .nil => .nil
theorem toDs_ints : ∀ a : List Int, toDs (a.map .int) = some (a.map PyData.int)
  | [] => rfl
  | x :: a => by simp [toDs, toD, toDs_ints a]
theorem plain_ints : ∀ a : List Int, PyData.plainAll (a.map PyData.int) = true ∧ PyData.depthAll (a.map PyData.int) = 0
  | [] => ⟨rfl, rfl⟩
  | x :: a => by
    obtain ⟨h1, h2⟩ := plain_ints a
    refine ⟨by simp [PyData.plainAll, PyData.plain, h1], ?_⟩
    show max (PyData.depth (.int x)) (PyData.depthAll (a.map PyData.int)) = 0
    rw [h2]; rfl
theorem eqvAll_ints : ∀ a b : List Int, PyData.eqvAll (a.map PyData.int) (b.map PyData.int) = decide (a = b)
  | [], [] => by simp [PyData.eqvAll]
  | [], y :: b => by simp [PyData.eqvAll]
  | x :: a, [] => by simp [PyData.eqvAll]
  | x :: a, y :: b => by
    have ih := eqvAll_ints a b
    have e : PyData.eqv (.int x) (.int y) = decide (x = y) := by
      have h : eqD (.int x) (.int y) = some (PyData.eqv (.int x) (.int y)) := rfl
      rw [eqD_int] at h
      exact (Option.some.inj h).symm
    simp only [List.map_cons, PyData.eqvAll, ih, e, List.cons.injEq]
    by_cases h1 : x = y <;> by_cases h2 : a = b <;> simp [h1, h2]
theorem eqD_ints {a b : List Int} : eqD (.tup (a.map .int)) (.tup (b.map .int)) = some (decide (a = b)) := by
  have lay : ∀ a : List Int, layD (.tuple (a.map PyData.int)) = true := fun a => by
    obtain ⟨h1, h2⟩ := plain_ints a
    unfold layD
    have hd : (PyData.tuple (a.map PyData.int)).depth ≤ 64 := by
      show PyData.depthAll (a.map PyData.int) + 1 ≤ 64
      omega
    have hp : (PyData.tuple (a.map PyData.int)).plain = true := by simpa [PyData.plain] using h1
    rw [hp, decide_eq_true hd]; rfl
  have e : ∀ a : List Int, toD (.tup (a.map .int)) = some (.tuple (a.map PyData.int)) := fun a => by simp [toD, toDs_ints]
  unfold eqD
  rw [e, e]
  simp only [lay, Bool.and_self, if_true]
  have := eqvAll_ints a b
  rw [← this]
  simp [PyData.eqv]
theorem GV.eqTI {a b : List Int} {K : Bool → Prop} (k : K (decide (a = b))) : GV (cmpV .eq (.tup (a.map .int)) (.tup (b.map .int))) K := ⟨_, eqD_ints, k⟩
theorem GV.neTI {a b : List Int} {K : Bool → Prop} (k : K (!decide (a = b))) : GV (cmpV .ne (.tup (a.map .int)) (.tup (b.map .int))) K := ⟨_, by
  show (eqD _ _).map (fun b => !b) = _
  rw [eqD_ints]; rfl, k⟩
theorem GV.mulTI {a : List Int} {n : Nat} {K : PV → Prop} (h : a.length * n ≤ SZ) (hn : n ≤ SZ) (k : K (.tup ((List.replicate n a).flatten.map .int))) : GV (binV .mul (.tup (a.map .int)) (.int (n : Int))) K := ⟨.tup ((List.replicate n a).flatten.map .int), by
  show (if (a.map PV.int).length * (n : Int).toNat ≤ SZ ∧ -(2 ^ 62) ≤ (n : Int) ∧ (n : Int) < 2 ^ 62 then some (PV.tup (List.replicate (n : Int).toNat (a.map PV.int)).flatten) else none) = _
  rw [if_pos ⟨by rw [List.length_map, Int.toNat_natCast]; exact h, by omega, by unfold SZ at hn; omega⟩, Int.toNat_natCast, List.map_flatten, List.map_replicate], k⟩
theorem cutT {α : Type} (xs : List α) (n : Nat) : cut xs none (some (n : Int)) = xs.take n := by
  unfold cut
  rw [HT.sIx_none, HT.sIx_nat]
  rw [List.drop_zero, Nat.sub_zero]
  by_cases h : n ≤ xs.length
  · rw [Nat.min_eq_left h]
  · rw [Nat.min_eq_right (by omega), List.take_length, List.take_of_length_le (by omega)]
theorem GV.slT {a : List Int} {n : Nat} {K : PV → Prop} (k : K (.tup ((a.take n).map .int))) : GV (slV (.tup (a.map .int)) none (some (n : Int))) K := ⟨_, by
  show some (PV.tup (cut (a.map PV.int) none (some (n : Int)))) = _
  rw [cutT, ← List.map_take], k⟩
theorem GV.slL {a : List Int} {n : Nat} {K : PV → Prop} (k : K (.lst ((a.take n).map .int))) : GV (slV (.lst (a.map .int)) none (some (n : Int))) K := ⟨_, by
  show some (PV.lst (cut (a.map PV.int) none (some (n : Int)))) = _
  rw [cutT, ← List.map_take], k⟩
def sg (s : List Int) (i : Nat) : Int := s[i]?.getD 0
theorem ix_sgL {s : List Int} {j : Nat} {k : Int} (e : k = (j : Int)) (h : j < s.length) : ixV (.lst (s.map .int)) (.int k) = some (.int (sg s j)) := at_ints e h
theorem ix_sgT {s : List Int} {j : Nat} {k : Int} (e : k = (j : Int)) (h : j < s.length) : ixV (.tup (s.map .int)) (.int k) = some (.int (sg s j)) := at_ints e h
theorem ix_last {s : List Int} (h : 0 < s.length) : ixV (.lst (s.map .int)) (.int (-1)) = some (.int (sg s (s.length - 1))) := by
  show L2.atI _ _ = _
  unfold L2.atI L2.ixN
  rw [if_neg (by omega), if_pos (by rw [List.length_map]; omega)]
  show (s.map PV.int)[((-1 : Int) + ((s.map PV.int).length : Int)).toNat]? = _
  have e : ((-1 : Int) + ((s.map PV.int).length : Int)).toNat = s.length - 1 := by rw [List.length_map]; omega
  rw [e, List.getElem?_map]
  unfold sg
  rw [List.getElem?_eq_getElem (by omega)]; rfl
theorem enum_ints (s : List Int) : enumL (s.map .int) = (List.range s.length).map fun i => .tup [.int (i : Int), .int (sg s i)] := by
  apply List.ext_getElem?
  intro i
  unfold enumL
  rw [List.getElem?_zipWith, List.length_map, List.getElem?_map, List.getElem?_map]
  by_cases h : i < s.length
  · rw [List.getElem?_range h]
    unfold sg
    simp [List.getElem?_eq_getElem h]
  · have h1 : (List.range s.length)[i]? = none := List.getElem?_eq_none (by simp; omega)
    rw [h1]; rfl
theorem rangeL_at {lo : Int} {n k : Nat} (h : k < (rangeL lo n).length) : (rangeL lo n)[k] = .int (lo + (k : Int)) := by
  have e : (rangeL lo n)[k]? = some (.int (lo + (k : Int))) := by
    unfold rangeL at h ⊢
    rw [List.getElem?_map, List.getElem?_range (by simpa using h)]; rfl
  rw [List.getElem?_eq_getElem h] at e
  exact Option.some.inj e
theorem rangeL_len {lo : Int} {n : Nat} : (rangeL lo n).length = n := by unfold rangeL; simp
end PM
set_option Elab.async false
set_option linter.all false
set_option maxRecDepth 100000
set_option maxHeartbeats 4000000
/-! PM47: words worked on and on; sundries of lists of ints. -/
namespace PM
open PySem
/-! ### the least of some numbers -/
structure Lst (P : Nat → Prop) (p : Nat) : Prop where
  pos : 1 ≤ p
  here : P p
  least : ∀ q, 1 ≤ q → q < p → ¬P q
theorem Lst.eq {P : Nat → Prop} {p q : Nat} (a : Lst P p) (b : Lst P q) : p = q := by
  have h1 := a.least q b.pos
  have h2 := b.least p a.pos
  by_cases h : p < q
  · exact absurd a.here (h2 h)
  · by_cases h' : q < p
    · exact absurd b.here (h1 h')
    · omega
theorem Lst.of {P Q : Nat → Prop} {p : Nat} (a : Lst P p) (h : ∀ q, P q ↔ Q q) : Lst Q p := ⟨a.pos, (h p).mp a.here, fun q h1 h2 h3 => a.least q h1 h2 ((h q).mpr h3)⟩
/-- the least one that divides another is the least one -/
theorem Lst.dvd {P : Nat → Prop} {p n : Nat} (a : Lst P p) (hn : P n) (hs : ∀ x y, P x → P (x + y) → P y) : p ∣ n := by
  have key : ∀ k, P k → P (k % p) ∨ k % p = 0 := by
    intro k
    induction k using Nat.strongRecOn with
    | ind k ih =>
      intro hk
      by_cases h : k < p
      · rw [Nat.mod_eq_of_lt h]; exact .inl hk
      · have e : k % p = (k - p) % p := Nat.mod_eq_sub_mod (by omega)
        rw [e]
        have hp := a.pos
        refine ih (k - p) (by omega) (hs p (k - p) a.here ?_)
        rw [show p + (k - p) = k by omega]; exact hk
  have hp := a.pos
  rcases key n hn with h | h
  · by_cases h0 : n % p = 0
    · exact Nat.dvd_of_mod_eq_zero h0
    · exact absurd h (a.least (n % p) (by omega) (Nat.mod_lt _ (by omega)))
  · exact Nat.dvd_of_mod_eq_zero h
theorem Lst.ex {P : Nat → Prop} {n : Nat} (h1 : 1 ≤ n) (hn : P n) : ∃ p, p ≤ n ∧ Lst P p := by
  induction n using Nat.strongRecOn with
  | ind n ih =>
    by_cases h : ∃ m, 1 ≤ m ∧ m < n ∧ P m
    · obtain ⟨m, a, b, c⟩ := h
      obtain ⟨p, g1, g2⟩ := ih m b a c
      exact ⟨p, by omega, g2⟩
    · exact ⟨n, Nat.le_refl _, h1, hn, fun q a b c => h ⟨q, a, b, c⟩⟩
theorem Lst.both {P : Nat → Prop} {p n : Nat} (hn : P n) (hn1 : 1 ≤ n) (hs : ∀ x y, P x → P (x + y) → P y) : Lst P p ↔ Lst (fun m => m ∣ n ∧ P m) p := by
  constructor
  · intro a
    exact ⟨a.pos, ⟨a.dvd hn hs, a.here⟩, fun q h1 h2 h3 => a.least q h1 h2 h3.2⟩
  · intro b
    obtain ⟨q, _, a⟩ := Lst.ex hn1 hn
    have a2 : Lst (fun m => m ∣ n ∧ P m) q := ⟨a.pos, ⟨a.dvd hn hs, a.here⟩, fun q h1 h2 h3 => a.least q h1 h2 h3.2⟩
    rw [b.eq a2]; exact a
/-! ### words, on and on -/
def xn (w : List Int) (i : Nat) : Int := w.getD (i % w.length) 0
def PW (w : List Int) (m : Nat) : Prop := ∀ i, xn w (i + m) = xn w i
theorem PW.len (w : List Int) : PW w w.length := fun i => by unfold xn; rw [Nat.add_mod_right]
theorem PW.sub {w : List Int} {x y : Nat} (a : PW w x) (b : PW w (x + y)) : PW w y := fun i => by
  have h1 := b i
  have h2 := a (i + y)
  rw [show i + y + x = i + (x + y) by omega] at h2
  rw [← h2, h1]
theorem PW.mul {w : List Int} {x : Nat} (a : PW w x) : ∀ k, PW w (x * k)
  | 0 => fun i => rfl
  | k + 1 => fun i => by
    have := PW.mul a k (i + x)
    rw [show i + x * (k + 1) = i + x + x * k by rw [Nat.mul_succ]; omega, this, a i]
theorem PW.mod {w : List Int} {m : Nat} (a : PW w m) (i : Nat) : xn w (i % m) = xn w i := by
  have h := a.mul (i / m) (i % m)
  rw [← h, Nat.mod_add_div]
theorem PW.iff {w : List Int} {R : Nat} (r : Lst (PW w) R) (m : Nat) : PW w m ↔ R ∣ m :=
  ⟨fun h => r.dvd h fun x y a b => PW.sub a b, fun ⟨k, e⟩ => by rw [e]; exact r.here.mul k⟩
/-- a word's root has the same colours -/
theorem xn_take {w : List Int} {R : Nat} (hR : 1 ≤ R) (hl : R ≤ w.length) (r : PW w R) (i : Nat) : xn (w.take R) i = xn w i := by
  have e : (w.take R).length = R := by rw [List.length_take]; omega
  have h1 : i % R < R := Nat.mod_lt _ (by omega)
  rw [← r.mod i]
  unfold xn
  rw [e, Nat.mod_eq_of_lt (show i % R < w.length by omega)]
  simp [List.getD, List.getElem?_take, h1]
/-- words, laid behind one another -/
theorem rep_len (w : List Int) (k : Nat) : (List.replicate k w).flatten.length = w.length * k := by
  induction k with
  | zero => simp
  | succ k ih => rw [List.replicate_succ, List.flatten_cons, List.length_append, ih, Nat.mul_succ]; omega
theorem rep_at {w : List Int} (h : 0 < w.length) : ∀ (k i : Nat), i < w.length * k → (List.replicate k w).flatten[i]? = some (xn w i)
  | 0, i, h => by omega
  | k + 1, i, hi => by
    rw [List.replicate_succ, List.flatten_cons]
    by_cases h2 : i < w.length
    · rw [List.getElem?_append_left h2]
      unfold xn
      rw [Nat.mod_eq_of_lt h2]
      simp [List.getD, h2]
    · rw [List.getElem?_append_right (by omega)]
      rw [rep_at h k (i - w.length) (by rw [Nat.mul_succ] at hi; omega)]
      unfold xn
      rw [show i % w.length = (i - w.length) % w.length from Nat.mod_eq_sub_mod (by omega)]
theorem rep_eq {v w : List Int} {a b : Nat} (hv : 0 < v.length) (hw : 0 < w.length) (e : v.length * a = w.length * b) : (List.replicate a v).flatten = (List.replicate b w).flatten ↔ ∀ i, i < w.length * b → xn v i = xn w i := by
  constructor
  · intro h i hi
    have h1 := rep_at hv a i (by omega)
    have h2 := rep_at hw b i hi
    rw [h, h2] at h1
    exact (Option.some.inj h1).symm
  · intro h
    apply List.ext_getElem?
    intro i
    by_cases hi : i < w.length * b
    · rw [rep_at hv a i (by omega), rep_at hw b i hi, h i hi]
    · rw [List.getElem?_eq_none (by rw [rep_len]; omega), List.getElem?_eq_none (by rw [rep_len]; omega)]
theorem root_law {w : List Int} (hw : 0 < w.length) {m : Nat} (h1 : 1 ≤ m) (h2 : m ≤ w.length) : (List.replicate w.length (w.take m)).flatten = (List.replicate m w).flatten ↔ PW w m := by
  have e : (w.take m).length = m := by rw [List.length_take]; omega
  rw [rep_eq (by omega) hw (by rw [e, Nat.mul_comm])]
  constructor
  · intro h i
    have tk : ∀ i, i < w.length * m → xn w i = xn w (i % m) := fun i hi => by
      have q := h i hi
      unfold xn at q ⊢
      rw [e] at q
      have h3 : i % m < m := Nat.mod_lt _ (by omega)
      rw [← q, Nat.mod_eq_of_lt (show i % m < w.length by omega)]
      simp [List.getD, List.getElem?_take, h3]
    have red : ∀ i, xn w i = xn w (i % (w.length * m)) := fun i => by
      unfold xn
      rw [Nat.mod_mod_of_dvd _ (Nat.dvd_mul_right _ _)]
    have hp : 0 < w.length * m := Nat.mul_pos hw (by omega)
    have all : ∀ i, xn w i = xn w (i % m) := fun i => by
      rw [red i, tk _ (Nat.mod_lt _ hp), Nat.mod_mod_of_dvd _ (Nat.dvd_mul_left _ _)]
    rw [all (i + m), all i, Nat.add_mod_right]
  · intro h i _
    exact xn_take h1 h2 h i
theorem root_prog {w : List Int} (hw : 0 < w.length) {m : Nat} (h1 : 1 ≤ m) (h2 : m ≤ w.length) (hd : m ∣ w.length) : (List.replicate (w.length / m) (w.take m)).flatten = w ↔ PW w m := by
  have e : (w.take m).length = m := by rw [List.length_take]; omega
  have e1 : w = (List.replicate 1 w).flatten := by simp
  have e2 : m * (w.length / m) = w.length := Nat.mul_div_cancel' hd
  have q := rep_eq (v := w.take m) (w := w) (a := w.length / m) (b := 1) (by omega) hw (by rw [e, e2, Nat.mul_one])
  rw [← e1] at q
  rw [q]
  constructor
  · intro h i
    have tk : ∀ i, i < w.length → xn w i = xn w (i % m) := fun i hi => by
      have q := h i (by omega)
      unfold xn at q ⊢
      rw [e] at q
      have h3 : i % m < m := Nat.mod_lt _ (by omega)
      rw [← q, Nat.mod_eq_of_lt (show i % m < w.length by omega)]
      simp [List.getD, List.getElem?_take, h3]
    have all : ∀ i, xn w i = xn w (i % m) := fun i => by
      have r : xn w i = xn w (i % w.length) := by unfold xn; rw [Nat.mod_mod]
      rw [r, tk _ (Nat.mod_lt _ hw), Nat.mod_mod_of_dvd _ hd]
    rw [all (i + m), all i, Nat.add_mod_right]
  · intro h i _
    exact xn_take h1 h2 h i
abbrev iT (w : List Int) : PV := .tup (w.map .int)
theorem nor_iT (w : List Int) : nor (iT w) = true := nors_ints w
theorem lenM (w : List Int) : (w.map PV.int).length = w.length := List.length_map ..
theorem ix_xn {w : List Int} (hw : 0 < w.length) (i : Nat) {k : Int} (e : k = (i : Int)) : ixV (iT w) (.int (k % ((w.map PV.int).length : Int))) = some (.int (xn w i)) := by
  show L2.atI (w.map PV.int) _ = _
  have h : i % w.length < w.length := Nat.mod_lt _ hw
  rw [at_ints (n := i % w.length) (by rw [e, lenM]; omega) h]
  unfold xn
  rfl
theorem ix_mapL {γ : Type} {l : List γ} {g : γ → PV} {j : Nat} {k : Int} {a : γ} (e : k = (j : Int)) (h : l[j]? = some a) : ixV (.lst (l.map g)) (.int k) = some (g a) := by
  subst e
  have hj : j < l.length := (List.getElem?_eq_some_iff.mp h).1
  show L2.atI (l.map g) _ = _
  unfold L2.atI L2.ixN
  rw [if_pos (by omega), if_pos (by rw [List.length_map]; omega)]
  show (l.map g)[((j : Int)).toNat]? = _
  rw [Int.toNat_natCast, List.getElem?_map, h]; rfl
theorem ix_mapT {γ : Type} {l : List γ} {g : γ → PV} {j : Nat} {k : Int} {a : γ} (e : k = (j : Int)) (h : l[j]? = some a) : ixV (.tup (l.map g)) (.int k) = some (g a) := ix_mapL e h
theorem range_at {n i : Nat} (h : i < n) : (List.range n)[i]? = some i := List.getElem?_range h
theorem all_range {n : Nat} {p : Nat → Prop} [DecidablePred p] : ((List.range n).all fun i => decide (p i)) = true ↔ ∀ i, i < n → p i := by
  rw [List.all_eq_true]
  simp [List.mem_range]
theorem fm_congr {γ δ : Type} {f g : γ → Option δ} : ∀ {l : List γ}, (∀ a ∈ l, f a = g a) → l.filterMap f = l.filterMap g
  | [], _ => rfl
  | a :: l, h => by
    rw [List.filterMap_cons, List.filterMap_cons, h a (List.mem_cons_self ..), fm_congr fun b hb => h b (List.mem_cons_of_mem _ hb)]
theorem ix_head {x : PV} {r : List PV} : ixV (.lst (x :: r)) (.int 0) = some x := by
  show L2.atI _ _ = _
  unfold L2.atI L2.ixN
  rw [if_pos (by omega), if_pos (by simp only [List.length_cons]; omega)]; rfl
theorem midE {s G : Store} {ob : Ob} : (s ++ [ob] ++ G)[s.length]? = some ob := by
  rw [List.append_assoc, List.getElem?_append_right (Nat.le_refl _)]; simp
theorem setM {s G : Store} {a b : Ob} : (s ++ [a] ++ G).set s.length b = s ++ [b] ++ G := by
  rw [List.append_assoc, List.set_append_right _ _ (Nat.le_refl _)]; simp
theorem GV.appM {nb : Nat} {s G : Store} {xs : List PV} {y : PV} {K : PV × Store → Prop} (hy : nor y = true) (hl : xs.length < SZ) (k : K (.non, s ++ [.lst (xs ++ [y])] ++ G)) : GV (mtV nb .append (s ++ [.lst xs] ++ G) (.ref s.length) [y]) K :=
  GV.app midE (by rw [hy]; rfl) hl (by rw [setM]; exact k)
theorem mem_xn {w : List Int} (hw : 0 < w.length) (i : Nat) : xn w i ∈ w := by
  unfold xn
  have h : i % w.length < w.length := Nat.mod_lt _ hw
  simp [List.getD, h]
theorem shI9 {w : List Int} (c0 : ∀ c ∈ w, 0 ≤ c) (c1 : ∀ c ∈ w, c ≤ 9) : Shw 1 (w.length * 65 + 2) (iT w) := by
  have := Shw.tup (m := 0) (n := 63) (xs := w.map .int) fun x hx => by
    obtain ⟨c, hc, rfl⟩ := List.mem_map.mp hx
    have := c0 c hc; have := c1 c hc
    exact sh1 (by omega) (by omega)
  rw [lenM] at this
  exact this
theorem cutD {α : Type} (xs : List α) (n : Nat) : cut xs (some (n : Int)) none = xs.drop n := by
  unfold cut
  rw [HT.sIx_none, HT.sIx_nat]
  by_cases h : n ≤ xs.length
  · rw [Nat.min_eq_left h, List.take_of_length_le (by rw [List.length_drop]; omega)]
  · rw [Nat.min_eq_right (by omega), List.drop_of_length_le (Nat.le_refl _), List.drop_of_length_le (by omega)]; simp
theorem GV.slD {a : List Int} {n : Nat} {K : PV → Prop} (k : K (iT (a.drop n))) : GV (slV (.tup (a.map .int)) (some (n : Int)) none) K := ⟨_, by
  show some (PV.tup (cut (a.map PV.int) (some (n : Int)) none)) = _
  rw [cutD, ← List.map_drop], k⟩
theorem GV.revI {a : List Int} {K : PV → Prop} (k : K (iT a.reverse)) : GV (revV (.tup (a.map .int))) K := ⟨_, by
  show some (PV.tup (a.map PV.int).reverse) = _
  rw [← List.map_reverse], k⟩
theorem GV.addI' {a b : List Int} {K : PV → Prop} (h : a.length + b.length ≤ SZ) (k : K (iT (a ++ b))) : GV (binV .add (.tup (a.map .int)) (.tup (b.map .int))) K := GV.addT (by rw [lenM, lenM]; exact h) (by rw [← List.map_append]; exact k)
theorem GV.slTm {γ : Type} {l : List γ} {g : γ → PV} {n : Nat} {K : PV → Prop} (k : K (.tup ((l.take n).map g))) : GV (slV (.tup (l.map g)) none (some (n : Int))) K := ⟨_, by
  show some (PV.tup (cut (l.map g) none (some (n : Int)))) = _
  rw [cutT, ← List.map_take], k⟩
theorem GV.slDm {γ : Type} {l : List γ} {g : γ → PV} {n : Nat} {K : PV → Prop} (k : K (.tup ((l.drop n).map g))) : GV (slV (.tup (l.map g)) (some (n : Int)) none) K := ⟨_, by
  show some (PV.tup (cut (l.map g) (some (n : Int)) none)) = _
  rw [cutD, ← List.map_drop], k⟩
theorem GV.addTm {γ : Type} {l m : List γ} {g : γ → PV} {K : PV → Prop} (h : l.length + m.length ≤ SZ) (k : K (.tup ((l ++ m).map g))) : GV (binV .add (.tup (l.map g)) (.tup (m.map g))) K := GV.addT (by rw [List.length_map, List.length_map]; exact h) (by rw [← List.map_append]; exact k)
theorem set_len {α : Type} {l : List α} {i : Nat} {x : α} (h : i < l.length) : (l.take i ++ [x] ++ l.drop (i + 1)).length = l.length := by simp; omega
theorem set_mem {α : Type} {l : List α} {i : Nat} {x y : α} (h : y ∈ l.take i ++ [x] ++ l.drop (i + 1)) : y = x ∨ y ∈ l := by
  rcases List.mem_append.mp h with h | h
  · rcases List.mem_append.mp h with h | h
    · exact .inr (List.mem_of_mem_take h)
    · exact .inl (by simpa using h)
  · exact .inr (List.mem_of_mem_drop h)
theorem fm_first {w : List Int} {n : Nat} {R : Nat} (hl : Lst (PW w) R) (hR : R ≤ n) {g : Nat → Option PV} (hg : ∀ a, a < n → (PW w (a + 1) → g a = some (iT (w.take (a + 1)))) ∧ (¬PW w (a + 1) → g a = none)) : ∃ r, (List.range n).filterMap g = iT (w.take R) :: r := by
  have h1 := hl.pos
  have e : List.range n = List.range (R - 1) ++ (R - 1) :: (List.range (n - R)).map (fun i => R + i) := by
    apply List.ext_getElem?
    intro i
    by_cases hi : i < R - 1
    · rw [List.getElem?_append_left (by simp; omega), List.getElem?_range (by omega), List.getElem?_range hi]
    · rw [List.getElem?_append_right (by simp; omega), List.length_range]
      by_cases h2 : i = R - 1
      · subst h2
        rw [List.getElem?_range (by omega), Nat.sub_self]; rfl
      · have e2 : i - (R - 1) = (i - R) + 1 := by omega
        rw [e2, List.getElem?_cons_succ, List.getElem?_map]
        by_cases h3 : i < n
        · rw [List.getElem?_range h3, List.getElem?_range (by omega)]
          show _ = some (R + (i - R))
          congr 1; omega
        · rw [List.getElem?_eq_none (by simp; omega), List.getElem?_eq_none (by simp; omega)]; rfl
  have e0 : (List.range (R - 1)).filterMap g = [] := by
    rw [List.filterMap_eq_nil_iff]
    intro a ha
    have ha := List.mem_range.mp ha
    exact (hg a (by omega)).2 (hl.least (a + 1) (by omega) (by omega))
  have e1 : g (R - 1) = some (iT (w.take R)) := by
    have := (hg (R - 1) (by omega)).1 (by rw [show R - 1 + 1 = R by omega]; exact hl.here)
    rw [show R - 1 + 1 = R by omega] at this
    exact this
  refine ⟨((List.range (n - R)).map fun i => R + i).filterMap g, ?_⟩
  rw [e, List.filterMap_append, e0, List.nil_append, List.filterMap_cons, e1]
end PM
set_option Elab.async false
set_option linter.all false
set_option maxRecDepth 100000
set_option maxHeartbeats 4000000
/-! PM48: a tuple of ints among others; least and sorted pairs; range with a step. -/
namespace PM
open PySem
theorem toDs_map {γ : Type} {l : List γ} {f : γ → List Int} : toDs (l.map fun a => .tup ((f a).map .int)) = some (l.map fun a => PyData.tuple ((f a).map .int)) := by
  induction l with
  | nil => rfl
  | cons a l ih =>
    show (match toD (.tup ((f a).map .int)), toDs (l.map fun a => .tup ((f a).map .int)) with | some d, some ds => some (d :: ds) | _, _ => none) = _
    rw [ih]
    simp [toD, toDs_ints]
theorem plain_map {γ : Type} {l : List γ} {f : γ → List Int} : PyData.plainAll (l.map fun a => PyData.tuple ((f a).map .int)) = true ∧ PyData.depthAll (l.map fun a => PyData.tuple ((f a).map .int)) ≤ 1 := by
  induction l with
  | nil => exact ⟨rfl, Nat.zero_le _⟩
  | cons a l ih =>
    obtain ⟨h1, h2⟩ := plain_ints (f a)
    refine ⟨by simp [PyData.plainAll, PyData.plain, h1, ih.1], ?_⟩
    show max (PyData.depthAll ((f a).map PyData.int) + 1) (PyData.depthAll _) ≤ 1
    rw [h2]
    have := ih.2
    omega
theorem GV.inI {γ : Type} {l : List γ} {f : γ → List Int} {m : List Int} {K : Bool → Prop} (k : K (l.any fun a => decide (f a = m))) : GV (cmpV .isin (.tup (m.map .int)) (.lst (l.map fun a => .tup ((f a).map .int)))) K := ⟨_, by
  have e1 : toD (.tup (m.map .int)) = some (.tuple (m.map .int)) := by simp [toD, toDs_ints]
  obtain ⟨h1, h2⟩ := plain_ints m
  have l1 : layD (.tuple (m.map PyData.int)) = true := by
    unfold layD
    have hd : (PyData.tuple (m.map PyData.int)).depth ≤ 64 := by
      show PyData.depthAll (m.map PyData.int) + 1 ≤ 64
      omega
    have hp : (PyData.tuple (m.map PyData.int)).plain = true := by simpa [PyData.plain] using h1
    rw [hp, decide_eq_true hd]; rfl
  obtain ⟨g1, g2⟩ := plain_map (l := l) (f := f)
  have l2 : layD (.list (l.map fun a => PyData.tuple ((f a).map .int))) = true := by
    unfold layD
    have hd : (PyData.list (l.map fun a => PyData.tuple ((f a).map .int))).depth ≤ 64 := by
      show PyData.depthAll _ + 1 ≤ 64
      omega
    have hp : (PyData.list (l.map fun a => PyData.tuple ((f a).map .int))).plain = true := by simpa [PyData.plain] using g1
    rw [hp, decide_eq_true hd]; rfl
  show inD (.tup (m.map .int)) (.lst (l.map fun a => .tup ((f a).map .int))) = _
  unfold inD
  have e2 : itemsD (.lst (l.map fun a => .tup ((f a).map .int))) = some (l.map fun a => PyData.tuple ((f a).map .int)) := toDs_map
  rw [e1, e2]
  simp only [l1, l2, Bool.and_self, if_true]
  rw [List.any_map]
  have e3 : ((fun z => PyData.eqv z (PyData.tuple (m.map .int))) ∘ fun a => PyData.tuple ((f a).map .int)) = fun a => decide (f a = m) := by
    funext a
    have := eqvAll_ints (f a) m
    simp [← this, PyData.eqv]
  rw [e3], k⟩
theorem allI_pairs : ∀ {l : List (Int × Int)}, l ≠ [] → allI (l.map prV) = none
  | [], h => absurd rfl h
  | _ :: _, _ => rfl
theorem pairL_map : ∀ l : List (Int × Int), pairL (l.map prV) = some l
  | [] => rfl
  | p :: l => by
    show (pairL (l.map prV)).map ((p.1, p.2) :: ·) = _
    rw [pairL_map l]; rfl
theorem GV.minP {l : List (Int × Int)} {m : Int × Int} {K : PV → Prop} (h : PM.minP l = some m) (k : K (prV m)) : GV (biV .minL [.lst (l.map prV)]) K := ⟨prV m, by
  have hne : l ≠ [] := fun e => by rw [e] at h; cases h
  show (match (allI (l.map prV)).bind foldMin with | some m => some (PV.int m) | none => ((pairL (l.map prV)).bind PM.minP).map prV) = _
  rw [allI_pairs hne, pairL_map]
  show (PM.minP l).map prV = _
  rw [h]; rfl, k⟩
theorem GV.sortP {l : List (Int × Int)} {K : List PV → Prop} (hne : l ≠ []) (k : K ((isort ltP l).map prV)) : GV (biN .sorted [.lst (l.map prV)]) K := ⟨_, by
  show (match allI (l.map prV) with | some ns => some ((isort (fun a b => decide (a < b)) ns).map PV.int) | none => (pairL (l.map prV)).map fun ps => (isort ltP ps).map prV) = _
  rw [allI_pairs hne, pairL_map]; rfl, k⟩
theorem GV.minI {l : List Int} {m : Int} {K : PV → Prop} (h : foldMin l = some m) (k : K (.int m)) : GV (biV .minL [.lst (l.map .int)]) K := ⟨.int m, by
  show (match (allI (l.map PV.int)).bind foldMin with | some m => some (PV.int m) | none => _) = _
  rw [allI_map]
  show (match foldMin l with | some m => some (PV.int m) | none => _) = _
  rw [h], k⟩
theorem rng3_up {i j s : Int} (hi : -1000000000 ≤ i) (hi2 : i ≤ 1000000000) (hj : -1000000000 ≤ j) (hj2 : j ≤ 1000000000) (hs : 1 ≤ s) (hs2 : s ≤ 1000000) (hz : (j - i).toNat ≤ SZ) (hij : i < j) :
    rng3 i j s = some ((List.range ((j - i - 1) / s + 1).toNat).map fun (k : Nat) => .int (i + (k : Int) * s)) := by
  have e : Builtin.Range.rangeSize i j s = (j - i - 1) / s + 1 := by
    unfold Builtin.Range.rangeSize
    rw [if_pos (by omega), if_pos hij]
  have h0 : 0 ≤ (j - i - 1) / s := Int.ediv_nonneg (by omega) (by omega)
  have h1 : (j - i - 1) / s ≤ j - i - 1 := Int.ediv_le_self s (by omega)
  have hsm : Builtin.Range.small i j s = true := by
    unfold Builtin.Range.small
    rw [e]
    simp only [Builtin.Range.rangeFitsLong, Bool.and_eq_true, Bool.or_eq_true, decide_eq_true_eq, beq_iff_eq]
    split <;> simp only [Bool.and_eq_true, decide_eq_true_eq] <;> omega
  have hSZ : SZ = 16777216 := rfl
  have h2 : ((j - i - 1) / s + 1).toNat ≤ SZ := by
    have : ((j - i - 1) / s + 1).toNat ≤ (j - i).toNat := by omega
    omega
  unfold rng3
  rw [if_pos ⟨by omega, by omega, hsm, by rw [e]; exact h2⟩, e]
end PM
set_option Elab.async false
set_option linter.all false
set_option maxRecDepth 100000
set_option maxHeartbeats 4000000
/-! PM49: told values of any kind; slices with both ends. -/
namespace PM
open PySem
theorem isin1 {n p : Int} : cmpV .isin (.int n) (.tup [.int p]) = some (decide (p = n)) := by
  show inD (.int n) (.tup [.int p]) = _
  simp only [inD, itemsD, toD, toDs]
  have h1 : layD (.int n) = true := rfl
  have h2 : layD (.list [.int p]) = true := rfl
  simp only [h1, h2, Bool.and_self, if_true]
  simp only [List.any_cons, List.any_nil, PyData.eqv, Bool.or_false]
  rfl
theorem isin2 {n p q : Int} : cmpV .isin (.int n) (.tup [.int p, .int q]) = some (decide (p = n) || decide (q = n)) := by
  show inD (.int n) (.tup [.int p, .int q]) = _
  simp only [inD, itemsD, toD, toDs]
  have h1 : layD (.int n) = true := rfl
  have h2 : layD (.list [.int p, .int q]) = true := rfl
  simp only [h1, h2, Bool.and_self, if_true]
  simp only [List.any_cons, List.any_nil, PyData.eqv, Bool.or_false]
  rfl
theorem notin2 {n p q : Int} : cmpV .notin (.int n) (.tup [.int p, .int q]) = some (!(decide (p = n) || decide (q = n))) := by
  show (inD (.int n) (.tup [.int p, .int q])).map (!·) = _
  have : inD (.int n) (.tup [.int p, .int q]) = some (decide (p = n) || decide (q = n)) := isin2
  rw [this]; rfl
def isStr : PV → Bool | .str _ => true | _ => false
theorem gv_isStr {a : PV} (h : dpv a = true) {KE : Bool → Prop} (k : KE (isStr a)) : GV (isiV a (.ty "str")) KE := by
  cases a <;> first | exact GV.of rfl k | cases h
def ivl (v : PV) : Int := match v with | .int i => i | _ => 0
theorem isInt_elim {v : PV} {lo hi : Int} (h : isInt v lo hi = true) : ∃ i : Int, v = .int i ∧ lo ≤ i ∧ i ≤ hi := by
  cases v with
  | int x => simp [isInt] at h; exact ⟨x, rfl, h.1, h.2⟩
  | _ => cases h
theorem GV.neB {a b : Bool} {K : Bool → Prop} (k : K (!decide (a = b))) : GV (cmpV .ne (.bl a) (.bl b)) K := ⟨_, by
  show (eqD (.bl a) (.bl b)).map (!·) = _
  rw [eqD_bl]; rfl, k⟩
theorem cutB {α : Type} (xs : List α) (a b : Nat) : cut xs (some (a : Int)) (some (b : Int)) = (xs.drop a).take (b - a) := by
  unfold cut
  rw [HT.sIx_nat, HT.sIx_nat]
  by_cases h : a ≤ xs.length
  · rw [Nat.min_eq_left h]
    by_cases h2 : b ≤ xs.length
    · rw [Nat.min_eq_left h2]
    · rw [Nat.min_eq_right (by omega), List.take_of_length_le (by rw [List.length_drop]; omega), List.take_of_length_le (by rw [List.length_drop]; omega)]
  · have e : min a xs.length = xs.length := Nat.min_eq_right (by omega)
    rw [e, List.drop_of_length_le (Nat.le_refl _), List.drop_of_length_le (by omega)]; simp
theorem GV.slB {a : List Int} {i j : Nat} {K : PV → Prop} (k : K (iT ((a.drop i).take (j - i)))) : GV (slV (.tup (a.map .int)) (some (i : Int)) (some (j : Int))) K := ⟨_, by
  show some (PV.tup (cut (a.map PV.int) (some (i : Int)) (some (j : Int)))) = _
  rw [cutB, ← List.map_drop, ← List.map_take], k⟩
theorem zipL_ints (a b : List Int) : zipL (a.map .int) (b.map .int) = (a.zip b).map fun p => .tup [.int p.1, .int p.2] := zipL_map a b
theorem FK.rt1l {ret : Bool} {lv n : Nat} {v : PV} {st : Store} {ob : Ob} {K : PV → Store → Prop} (hl : st.length = n) (hn : nor v = true) (k : K v st) : FK ret lv n (.rt v) (st ++ [ob]) K := FK.rt hn (by rw [← hl, List.take_left]; exact k)
theorem eqD_intsL {a b : List Int} : eqD (.lst (a.map .int)) (.lst (b.map .int)) = some (decide (a = b)) := by
  have e1 : toD (.lst (a.map .int)) = some (.list (a.map .int)) := by simp [toD, toDs_ints]
  have e2 : toD (.lst (b.map .int)) = some (.list (b.map .int)) := by simp [toD, toDs_ints]
  have lay : ∀ l : List Int, layD (.list (l.map PyData.int)) = true := fun l => by
    obtain ⟨h1, h2⟩ := plain_ints l
    unfold layD
    have hd : (PyData.list (l.map PyData.int)).depth ≤ 64 := by
      show PyData.depthAll (l.map PyData.int) + 1 ≤ 64
      omega
    have hp : (PyData.list (l.map PyData.int)).plain = true := by simpa [PyData.plain] using h1
    rw [hp, decide_eq_true hd]; rfl
  unfold eqD
  rw [e1, e2]
  simp only [lay, Bool.and_self, if_true]
  have := eqvAll_ints a b
  simp [← this, PyData.eqv]
theorem GV.eqLI {a b : List Int} {K : Bool → Prop} (k : K (decide (a = b))) : GV (cmpV .eq (.lst (a.map .int)) (.lst (b.map .int))) K := ⟨_, eqD_intsL, k⟩
theorem GV.neLI {a b : List Int} {K : Bool → Prop} (k : K (!decide (a = b))) : GV (cmpV .ne (.lst (a.map .int)) (.lst (b.map .int))) K := ⟨_, by
  show (eqD (.lst (a.map .int)) (.lst (b.map .int))).map (!·) = _
  rw [eqD_intsL]; rfl, k⟩
theorem filt_first {n i : Nat} {p : Nat → Bool} (hi : i < n) (hp : p i = true) (hno : ∀ j, j < i → p j = false) : ∃ r, (List.range n).filter p = i :: r := by
  have e : n = i + ((n - i - 1) + 1) := by omega
  rw [e, List.range_add, List.filter_append]
  have e0 : (List.range i).filter p = [] := List.filter_eq_nil_iff.mpr fun a ha => by
    have := hno a (List.mem_range.mp ha)
    simp [this]
  rw [e0, List.range_succ_eq_map]
  refine ⟨((List.map Nat.succ (List.range (n - i - 1))).map fun x => i + x).filter p, ?_⟩
  simp only [List.nil_append, List.map_cons, Nat.add_zero, List.filter_cons, hp, if_true]
theorem foldMin_some {l : List Int} (h : l ≠ []) : ∃ m, foldMin l = some m := by
  cases l with
  | nil => exact absurd rfl h
  | cons a l => exact ⟨_, rfl⟩
theorem dpv_cases {x : PV} (h : dpv x = true) : nor x = true ∧ okv x = true ∧ isRef x = false := ⟨dpv_nor h, dpv_ok h, dpv_nr h⟩
end PM
set_option Elab.async false
set_option linter.all false
set_option maxRecDepth 100000
set_option maxHeartbeats 0
namespace K45
open PySem PySem.Spec PyProof.Rows L2 LamX
abbrev Pg : Program := PySem.Challenge.pw_comesouteven_k45_whole_ribs_that_flow_on
def t : PM.Dat := PM.datOf ["_law_pot"] Pg
def bound : Stmt → Option Str
  | .FunctionDef nm _ _ _ _ _ _ _ _ _ => if nm = "law" then none else some nm
  | .ClassDef x _ _ _ _ _ _ _ _ _ _ => some x
  | .Assign [.Name x _] _ _ => if x = "__name__" then none else some x
  | _ => none
def loose : List Str := Pg.main.body.filterMap bound
abbrev R : PySem.W.OpenRow := PySem.W.OpenLaw.row PySem.Challenge.rw_comesouteven_k45_whole_ribs_that_flow_on
abbrev hk : PySem.W.Hook := PM.hookX t 5
def ob (s : PySem.W.SharedT) : PM.Al2 := PM.obsX t 5 (HandSHeadRun.getT s)
theorem ob_eq (s : PySem.W.SharedT) : ob s = hk.obs s.abs := PM.obsX_eq (HandSHeadRun.getT_eq s)
theorem run (w : World) : HandSHeadRun.RunEq R (PySem.W.view R.prog [50]) hk ob 4000 loose w := by
  intro os
  kernel_rfl
end K45
set_option Elab.async false
set_option linter.all false
set_option maxRecDepth 100000
set_option maxHeartbeats 0
namespace K45
open PySem PySem.Spec PyProof.Rows L2 LamX
def fn (i : Nat) : PM.FnI := (t.G.fns[i]?).getD ⟨"", [], [], ⟨[], [], none, [], [], none, []⟩, [], ⟨.function, [], false, false, []⟩, false, false, []⟩
theorem len_fns : t.G.fns.length = 41 := by decide +kernel
theorem fn_at {i : Nat} (h : i < 41) : t.G.fns[i]? = some (fn i) := by
  have h2 : i < t.G.fns.length := by rw [len_fns]; exact h
  unfold fn
  rw [List.getElem?_eq_getElem h2]
  rfl
theorem b0 : PM.BindOne t.G (0, 3, []) := PM.bindOne_of (fn_at (by decide)) fun kV doc pm an cdv ct a0 a1 a2 => by show _ = _; kernel_rfl
theorem b1 : PM.BindOne t.G (1, 3, []) := PM.bindOne_of (fn_at (by decide)) fun kV doc pm an cdv ct a0 a1 a2 => by show _ = _; kernel_rfl
theorem b2 : PM.BindOne t.G (3, 1, []) := PM.bindOne_of (fn_at (by decide)) fun kV doc pm an cdv ct a0 => by show _ = _; kernel_rfl
theorem b3 : PM.BindOne t.G (4, 1, []) := PM.bindOne_of (fn_at (by decide)) fun kV doc pm an cdv ct a0 => by show _ = _; kernel_rfl
theorem b4 : PM.BindOne t.G (6, 1, []) := PM.bindOne_of (fn_at (by decide)) fun kV doc pm an cdv ct a0 => by show _ = _; kernel_rfl
theorem b5 : PM.BindOne t.G (10, 1, []) := PM.bindOne_of (fn_at (by decide)) fun kV doc pm an cdv ct a0 => by show _ = _; kernel_rfl
theorem b6 : PM.BindOne t.G (5, 3, []) := PM.bindOne_of (fn_at (by decide)) fun kV doc pm an cdv ct a0 a1 a2 => by show _ = _; kernel_rfl
theorem b7 : PM.BindOne t.G (13, 4, []) := PM.bindOne_of (fn_at (by decide)) fun kV doc pm an cdv ct a0 a1 a2 a3 => by show _ = _; kernel_rfl
theorem b8 : PM.BindOne t.G (15, 3, []) := PM.bindOne_of (fn_at (by decide)) fun kV doc pm an cdv ct a0 a1 a2 => by show _ = _; kernel_rfl
theorem b9 : PM.BindOne t.G (2, 2, []) := PM.bindOne_of (fn_at (by decide)) fun kV doc pm an cdv ct a0 a1 => by show _ = _; kernel_rfl
theorem b10 : PM.BindOne t.G (23, 2, []) := PM.bindOne_of (fn_at (by decide)) fun kV doc pm an cdv ct a0 a1 => by show _ = _; kernel_rfl
theorem b11 : PM.BindOne t.G (24, 2, []) := PM.bindOne_of (fn_at (by decide)) fun kV doc pm an cdv ct a0 a1 => by show _ = _; kernel_rfl
theorem b12 : PM.BindOne t.G (29, 2, []) := PM.bindOne_of (fn_at (by decide)) fun kV doc pm an cdv ct a0 a1 => by show _ = _; kernel_rfl
theorem b13 : PM.BindOne t.G (27, 1, []) := PM.bindOne_of (fn_at (by decide)) fun kV doc pm an cdv ct a0 => by show _ = _; kernel_rfl
theorem b14 : PM.BindOne t.G (31, 2, []) := PM.bindOne_of (fn_at (by decide)) fun kV doc pm an cdv ct a0 a1 => by show _ = _; kernel_rfl
theorem b15 : PM.BindOne t.G (33, 1, []) := PM.bindOne_of (fn_at (by decide)) fun kV doc pm an cdv ct a0 => by show _ = _; kernel_rfl
theorem b16 : PM.BindOne t.G (28, 3, []) := PM.bindOne_of (fn_at (by decide)) fun kV doc pm an cdv ct a0 a1 a2 => by show _ = _; kernel_rfl
theorem b17 : PM.BindOne t.G (34, 4, []) := PM.bindOne_of (fn_at (by decide)) fun kV doc pm an cdv ct a0 a1 a2 a3 => by show _ = _; kernel_rfl
theorem b18 : PM.BindOne t.G (14, 3, ["shift"]) := PM.bindOne_of (fn_at (by decide)) fun kV doc pm an cdv ct a0 a1 a2 a3 => by show _ = _; kernel_rfl
theorem b19 : PM.BindOne t.G (16, 2, ["wide"]) := PM.bindOne_of (fn_at (by decide)) fun kV doc pm an cdv ct a0 a1 a2 => by show _ = _; kernel_rfl
theorem b20 : PM.BindOne t.G (36, 5, []) := PM.bindOne_of (fn_at (by decide)) fun kV doc pm an cdv ct a0 a1 a2 a3 a4 => by show _ = _; kernel_rfl
theorem b21 : PM.BindOne t.G (30, 2, []) := PM.bindOne_of (fn_at (by decide)) fun kV doc pm an cdv ct a0 a1 => by show _ = _; kernel_rfl
theorem b22 : PM.BindOne t.G (17, 3, ["value"]) := PM.bindOne_of (fn_at (by decide)) fun kV doc pm an cdv ct a0 a1 a2 a3 => by show _ = _; kernel_rfl
theorem b23 : PM.BindOne t.G (12, 1, ["other"]) := PM.bindOne_of (fn_at (by decide)) fun kV doc pm an cdv ct a0 a1 => by show _ = _; kernel_rfl
theorem b24 : PM.BindOne t.G (35, 2, []) := PM.bindOne_of (fn_at (by decide)) fun kV doc pm an cdv ct a0 a1 => by show _ = _; kernel_rfl
theorem b25 : PM.BindOne t.G (18, 1, ["other"]) := PM.bindOne_of (fn_at (by decide)) fun kV doc pm an cdv ct a0 a1 => by show _ = _; kernel_rfl
theorem b26 : PM.BindOne t.G (32, 1, []) := PM.bindOne_of (fn_at (by decide)) fun kV doc pm an cdv ct a0 => by show _ = _; kernel_rfl
theorem b27 : PM.BindOne t.G (7, 0, ["rib"]) := PM.bindOne_of (fn_at (by decide)) fun kV doc pm an cdv ct a0 => by show _ = _; kernel_rfl
theorem b28 : PM.BindOne t.G (8, 0, ["rib"]) := PM.bindOne_of (fn_at (by decide)) fun kV doc pm an cdv ct a0 => by show _ = _; kernel_rfl
theorem b29 : PM.BindOne t.G (8, 1, []) := PM.bindOne_of (fn_at (by decide)) fun kV doc pm an cdv ct a0 => by show _ = _; kernel_rfl
theorem b30 : PM.BindOne t.G (9, 0, ["rib"]) := PM.bindOne_of (fn_at (by decide)) fun kV doc pm an cdv ct a0 => by show _ = _; kernel_rfl
theorem b31 : PM.BindOne t.G (37, 4, []) := PM.bindOne_of (fn_at (by decide)) fun kV doc pm an cdv ct a0 a1 a2 a3 => by show _ = _; kernel_rfl
theorem b32 : PM.BindOne t.G (14, 4, []) := PM.bindOne_of (fn_at (by decide)) fun kV doc pm an cdv ct a0 a1 a2 a3 => by show _ = _; kernel_rfl
theorem b33 : PM.BindOne t.G (21, 1, ["wide"]) := PM.bindOne_of (fn_at (by decide)) fun kV doc pm an cdv ct a0 a1 => by show _ = _; kernel_rfl
theorem b34 : PM.BindOne t.G (19, 1, ["wide"]) := PM.bindOne_of (fn_at (by decide)) fun kV doc pm an cdv ct a0 a1 => by show _ = _; kernel_rfl
theorem b35 : PM.BindOne t.G (20, 1, ["wide"]) := PM.bindOne_of (fn_at (by decide)) fun kV doc pm an cdv ct a0 a1 => by show _ = _; kernel_rfl
theorem b36 : PM.BindOne t.G (11, 1, ["purl"]) := PM.bindOne_of (fn_at (by decide)) fun kV doc pm an cdv ct a0 a1 => by show _ = _; kernel_rfl
theorem b37 : PM.BindOne t.G (7, 1, []) := PM.bindOne_of (fn_at (by decide)) fun kV doc pm an cdv ct a0 => by show _ = _; kernel_rfl
theorem b38 : PM.BindOne t.G (9, 1, []) := PM.bindOne_of (fn_at (by decide)) fun kV doc pm an cdv ct a0 => by show _ = _; kernel_rfl
theorem b39 : PM.BindOne t.G (12, 2, []) := PM.bindOne_of (fn_at (by decide)) fun kV doc pm an cdv ct a0 a1 => by show _ = _; kernel_rfl
theorem b40 : PM.BindOne t.G (16, 3, []) := PM.bindOne_of (fn_at (by decide)) fun kV doc pm an cdv ct a0 a1 a2 => by show _ = _; kernel_rfl
theorem b41 : PM.BindOne t.G (18, 2, []) := PM.bindOne_of (fn_at (by decide)) fun kV doc pm an cdv ct a0 a1 => by show _ = _; kernel_rfl
theorem b42 : PM.BindOne t.G (19, 2, []) := PM.bindOne_of (fn_at (by decide)) fun kV doc pm an cdv ct a0 a1 => by show _ = _; kernel_rfl
theorem b43 : PM.BindOne t.G (21, 2, []) := PM.bindOne_of (fn_at (by decide)) fun kV doc pm an cdv ct a0 a1 => by show _ = _; kernel_rfl
theorem b44 : PM.BindOne t.G (26, 1, []) := PM.bindOne_of (fn_at (by decide)) fun kV doc pm an cdv ct a0 => by show _ = _; kernel_rfl
theorem b45 : PM.BindOne t.G (20, 2, []) := PM.bindOne_of (fn_at (by decide)) fun kV doc pm an cdv ct a0 a1 => by show _ = _; kernel_rfl
theorem b46 : PM.BindOne t.G (11, 2, []) := PM.bindOne_of (fn_at (by decide)) fun kV doc pm an cdv ct a0 a1 => by show _ = _; kernel_rfl
theorem b47 : PM.BindOne t.G (39, 0, []) := PM.bindOne_of (fn_at (by decide)) fun kV doc pm an cdv ct  => by show _ = _; kernel_rfl
theorem b48 : PM.BindOne t.G (38, 1, []) := PM.bindOne_of (fn_at (by decide)) fun kV doc pm an cdv ct a0 => by show _ = _; kernel_rfl
theorem b49 : PM.BindOne t.G (22, 2, []) := PM.bindOne_of (fn_at (by decide)) fun kV doc pm an cdv ct a0 a1 => by show _ = _; kernel_rfl
theorem b50 : PM.BindOne t.G (25, 2, []) := PM.bindOne_of (fn_at (by decide)) fun kV doc pm an cdv ct a0 a1 => by show _ = _; kernel_rfl
theorem b51 : PM.BindOne t.G (40, 1, []) := PM.bindOne_of (fn_at (by decide)) fun kV doc pm an cdv ct a0 => by show _ = _; kernel_rfl
def shl : List (Nat × Nat × List Str) := [(0, 3, []), (1, 3, []), (3, 1, []), (4, 1, []), (6, 1, []), (10, 1, []), (5, 3, []), (13, 4, []), (15, 3, []), (2, 2, []), (23, 2, []), (24, 2, []), (29, 2, []), (27, 1, []), (31, 2, []), (33, 1, []), (28, 3, []), (34, 4, []), (14, 3, [("shift" : Str)]), (16, 2, [("wide" : Str)]), (36, 5, []), (30, 2, []), (17, 3, [("value" : Str)]), (12, 1, [("other" : Str)]), (35, 2, []), (18, 1, [("other" : Str)]), (32, 1, []), (7, 0, [("rib" : Str)]), (8, 0, [("rib" : Str)]), (8, 1, []), (9, 0, [("rib" : Str)]), (37, 4, []), (14, 4, []), (21, 1, [("wide" : Str)]), (19, 1, [("wide" : Str)]), (20, 1, [("wide" : Str)]), (11, 1, [("purl" : Str)]), (7, 1, []), (9, 1, []), (12, 2, []), (16, 3, []), (18, 2, []), (19, 2, []), (21, 2, []), (26, 1, []), (20, 2, []), (11, 2, []), (39, 0, []), (38, 1, []), (22, 2, []), (25, 2, []), (40, 1, [])]
theorem sh_eq : t.G.sh = shl := by decide +kernel
theorem binds : PM.BindOk t := PM.bind_ok (by
  rw [sh_eq]
  exact ⟨b0, b1, b2, b3, b4, b5, b6, b7, b8, b9, b10, b11, b12, b13, b14, b15, b16, b17, b18, b19, b20, b21, b22, b23, b24, b25, b26, b27, b28, b29, b30, b31, b32, b33, b34, b35, b36, b37, b38, b39, b40, b41, b42, b43, b44, b45, b46, b47, b48, b49, b50, b51, trivial⟩)
theorem ec_ok : PM.ecOk t = true := by decide +kernel
end K45
set_option Elab.async false
set_option linter.all false
set_option maxRecDepth 100000
set_option maxHeartbeats 0
namespace K45
open PySem PM
/-- is_int(value, low, high) -/
def f0b : Ss := (Ss.cons (S.ret (((E.v 0).isi (Cl.ty "int")).and (((E.v 0).isi (Cl.ty "bool")).not.and (E.chain Cop.le Cop.le (E.v 1) (E.v 0) (E.v 2))))) Ss.nil)
/-- are_ints(value, low, high) -/
def f1b : Ss := (Ss.cons (S.ret (((E.v 0).isi (Cl.ty "tuple")).and (E.bi Bi.all (Es.cons (E.cm (Tg.n 3) (It.seq (E.v 0)) none (E.call 0 (Es.cons (E.v 3) (Es.cons (E.v 1) (Es.cons (E.v 2) Es.nil))) [0, 1, 2])) Es.nil)))) Ss.nil)
/-- is_told(value, sizes) -/
def f2b : Ss := (Ss.cons (S.ret (((E.v 0).isi (Cl.ty "tuple")).and ((E.cmp Cop.isin (E.bi Bi.len (Es.cons (E.v 0) Es.nil)) (E.v 1)).and (((E.v 0).ix (E.k (PV.int (0)))).isi (Cl.ty "str"))))) Ss.nil)
/-- is_rib(value) -/
def f3b : Ss := (Ss.cons (S.ret ((E.call 1 (Es.cons (E.v 0) (Es.cons (E.k (PV.int (0))) (Es.cons (E.k (PV.int (1))) Es.nil))) [0, 1, 2]).and (E.chain Cop.le Cop.le (E.k (PV.int (1))) (E.bi Bi.len (Es.cons (E.v 0) Es.nil)) (E.k (PV.int (24)))))) Ss.nil)
/-- look_at_rib(rib) -/
def f4b : Ss := (Ss.cons (S.ite (E.call 3 (Es.cons (E.v 0) Es.nil) [0]).not (Ss.cons (S.rais 2 (E.v 0)) Ss.nil) Ss.nil) Ss.nil)
/-- look_at_ribs(one, other, wide) -/
def f5b : Ss := (Ss.cons (S.ex (E.call 4 (Es.cons (E.v 0) Es.nil) [0])) (Ss.cons (S.ex (E.call 4 (Es.cons (E.v 1) Es.nil) [0])) (Ss.cons (S.ite (E.call 0 (Es.cons (E.v 2) (Es.cons (E.k (PV.int (0))) (Es.cons (E.k (PV.int (600))) Es.nil))) [0, 1, 2]).not (Ss.cons (S.rais 1 (E.v 2)) Ss.nil) Ss.nil) Ss.nil)))
/-- told_least(rib) -/
def f6b : Ss := (Ss.cons (S.fo (Tg.n 1) (It.rng2 (E.k (PV.int (1))) (E.bin Bop.add (E.bi Bi.len (Es.cons (E.v 0) Es.nil)) (E.k (PV.int (1))))) (Ss.cons (S.ite ((E.cmp Cop.eq (E.bin Bop.mod (E.bi Bi.len (Es.cons (E.v 0) Es.nil)) (E.v 1)) (E.k (PV.int (0)))).and (E.cmp Cop.eq (E.bin Bop.mul ((E.v 0).sl none (some (E.v 1))) (E.bin Bop.fdiv (E.bi Bi.len (Es.cons (E.v 0) Es.nil)) (E.v 1))) (E.v 0))) (Ss.cons (S.ret ((E.v 0).sl none (some (E.v 1)))) Ss.nil) Ss.nil) Ss.nil)) (Ss.cons (S.ret (E.v 0)) Ss.nil))
/-- least_rib(rib) -/
def f7b : Ss := (Ss.cons (S.ex (E.call 4 (Es.cons (E.v 0) Es.nil) [0])) (Ss.cons (S.ret (E.call 6 (Es.cons (E.v 0) Es.nil) [0])) Ss.nil))
/-- back_of(rib) -/
def f8b : Ss := (Ss.cons (S.ex (E.call 4 (Es.cons (E.v 0) Es.nil) [0])) (Ss.cons (S.ret (E.bi Bi.tuple (Es.cons (E.cm (Tg.n 1) (It.seq (E.v 0).rev) none (E.bin Bop.sub (E.k (PV.int (1))) (E.v 1))) Es.nil))) Ss.nil))
/-- is_two_faced(rib) -/
def f9b : Ss := (Ss.cons (S.ex (E.call 4 (Es.cons (E.v 0) Es.nil) [0])) (Ss.cons (S.asg (Tg.n 1) (E.call 6 (Es.cons (E.v 0) Es.nil) [0])) (Ss.cons (S.ret (E.cmp Cop.isin (E.v 1) (E.call 10 (Es.cons (E.bi Bi.tuple (Es.cons (E.cm (Tg.n 2) (It.seq (E.v 1).rev) none (E.bin Bop.sub (E.k (PV.int (1))) (E.v 2))) Es.nil)) Es.nil) [0]))) Ss.nil)))
/-- told_moves(rib) -/
def f10b : Ss := (Ss.cons (S.ret (E.cm (Tg.n 1) (It.rng1 (E.bi Bi.len (Es.cons (E.v 0) Es.nil))) none (E.bin Bop.add ((E.v 0).sl (some (E.v 1)) none) ((E.v 0).sl none (some (E.v 1)))))) Ss.nil)
/-- plain_rib(knit, purl) -/
def f11b : Ss := (Ss.cons (S.fo (Tg.n 2) (It.seq (E.tup (Es.cons (E.v 0) (Es.cons (E.v 1) Es.nil)))) (Ss.cons (S.ite (E.call 0 (Es.cons (E.v 2) (Es.cons (E.k (PV.int (0))) (Es.cons (E.bin Bop.fdiv (E.k (PV.int (24))) (E.k (PV.int (2)))) Es.nil))) [0, 1, 2]).not (Ss.cons (S.rais 1 (E.v 2)) Ss.nil) Ss.nil) Ss.nil)) (Ss.cons (S.ite (E.cmp Cop.eq (E.bin Bop.add (E.v 0) (E.v 1)) (E.k (PV.int (0)))) (Ss.cons (S.rais 1 (E.v 1)) Ss.nil) Ss.nil) (Ss.cons (S.ret (E.bin Bop.add (E.bin Bop.mul (E.tup (Es.cons (E.k (PV.int (1))) Es.nil)) (E.v 0)) (E.bin Bop.mul (E.tup (Es.cons (E.k (PV.int (0))) Es.nil)) (E.v 1)))) Ss.nil)))
/-- are_same_ribs(one, other) -/
def f12b : Ss := (Ss.cons (S.ex (E.call 4 (Es.cons (E.v 0) Es.nil) [0])) (Ss.cons (S.ex (E.call 4 (Es.cons (E.v 1) Es.nil) [0])) (Ss.cons (S.ret (E.cmp Cop.isin (E.call 6 (Es.cons (E.v 1) Es.nil) [0]) (E.call 10 (Es.cons (E.call 6 (Es.cons (E.v 0) Es.nil) [0]) Es.nil) [0]))) Ss.nil)))
/-- told_unlike(one, other, wide, shift) -/
def f13b : Ss := (Ss.cons (S.ret (E.bi Bi.len (Es.cons (E.cm (Tg.n 4) (It.rng1 (E.v 2)) (some (E.cmp Cop.ne ((E.v 0).ix (E.bin Bop.mod (E.v 4) (E.bi Bi.len (Es.cons (E.v 0) Es.nil)))) ((E.v 1).ix (E.bin Bop.mod (E.bin Bop.add (E.v 4) (E.v 3)) (E.bi Bi.len (Es.cons (E.v 1) Es.nil)))))) (E.v 4)) Es.nil))) Ss.nil)
/-- unlike_stitches(one, other, wide, shift) -/
def f14b : Ss := (Ss.cons (S.ex (E.call 5 (Es.cons (E.v 0) (Es.cons (E.v 1) (Es.cons (E.v 2) Es.nil))) [0, 1, 2])) (Ss.cons (S.ite (E.call 0 (Es.cons (E.v 3) (Es.cons (E.k (PV.int (0))) (Es.cons (E.k (PV.int (600))) Es.nil))) [0, 1, 2]).not (Ss.cons (S.rais 1 (E.v 3)) Ss.nil) Ss.nil) (Ss.cons (S.ret (E.call 13 (Es.cons (E.v 0) (Es.cons (E.v 1) (Es.cons (E.v 2) (Es.cons (E.v 3) Es.nil)))) [0, 1, 2, 3])) Ss.nil)))
/-- told_best(one, other, wide) -/
def f15b : Ss := (Ss.cons (S.ret (E.bi Bi.minL (Es.cons (E.cm (Tg.n 3) (It.rng1 (E.bi Bi.len (Es.cons (E.v 1) Es.nil))) none (E.tup (Es.cons (E.call 13 (Es.cons (E.v 0) (Es.cons (E.v 1) (Es.cons (E.v 2) (Es.cons (E.v 3) Es.nil)))) [0, 1, 2, 3]) (Es.cons (E.v 3) Es.nil)))) Es.nil))) Ss.nil)
/-- flows_on(one, other, wide) -/
def f16b : Ss := (Ss.cons (S.ex (E.call 5 (Es.cons (E.v 0) (Es.cons (E.v 1) (Es.cons (E.v 2) Es.nil))) [0, 1, 2])) (Ss.cons (S.asg (Tg.t [Tg.n 3, Tg.n 4]) (E.call 15 (Es.cons (E.v 0) (Es.cons (E.v 1) (Es.cons (E.v 2) Es.nil))) [0, 1, 2])) (Ss.cons (S.ret (E.tup (Es.cons (E.k (PV.str (("shift" : PySem.Str)))) (Es.cons (E.v 4) (Es.cons (E.v 3) Es.nil))))) Ss.nil)))
/-- shows_flows_on(one, other, wide, value) -/
def f17b : Ss := (Ss.cons (S.ex (E.call 5 (Es.cons (E.v 0) (Es.cons (E.v 1) (Es.cons (E.v 2) Es.nil))) [0, 1, 2])) (Ss.cons (S.ite ((E.call 2 (Es.cons (E.v 3) (Es.cons (E.tup (Es.cons (E.bin Bop.add (E.k (PV.int (2))) (E.k (PV.int (1)))) Es.nil)) Es.nil)) [0, 1]).not.or ((E.cmp Cop.ne ((E.v 3).ix (E.k (PV.int (0)))) (E.k (PV.str (("shift" : PySem.Str))))).or (E.call 0 (Es.cons ((E.v 3).ix (E.k (PV.int (1)))) (Es.cons (E.k (PV.int (0))) (Es.cons (E.bin Bop.sub (E.bi Bi.len (Es.cons (E.v 1) Es.nil)) (E.k (PV.int (1)))) Es.nil))) [0, 1, 2]).not)) (Ss.cons (S.ret (E.k (PV.bl false))) Ss.nil) Ss.nil) (Ss.cons (S.asg (Tg.n 4) ((E.call 15 (Es.cons (E.v 0) (Es.cons (E.v 1) (Es.cons (E.v 2) Es.nil))) [0, 1, 2]).ix (E.k (PV.int (0))))) (Ss.cons (S.ret ((E.call 0 (Es.cons ((E.v 3).ix (E.k (PV.int (2)))) (Es.cons (E.v 4) (Es.cons (E.v 4) Es.nil))) [0, 1, 2]).and (E.cmp Cop.eq (E.call 13 (Es.cons (E.v 0) (Es.cons (E.v 1) (Es.cons (E.v 2) (Es.cons ((E.v 3).ix (E.k (PV.int (1)))) Es.nil)))) [0, 1, 2, 3]) (E.v 4)))) Ss.nil))))
/-- first_unlike(one, other) -/
def f18b : Ss := (Ss.cons (S.ex (E.call 4 (Es.cons (E.v 0) Es.nil) [0])) (Ss.cons (S.ex (E.call 4 (Es.cons (E.v 1) Es.nil) [0])) (Ss.cons (S.fo (Tg.n 2) (It.rng1 (E.bin Bop.add (E.bi Bi.len (Es.cons (E.v 0) Es.nil)) (E.bi Bi.len (Es.cons (E.v 1) Es.nil)))) (Ss.cons (S.ite (E.cmp Cop.ne ((E.v 0).ix (E.bin Bop.mod (E.v 2) (E.bi Bi.len (Es.cons (E.v 0) Es.nil)))) ((E.v 1).ix (E.bin Bop.mod (E.v 2) (E.bi Bi.len (Es.cons (E.v 1) Es.nil))))) (Ss.cons (S.ret (E.v 2)) Ss.nil) Ss.nil) Ss.nil)) (Ss.cons (S.ret (E.k PV.non)) Ss.nil))))
/-- fits_round(rib, wide) -/
def f19b : Ss := (Ss.cons (S.ex (E.call 4 (Es.cons (E.v 0) Es.nil) [0])) (Ss.cons (S.ite (E.call 0 (Es.cons (E.v 1) (Es.cons (E.k (PV.int (1))) (Es.cons (E.k (PV.int (600))) Es.nil))) [0, 1, 2]).not (Ss.cons (S.rais 1 (E.v 1)) Ss.nil) Ss.nil) (Ss.cons (S.ret (E.cmp Cop.eq (E.bin Bop.mod (E.v 1) (E.bi Bi.len (Es.cons (E.call 6 (Es.cons (E.v 0) Es.nil) [0]) Es.nil))) (E.k (PV.int (0))))) Ss.nil)))
/-- nearest_round(rib, wide) -/
def f20b : Ss := (Ss.cons (S.ex (E.call 4 (Es.cons (E.v 0) Es.nil) [0])) (Ss.cons (S.ite (E.call 0 (Es.cons (E.v 1) (Es.cons (E.k (PV.int (1))) (Es.cons (E.k (PV.int (600))) Es.nil))) [0, 1, 2]).not (Ss.cons (S.rais 1 (E.v 1)) Ss.nil) Ss.nil) (Ss.cons (S.asg (Tg.n 2) (E.bi Bi.len (Es.cons (E.call 6 (Es.cons (E.v 0) Es.nil) [0]) Es.nil))) (Ss.cons (S.asg (Tg.n 3) (E.bin Bop.mul (E.bin Bop.fdiv (E.v 1) (E.v 2)) (E.v 2))) (Ss.cons (S.ret (((E.cmp Cop.gt (E.v 3) (E.k (PV.int (0)))).and (E.cmp Cop.le (E.bin Bop.sub (E.v 1) (E.v 3)) (E.bin Bop.sub (E.bin Bop.add (E.v 3) (E.v 2)) (E.v 1)))).ite (E.v 3) (E.bin Bop.add (E.v 3) (E.v 2)))) Ss.nil)))))
/-- columns_of(rib, wide) -/
def f21b : Ss := (Ss.cons (S.ex (E.call 4 (Es.cons (E.v 0) Es.nil) [0])) (Ss.cons (S.ite (E.call 0 (Es.cons (E.v 1) (Es.cons (E.k (PV.int (0))) (Es.cons (E.k (PV.int (600))) Es.nil))) [0, 1, 2]).not (Ss.cons (S.rais 1 (E.v 1)) Ss.nil) Ss.nil) (Ss.cons (S.asg (Tg.n 2) (E.bi Bi.len (Es.cons (E.cm (Tg.n 3) (It.rng1 (E.v 1)) (some (E.cmp Cop.eq ((E.v 0).ix (E.bin Bop.mod (E.v 3) (E.bi Bi.len (Es.cons (E.v 0) Es.nil)))) (E.k (PV.int (1))))) (E.v 3)) Es.nil))) (Ss.cons (S.ret (E.tup (Es.cons (E.v 2) (Es.cons (E.bin Bop.sub (E.v 1) (E.v 2)) Es.nil)))) Ss.nil))))
/-- _law_pot(script, place) -/
def f22b : Ss := (Ss.cons (S.asg (Tg.n 2) ((E.cmp Cop.lt (E.v 1) (E.bi Bi.len (Es.cons (E.v 0) Es.nil))).ite ((E.v 0).ix (E.v 1)) (E.bin Bop.add (E.bin Bop.add (E.bin Bop.mod (E.bi Bi.int1 (Es.cons (E.bi Bi.sum (Es.cons ((E.v 0).sl none (some (E.k (PV.int (1))))) Es.nil)) Es.nil)) (E.k (PV.int (1000211)))) (E.bin Bop.mul (E.k (PV.int (4639))) (E.v 1))) (E.k (PV.int (3163)))))) (Ss.cons (S.asg (Tg.n 3) (E.bin Bop.mul (E.bin Bop.mod (E.bi Bi.int1 (Es.cons (E.bi Bi.abs (Es.cons (E.v 2) Es.nil)) Es.nil)) (E.bin Bop.pow (E.bin Bop.pow (E.k (PV.int (10))) (E.k (PV.int (60)))) (E.k (PV.int (5))))) (E.bi Bi.int1 (Es.cons (E.cmp Cop.ge (E.bi Bi.abs (Es.cons (E.v 2) Es.nil)) (E.bin Bop.pow (E.k (PV.int (10))) (E.k (PV.int (18))))) Es.nil)))) (Ss.cons (S.asg (Tg.n 4) (E.bin Bop.mod (E.bi Bi.int1 (Es.cons (E.v 2) Es.nil)) (E.k (PV.int (2305843009213693951))))) (Ss.cons (S.ret (E.lst (Es.cons (E.v 3) (Es.cons (E.bin Bop.mod (E.bi Bi.int1 (Es.cons (E.bin Bop.add (E.bin Bop.add (E.bin Bop.mul (E.v 4) (E.k (PV.int (72161)))) (E.bin Bop.mul (E.bin Bop.mul (E.k (PV.int (10853))) (E.v 1)) (E.v 1))) (E.k (PV.int (2843)))) Es.nil)) (E.k (PV.int (2305843009213693921)))) (Es.cons (E.k (PV.int (0))) Es.nil)))).mut) Ss.nil))))
/-- _law_take(pot, upto) -/
def f23b : Ss := (Ss.cons (S.ite (E.cmp Cop.gt ((E.v 0).ix (E.k (PV.int (0)))) (E.k (PV.int (0)))) (Ss.cons (S.asg (Tg.n 2) (E.bin Bop.mod (E.bi Bi.int1 (Es.cons ((E.v 0).ix (E.k (PV.int (0)))) Es.nil)) (E.v 1))) (Ss.cons (S.seti (E.v 0) (E.k (PV.int (0))) (E.bin Bop.fdiv ((E.v 0).ix (E.k (PV.int (0)))) (E.v 1))) (Ss.cons (S.ret (E.v 2)) Ss.nil))) Ss.nil) (Ss.cons (S.seti (E.v 0) (E.k (PV.int (2))) (E.bin Bop.add ((E.v 0).ix (E.k (PV.int (2)))) (E.k (PV.int (1))))) (Ss.cons (S.asg (Tg.n 3) ((E.lst (Es.cons (E.k (PV.int (2147483647))) (Es.cons (E.k (PV.int (2147483629))) (Es.cons (E.k (PV.int (2147483587))) (Es.cons (E.k (PV.int (2147483579))) (Es.cons (E.k (PV.int (2147483563))) Es.nil)))))).ix (E.bin Bop.mod (E.bi Bi.int1 (Es.cons ((E.v 0).ix (E.k (PV.int (2)))) Es.nil)) (E.k (PV.int (5)))))) (Ss.cons (S.asg (Tg.n 4) (E.bin Bop.mod (E.bi Bi.int1 (Es.cons (E.bin Bop.pow (E.bi Bi.int1 (Es.cons (E.bin Bop.add (E.bin Bop.add ((E.v 0).ix (E.k (PV.int (1)))) (E.bin Bop.mul (E.bin Bop.mul (E.k (PV.int (95257))) ((E.v 0).ix (E.k (PV.int (2))))) ((E.v 0).ix (E.k (PV.int (2)))))) (E.k (PV.int (3163)))) Es.nil)) (E.k (PV.int (3)))) Es.nil)) (E.v 3))) (Ss.cons (S.asg (Tg.n 4) (E.bin Bop.mod (E.bi Bi.int1 (Es.cons (E.bin Bop.mul (E.v 4) (E.bin Bop.add (E.bin Bop.mod (E.bi Bi.int1 (Es.cons (E.v 4) Es.nil)) (E.k (PV.int (13441)))) (E.bin Bop.mul (E.k (PV.int (419))) ((E.v 0).ix (E.k (PV.int (2))))))) Es.nil)) (E.k (PV.int (2305843009213693907))))) (Ss.cons (S.ret (E.bin Bop.mod (E.bi Bi.int1 (Es.cons (E.bin Bop.fdiv (E.v 4) (E.k (PV.int (229)))) Es.nil)) (E.v 1))) Ss.nil))))))
/-- _law_of(pot, some) -/
def f24b : Ss := (Ss.cons (S.ret ((E.v 1).ix (E.call 23 (Es.cons (E.v 0) (Es.cons (E.bi Bi.len (Es.cons (E.v 1) Es.nil)) Es.nil)) [0, 1]))) Ss.nil)
/-- _law_cells(script, most) -/
def f25b : Ss := (Ss.cons (S.ret (E.bn Bn.lr1 (Es.cons (E.bi Bi.max2 (Es.cons (E.k (PV.int (1))) (Es.cons (E.bi Bi.min2 (Es.cons (E.v 1) (Es.cons (E.bi Bi.len (Es.cons (E.v 0) Es.nil)) Es.nil))) Es.nil))) Es.nil))) Ss.nil)
/-- _law_heard(call) -/
def f26b : Ss := (Ss.cons (S.asg (Tg.t [Tg.n 1, Tg.n 2]) (E.tup (Es.cons (E.k PV.non) (Es.cons (E.k PV.non) Es.nil)))) (Ss.cons (S.tryc 2 (E.callv 0 Es.nil) 0 3 1) (Ss.cons (S.ret (E.tup (Es.cons (E.v 1) (Es.cons (E.v 2) Es.nil)))) Ss.nil)))
/-- _law_odd(pot) -/
def f27b : Ss := (Ss.cons (S.asg (Tg.n 1) (E.lst (Es.cons (E.k PV.non) (Es.cons (E.k (PV.bl true)) (Es.cons (E.k (PV.bl false)) (Es.cons (E.k (PV.int (0))) (Es.cons (E.k (PV.int (1))) (Es.cons (E.k (PV.int (1))).neg (Es.cons (E.k (PV.int (2))) (Es.cons (E.k (PV.int (33))) (Es.cons (E.bin Bop.pow (E.k (PV.int (10))) (E.k (PV.int (20)))) (Es.cons (E.k (PV.str (("" : PySem.Str)))) (Es.cons (E.k (PV.str (("turns" : PySem.Str)))) (Es.cons (E.k (PV.str (("seam" : PySem.Str)))) (Es.cons (E.tup Es.nil) (Es.cons (E.lst Es.nil) (Es.cons (E.dc [] []) (Es.cons (E.tup (Es.cons (E.k (PV.int (0))) Es.nil)) (Es.cons (E.tup (Es.cons (E.tup Es.nil) Es.nil)) (Es.cons (E.lst (Es.cons (E.k (PV.int (1))) Es.nil)) (Es.cons (E.tup (Es.cons (E.k (PV.int (1))) (Es.cons (E.k (PV.int (0))) Es.nil))) Es.nil))))))))))))))))))))) (Ss.cons (S.asg (Tg.n 1) (E.bin Bop.add (E.v 1) (E.lst (Es.cons (E.tup (Es.cons (E.k (PV.int (0))) (Es.cons (E.k (PV.int (1))) Es.nil))) (Es.cons (E.tup (Es.cons (E.k PV.non) Es.nil)) (Es.cons (E.dc [(("a" : PySem.Str))] [PV.int (1)]) (Es.cons (E.tup (Es.cons (E.tup (Es.cons (E.k (PV.int (0))) (Es.cons (E.k (PV.int (1))) Es.nil))) (Es.cons (E.tup (Es.cons (E.k (PV.int (1))) (Es.cons (E.k (PV.int (2))) Es.nil))) Es.nil))) (Es.cons (E.tup (Es.cons (E.k (PV.int (2))) (Es.cons (E.k (PV.int (1))) (Es.cons (E.k (PV.int (0))) Es.nil)))) (Es.cons (E.tup (Es.cons (E.tup (Es.cons (E.k (PV.bl true)) Es.nil)) Es.nil)) (Es.cons (E.tup (Es.cons (E.k (PV.str (("none" : PySem.Str)))) (Es.cons (E.k (PV.int (3))) Es.nil))) (Es.cons (E.tup (Es.cons (E.k (PV.str (("ones" : PySem.Str)))) Es.nil)) Es.nil))))))))))) (Ss.cons (S.ret (E.call 24 (Es.cons (E.v 0) (Es.cons (E.v 1) Es.nil)) [0, 1])) Ss.nil)))
/-- _law_is_int(value, low, high) -/
def f28b : Ss := (Ss.cons (S.ret (((E.v 0).isi (Cl.ty "int")).and (((E.v 0).isi (Cl.ty "bool")).not.and (E.chain Cop.le Cop.le (E.v 1) (E.v 0) (E.v 2))))) Ss.nil)
/-- _law_bent(pot, value) -/
def f29b : Ss := (Ss.cons (S.ite (((E.v 1).isi (Cl.ty "tuple")).and ((E.cmp Cop.ne (E.v 1) (E.tup Es.nil)).and (E.cmp Cop.gt (E.call 23 (Es.cons (E.v 0) (Es.cons (E.k (PV.int (5))) Es.nil)) [0, 1]) (E.k (PV.int (0)))))) (Ss.cons (S.asg (Tg.n 2) (E.call 23 (Es.cons (E.v 0) (Es.cons (E.bi Bi.len (Es.cons (E.v 1) Es.nil)) Es.nil)) [0, 1])) (Ss.cons (S.ret (E.bin Bop.add (E.bin Bop.add ((E.v 1).sl none (some (E.v 2))) (E.tup (Es.cons (E.call 29 (Es.cons (E.v 0) (Es.cons ((E.v 1).ix (E.v 2)) Es.nil)) [0, 1]) Es.nil))) ((E.v 1).sl (some (E.bin Bop.add (E.v 2) (E.k (PV.int (1))))) none))) Ss.nil)) Ss.nil) (Ss.cons (S.ite ((E.v 1).isi (Cl.ty "tuple")) (Ss.cons (S.ret (E.call 24 (Es.cons (E.v 0) (Es.cons (E.lst (Es.cons (E.bn Bn.list (Es.cons (E.v 1) Es.nil)) (Es.cons ((E.v 1).sl (some (E.k (PV.int (1)))) none) (Es.cons ((E.v 1).sl none (some (E.k (PV.int (1))).neg)) (Es.cons (E.bin Bop.add (E.v 1) ((E.v 1).sl (some (E.k (PV.int (1))).neg) none)) (Es.cons (E.v 1).rev (Es.cons (E.tup Es.nil) (Es.cons (E.k PV.non) Es.nil)))))))) Es.nil)) [0, 1])) Ss.nil) Ss.nil) (Ss.cons (S.ite ((E.v 1).isi (Cl.ty "bool")) (Ss.cons (S.ret (E.call 24 (Es.cons (E.v 0) (Es.cons (E.lst (Es.cons (E.v 1).not (Es.cons (E.bi Bi.int1 (Es.cons (E.v 1) Es.nil)) (Es.cons (E.k PV.non) Es.nil)))) Es.nil)) [0, 1])) Ss.nil) Ss.nil) (Ss.cons (S.ite ((E.v 1).isi (Cl.ty "int")) (Ss.cons (S.ret (E.call 24 (Es.cons (E.v 0) (Es.cons (E.lst (Es.cons (E.bin Bop.add (E.v 1) (E.k (PV.int (1)))) (Es.cons (E.bin Bop.sub (E.v 1) (E.k (PV.int (1)))) (Es.cons (E.bin Bop.sub (E.v 1).neg (E.k (PV.int (1)))) (Es.cons (E.bi Bi.str1 (Es.cons (E.v 1) Es.nil)) (Es.cons (E.cmp Cop.eq (E.v 1) (E.k (PV.int (1)))) (Es.cons (E.k PV.non) (Es.cons (E.tup (Es.cons (E.v 1) Es.nil)) (Es.cons (E.bin Bop.pow (E.k (PV.int (10))) (E.k (PV.int (9)))) Es.nil))))))))) Es.nil)) [0, 1])) Ss.nil) Ss.nil) (Ss.cons (S.ite ((E.v 1).isi (Cl.ty "str")) (Ss.cons (S.ret (E.call 24 (Es.cons (E.v 0) (Es.cons (E.lst (Es.cons (E.bin Bop.add (E.v 1) (E.k (PV.str (("a" : PySem.Str))))) (Es.cons ((E.v 1).sl (some (E.k (PV.int (1)))) none) (Es.cons (E.mt Mt.upper (E.v 1) Es.nil) (Es.cons (E.k (PV.str (("" : PySem.Str)))) (Es.cons (E.k PV.non) (Es.cons (E.k (PV.int (0))) Es.nil))))))) Es.nil)) [0, 1])) Ss.nil) Ss.nil) (Ss.cons (S.ret (E.call 27 (Es.cons (E.v 0) Es.nil) [0])) Ss.nil))))))
/-- _law_is_bool(told, due) -/
def f30b : Ss := (Ss.cons (S.ret (((E.v 0).isi (Cl.ty "bool")).and (E.cmp Cop.eq (E.v 0) (E.v 1)))) Ss.nil)
/-- _law_long(rib, wide) -/
def f31b : Ss := (Ss.cons (S.asg (Tg.n 2) (E.tup Es.nil)) (Ss.cons (S.wh (E.cmp Cop.lt (E.bi Bi.len (Es.cons (E.v 2) Es.nil)) (E.v 1)) (Ss.cons (S.asg (Tg.n 2) (E.bin Bop.add (E.v 2) (E.v 0))) Ss.nil)) (Ss.cons (S.ret ((E.v 2).sl none (some (E.v 1)))) Ss.nil)))
/-- _law_drawn(pot) -/
def f32b : Ss := (Ss.cons (S.asg (Tg.n 1) (E.bi Bi.tuple (Es.cons (E.cm (Tg.n 2) (It.rng1 (E.bin Bop.add (E.k (PV.int (1))) (E.call 23 (Es.cons (E.v 0) (Es.cons (E.k (PV.int (6))) Es.nil)) [0, 1]))) none (E.bi Bi.int1 (Es.cons (E.call 23 (Es.cons (E.v 0) (Es.cons (E.k (PV.int (2))) Es.nil)) [0, 1]) Es.nil))) Es.nil))) (Ss.cons (S.ret (E.bin Bop.mul (E.v 1) (E.bi Bi.int1 (Es.cons (E.bin Bop.add (E.k (PV.int (1))) (E.call 23 (Es.cons (E.v 0) (Es.cons (E.k (PV.int (2))) Es.nil)) [0, 1])) Es.nil)))) Ss.nil))
/-- _law_least(rib) -/
def f33b : Ss := (Ss.cons (S.ret ((E.cm (Tg.n 1) (It.rng2 (E.k (PV.int (1))) (E.bin Bop.add (E.bi Bi.len (Es.cons (E.v 0) Es.nil)) (E.k (PV.int (1))))) (some (E.cmp Cop.eq (E.bin Bop.mul ((E.v 0).sl none (some (E.v 1))) (E.bi Bi.len (Es.cons (E.v 0) Es.nil))) (E.bin Bop.mul (E.v 0) (E.v 1)))) ((E.v 0).sl none (some (E.v 1)))).ix (E.k (PV.int (0))))) Ss.nil)
/-- _law_unlike(one, other, wide, shift) -/
def f34b : Ss := (Ss.cons (S.asg (Tg.t [Tg.n 4, Tg.n 5]) (E.tup (Es.cons (E.call 31 (Es.cons (E.v 0) (Es.cons (E.v 2) Es.nil)) [0, 1]) (Es.cons ((E.call 31 (Es.cons (E.v 1) (Es.cons (E.bin Bop.add (E.v 2) (E.v 3)) Es.nil)) [0, 1]).sl (some (E.v 3)) none) Es.nil)))) (Ss.cons (S.ret (E.bi Bi.len (Es.cons (E.cm (Tg.t [Tg.n 6, Tg.n 7]) (It.zip (E.v 4) (E.v 5)) (some (E.cmp Cop.ne (E.v 6) (E.v 7))) (E.k (PV.int (1)))) Es.nil))) Ss.nil))
/-- _law_are_same(one, other) -/
def f35b : Ss := (Ss.cons (S.asg (Tg.t [Tg.n 2, Tg.n 3]) (E.tup (Es.cons (E.call 33 (Es.cons (E.v 0) Es.nil) [0]) (Es.cons (E.call 33 (Es.cons (E.v 1) Es.nil) [0]) Es.nil)))) (Ss.cons (S.ret ((E.cmp Cop.eq (E.bi Bi.len (Es.cons (E.v 2) Es.nil)) (E.bi Bi.len (Es.cons (E.v 3) Es.nil))).and (E.bi Bi.any (Es.cons (E.cm (Tg.n 4) (It.rng1 (E.bi Bi.len (Es.cons (E.v 2) Es.nil))) none (E.cmp Cop.eq ((E.bin Bop.add (E.v 2) (E.v 2)).sl (some (E.v 4)) (some (E.bin Bop.add (E.v 4) (E.bi Bi.len (Es.cons (E.v 3) Es.nil))))) (E.v 3))) Es.nil)))) Ss.nil))
/-- _law_is_due(one, other, wide, few, value) -/
def f36b : Ss := (Ss.cons (S.ite (((E.v 4).isi (Cl.ty "tuple")).not.or ((E.cmp Cop.ne (E.bi Bi.len (Es.cons (E.v 4) Es.nil)) (E.k (PV.int (3)))).or ((((E.v 4).ix (E.k (PV.int (0)))).isi (Cl.ty "str")).not.or (E.cmp Cop.ne ((E.v 4).ix (E.k (PV.int (0)))) (E.k (PV.str (("shift" : PySem.Str)))))))) (Ss.cons (S.ret (E.k (PV.bl false))) Ss.nil) Ss.nil) (Ss.cons (S.ite ((E.call 28 (Es.cons ((E.v 4).ix (E.k (PV.int (1)))) (Es.cons (E.k (PV.int (0))) (Es.cons (E.bin Bop.sub (E.bi Bi.len (Es.cons (E.v 1) Es.nil)) (E.k (PV.int (1)))) Es.nil))) [0, 1, 2]).not.or (E.call 28 (Es.cons ((E.v 4).ix (E.k (PV.int (2)))) (Es.cons (E.v 3) (Es.cons (E.v 3) Es.nil))) [0, 1, 2]).not) (Ss.cons (S.ret (E.k (PV.bl false))) Ss.nil) Ss.nil) (Ss.cons (S.ret (E.cmp Cop.eq (E.call 34 (Es.cons (E.v 0) (Es.cons (E.v 1) (Es.cons (E.v 2) (Es.cons ((E.v 4).ix (E.k (PV.int (1)))) Es.nil)))) [0, 1, 2, 3]) (E.v 3))) Ss.nil)))
/-- _law_are_two_right(pot, one, other, wide) -/
def f37b : Ss := (Ss.cons (S.asg (Tg.n 4) (E.bi Bi.int1 (Es.cons (E.call 23 (Es.cons (E.v 0) (Es.cons (E.k (PV.int (20))) Es.nil)) [0, 1]) Es.nil))) (Ss.cons (S.ite (E.cmp Cop.ne (E.bi Bi.repr (Es.cons (E.call 14 (Es.cons (E.v 1) (Es.cons (E.v 2) (Es.cons (E.v 3) (Es.cons (E.v 4) Es.nil)))) [0, 1, 2, 3]) Es.nil)) (E.bi Bi.repr (Es.cons (E.call 34 (Es.cons (E.v 1) (Es.cons (E.v 2) (Es.cons (E.v 3) (Es.cons (E.v 4) Es.nil)))) [0, 1, 2, 3]) Es.nil))) (Ss.cons (S.ret (E.k (PV.bl false))) Ss.nil) Ss.nil) (Ss.cons (S.asg (Tg.n 6) (E.bi Bi.minL (Es.cons (E.cm (Tg.n 5) (It.rng1 (E.bi Bi.len (Es.cons (E.v 2) Es.nil))) none (E.call 34 (Es.cons (E.v 1) (Es.cons (E.v 2) (Es.cons (E.v 3) (Es.cons (E.v 5) Es.nil)))) [0, 1, 2, 3])) Es.nil))) (Ss.cons (S.asg (Tg.n 7) (E.call 16 (Es.cons (E.v 1) (Es.cons (E.v 2) (Es.cons (E.v 3) Es.nil))) [0, 1, 2])) (Ss.cons (S.ite (E.call 36 (Es.cons (E.v 1) (Es.cons (E.v 2) (Es.cons (E.v 3) (Es.cons (E.v 6) (Es.cons (E.v 7) Es.nil))))) [0, 1, 2, 3, 4]).not (Ss.cons (S.ret (E.k (PV.bl false))) Ss.nil) Ss.nil) (Ss.cons (S.asg (Tg.n 8) (E.lst (Es.cons (E.v 7) (Es.cons (E.bn Bn.list (Es.cons (E.v 7) Es.nil)) (Es.cons ((E.v 7).sl none (some (E.k (PV.int (2))))) (Es.cons (E.tup (Es.cons (E.k (PV.str (("shift" : PySem.Str)))) (Es.cons (E.k (PV.int (0))) (Es.cons (E.v 6) Es.nil)))) (Es.cons (E.tup (Es.cons (E.k (PV.str (("shift" : PySem.Str)))) (Es.cons (E.k (PV.int (0))) (Es.cons (E.k (PV.int (0))) Es.nil)))) (Es.cons (E.tup (Es.cons (E.k (PV.str (("shift" : PySem.Str)))) (Es.cons (E.bi Bi.len (Es.cons (E.v 2) Es.nil)) (Es.cons (E.v 6) Es.nil)))) (Es.cons (E.k PV.non) Es.nil))))))))) (Ss.cons (S.fo (Tg.n 9) (It.seq (E.bin Bop.add (E.bin Bop.add (E.v 8) (E.cm (Tg.n 12) (It.rng1 (E.k (PV.int (6)))) none (E.call 29 (Es.cons (E.v 0) (Es.cons (E.v 7) Es.nil)) [0, 1]))) (E.lst (Es.cons (E.call 27 (Es.cons (E.v 0) Es.nil) [0]) Es.nil)))) (Ss.cons (S.ite (E.call 30 (Es.cons (E.call 17 (Es.cons (E.v 1) (Es.cons (E.v 2) (Es.cons (E.v 3) (Es.cons (E.v 9) Es.nil)))) [0, 1, 2, 3]) (Es.cons (E.call 36 (Es.cons (E.v 1) (Es.cons (E.v 2) (Es.cons (E.v 3) (Es.cons (E.v 6) (Es.cons (E.v 9) Es.nil))))) [0, 1, 2, 3, 4]) Es.nil)) [0, 1]).not (Ss.cons (S.ret (E.k (PV.bl false))) Ss.nil) Ss.nil) Ss.nil)) (Ss.cons (S.ite (E.call 30 (Es.cons (E.call 12 (Es.cons (E.v 1) (Es.cons (E.v 2) Es.nil)) [0, 1]) (Es.cons (E.call 35 (Es.cons (E.v 1) (Es.cons (E.v 2) Es.nil)) [0, 1]) Es.nil)) [0, 1]).not (Ss.cons (S.ret (E.k (PV.bl false))) Ss.nil) Ss.nil) (Ss.cons (S.asg (Tg.t [Tg.n 10, Tg.n 5]) (E.tup (Es.cons (E.call 31 (Es.cons (E.v 1) (Es.cons (E.k (PV.int (60))) Es.nil)) [0, 1]) (Es.cons (E.call 31 (Es.cons (E.v 2) (Es.cons (E.k (PV.int (60))) Es.nil)) [0, 1]) Es.nil)))) (Ss.cons (S.asg (Tg.n 11) (E.cm (Tg.n 13) (It.rng1 (E.k (PV.int (60)))) (some (E.cmp Cop.ne ((E.v 10).ix (E.v 13)) ((E.v 5).ix (E.v 13)))) (E.v 13))) (Ss.cons (S.ret (E.cmp Cop.eq (E.bi Bi.repr (Es.cons (E.call 18 (Es.cons (E.v 1) (Es.cons (E.v 2) Es.nil)) [0, 1]) Es.nil)) (E.bi Bi.repr (Es.cons ((E.cmp Cop.ne (E.v 11) (E.lst Es.nil)).ite ((E.v 11).ix (E.k (PV.int (0)))) (E.k PV.non)) Es.nil)))) Ss.nil)))))))))))
def ls38 : List LamI := lamsSs ((bodyOf t.G (fn 38)).getD .nil)
abbrev L38 (k : Nat) : LamI := ls38.getD k dfl
/-- _law_right(pot) -/
def f38b : Ss := (Ss.cons (S.fo (Tg.n 1) (It.rng1 (E.k (PV.int (8)))) (Ss.cons (S.asg (Tg.t [Tg.n 2, Tg.n 3]) (E.tup (Es.cons (E.call 32 (Es.cons (E.v 0) Es.nil) [0]) (Es.cons (E.bi Bi.int1 (Es.cons (E.call 23 (Es.cons (E.v 0) (Es.cons (E.k (PV.int (61))) Es.nil)) [0, 1]) Es.nil)) Es.nil)))) (Ss.cons (S.asg (Tg.n 4) (E.bi Bi.tuple (Es.cons (E.cm (Tg.n 16) (It.seq (E.v 2).rev) none (E.bin Bop.sub (E.k (PV.int (1))) (E.v 16))) Es.nil))) (Ss.cons (S.asg (Tg.n 5) (E.bin Bop.add ((E.v 2).sl (some (E.k (PV.int (1)))) none) ((E.v 2).sl none (some (E.k (PV.int (1))))))) (Ss.cons (S.asg (Tg.n 6) (E.call 24 (Es.cons (E.v 0) (Es.cons (E.lst (Es.cons (E.call 32 (Es.cons (E.v 0) Es.nil) [0]) (Es.cons (E.v 5) (Es.cons (E.v 4) (Es.cons (E.bin Bop.add (E.v 2) (E.v 2)) Es.nil))))) Es.nil)) [0, 1])) (Ss.cons (S.asg (Tg.n 7) (E.call 33 (Es.cons (E.v 2) Es.nil) [0])) (Ss.cons (S.ite ((E.cmp Cop.ne (E.bi Bi.repr (Es.cons (E.call 7 (Es.cons (E.v 2) Es.nil) [0]) Es.nil)) (E.bi Bi.repr (Es.cons (E.v 7) Es.nil))).or ((E.cmp Cop.ne (E.bi Bi.repr (Es.cons (E.call 8 (Es.cons (E.v 2) Es.nil) [0]) Es.nil)) (E.bi Bi.repr (Es.cons (E.v 4) Es.nil))).or (E.cmp Cop.ne (E.call 8 (Es.cons (E.v 4) Es.nil) [0]) (E.v 2)))) (Ss.cons (S.ret (E.k (PV.bl false))) Ss.nil) Ss.nil) (Ss.cons (S.asg (Tg.n 8) (E.call 35 (Es.cons (E.v 2) (Es.cons (E.v 4) Es.nil)) [0, 1])) (Ss.cons (S.ite ((E.call 30 (Es.cons (E.call 9 (Es.cons (E.v 2) Es.nil) [0]) (Es.cons (E.v 8) Es.nil)) [0, 1]).not.or ((E.v 8).and (E.cmp Cop.ne (E.bin Bop.mul (E.k (PV.int (2))) (E.bi Bi.sum (Es.cons (E.v 2) Es.nil))) (E.bi Bi.len (Es.cons (E.v 2) Es.nil))))) (Ss.cons (S.ret (E.k (PV.bl false))) Ss.nil) Ss.nil) (Ss.cons (S.ite ((E.call 37 (Es.cons (E.v 0) (Es.cons (E.v 2) (Es.cons (E.v 6) (Es.cons (E.v 3) Es.nil)))) [0, 1, 2, 3]).not.or (E.cmp Cop.ne (E.call 14 (Es.cons (E.v 2) (Es.cons (E.v 2) (Es.cons (E.v 3) (Es.cons (E.bi Bi.len (Es.cons (E.v 2) Es.nil)) Es.nil)))) [0, 1, 2, 3]) (E.k (PV.int (0))))) (Ss.cons (S.ret (E.k (PV.bl false))) Ss.nil) Ss.nil) (Ss.cons (S.asg (Tg.n 9) (E.bi Bi.sum (Es.cons (E.call 31 (Es.cons (E.v 2) (Es.cons (E.v 3) Es.nil)) [0, 1]) Es.nil))) (Ss.cons (S.ite (E.cmp Cop.ne (E.bi Bi.repr (Es.cons (E.call 21 (Es.cons (E.v 2) (Es.cons (E.v 3) Es.nil)) [0, 1]) Es.nil)) (E.bi Bi.repr (Es.cons (E.tup (Es.cons (E.v 9) (Es.cons (E.bin Bop.sub (E.v 3) (E.v 9)) Es.nil))) Es.nil))) (Ss.cons (S.ret (E.k (PV.bl false))) Ss.nil) Ss.nil) (Ss.cons (S.asg (Tg.n 10) (E.bi Bi.int1 (Es.cons (E.bin Bop.add (E.k (PV.int (1))) (E.call 23 (Es.cons (E.v 0) (Es.cons (E.k (PV.int (60))) Es.nil)) [0, 1])) Es.nil))) (Ss.cons (S.ite (E.call 30 (Es.cons (E.call 19 (Es.cons (E.v 2) (Es.cons (E.v 10) Es.nil)) [0, 1]) (Es.cons (E.cmp Cop.eq (E.bin Bop.mod (E.v 10) (E.bi Bi.len (Es.cons (E.v 7) Es.nil))) (E.k (PV.int (0)))) Es.nil)) [0, 1]).not (Ss.cons (S.ret (E.k (PV.bl false))) Ss.nil) Ss.nil) (Ss.cons (S.asg (Tg.n 11) (E.bn Bn.sorted (Es.cons (E.cm (Tg.n 17) (It.rng3 (E.bi Bi.len (Es.cons (E.v 7) Es.nil)) (E.k (PV.int (200))) (E.bi Bi.len (Es.cons (E.v 7) Es.nil))) none (E.tup (Es.cons (E.bi Bi.abs (Es.cons (E.bin Bop.sub (E.v 17) (E.v 10)) Es.nil)) (Es.cons (E.v 17) Es.nil)))) Es.nil))) (Ss.cons (S.ite (E.cmp Cop.ne (E.bi Bi.repr (Es.cons (E.call 20 (Es.cons (E.v 2) (Es.cons (E.v 10) Es.nil)) [0, 1]) Es.nil)) (E.bi Bi.repr (Es.cons (((E.v 11).ix (E.k (PV.int (0)))).ix (E.k (PV.int (1)))) Es.nil))) (Ss.cons (S.ret (E.k (PV.bl false))) Ss.nil) Ss.nil) (Ss.cons (S.asg (Tg.t [Tg.n 9, Tg.n 12]) (E.tup (Es.cons (E.bi Bi.int1 (Es.cons (E.call 23 (Es.cons (E.v 0) (Es.cons (E.k (PV.int (13))) Es.nil)) [0, 1]) Es.nil)) (Es.cons (E.bi Bi.int1 (Es.cons (E.bin Bop.add (E.k (PV.int (1))) (E.call 23 (Es.cons (E.v 0) (Es.cons (E.k (PV.int (12))) Es.nil)) [0, 1])) Es.nil)) Es.nil)))) (Ss.cons (S.ite (E.cmp Cop.ne (E.bi Bi.repr (Es.cons (E.call 11 (Es.cons (E.v 9) (Es.cons (E.v 12) Es.nil)) [0, 1]) Es.nil)) (E.bi Bi.repr (Es.cons (E.bin Bop.add (E.bin Bop.mul (E.tup (Es.cons (E.k (PV.int (1))) Es.nil)) (E.v 9)) (E.bin Bop.mul (E.tup (Es.cons (E.k (PV.int (0))) Es.nil)) (E.v 12))) Es.nil))) (Ss.cons (S.ret (E.k (PV.bl false))) Ss.nil) Ss.nil) Ss.nil)))))))))))))))))) (Ss.cons (S.asg (Tg.n 15) (E.call 24 (Es.cons (E.v 0) (Es.cons (E.lst (Es.cons (E.k PV.non) (Es.cons (E.tup Es.nil) (Es.cons (E.lst (Es.cons (E.k (PV.int (1))) Es.nil)) (Es.cons (E.tup (Es.cons (E.k (PV.int (2))) Es.nil)) (Es.cons (E.tup (Es.cons (E.k (PV.int (1))).neg Es.nil)) (Es.cons (E.tup (Es.cons (E.k (PV.bl true)) Es.nil)) (Es.cons (E.bin Bop.mul (E.tup (Es.cons (E.k (PV.int (0))) Es.nil)) (E.k (PV.int (25)))) (Es.cons (E.k (PV.int (1))) Es.nil))))))))) Es.nil)) [0, 1])) (Ss.cons (S.asg (Tg.n 13) (E.lst (Es.cons (E.lam (L38 0)) Es.nil)).mut) (Ss.cons (S.ex (E.mt Mt.append (E.v 13) (Es.cons (E.lam (L38 1)) Es.nil))) (Ss.cons (S.ex (E.mt Mt.append (E.v 13) (Es.cons (E.lam (L38 2)) Es.nil))) (Ss.cons (S.ex (E.mt Mt.append (E.v 13) (Es.cons (E.lam (L38 3)) Es.nil))) (Ss.cons (S.ex (E.mt Mt.append (E.v 13) (Es.cons (E.lam (L38 4)) Es.nil))) (Ss.cons (S.ex (E.mt Mt.append (E.v 13) (Es.cons (E.lam (L38 5)) Es.nil))) (Ss.cons (S.ex (E.mt Mt.append (E.v 13) (Es.cons (E.lam (L38 6)) Es.nil))) (Ss.cons (S.ex (E.mt Mt.append (E.v 13) (Es.cons (E.lam (L38 7)) Es.nil))) (Ss.cons (S.asg (Tg.n 14) (E.cm (Tg.n 18) (It.seq (E.v 13)) none ((E.call 26 (Es.cons (E.v 18) Es.nil) [0]).ix (E.k (PV.int (0)))))) (Ss.cons (S.ite (E.bi Bi.all (Es.cons (E.cm (Tg.n 19) (It.seq (E.v 14)) none (((E.v 19).isi (Cl.ec 2)).and (E.cmp Cop.eq (E.bi Bi.repr (Es.cons (E.v 19).at Es.nil)) (E.bi Bi.repr (Es.cons (E.v 15) Es.nil))))) Es.nil)).not (Ss.cons (S.ret (E.k (PV.bl false))) Ss.nil) Ss.nil) (Ss.cons (S.asg (Tg.n 15) (E.call 24 (Es.cons (E.v 0) (Es.cons (E.lst (Es.cons (E.k PV.non) (Es.cons (E.k (PV.int (1))).neg (Es.cons (E.k (PV.int (601))) (Es.cons (E.k (PV.bl true)) (Es.cons (E.k (PV.str (("1" : PySem.Str)))) Es.nil)))))) Es.nil)) [0, 1])) (Ss.cons (S.asg (Tg.n 13) (E.lst (Es.cons (E.lam (L38 8)) Es.nil)).mut) (Ss.cons (S.ex (E.mt Mt.append (E.v 13) (Es.cons (E.lam (L38 9)) Es.nil))) (Ss.cons (S.ex (E.mt Mt.append (E.v 13) (Es.cons (E.lam (L38 10)) Es.nil))) (Ss.cons (S.ex (E.mt Mt.append (E.v 13) (Es.cons (E.lam (L38 11)) Es.nil))) (Ss.cons (S.ex (E.mt Mt.append (E.v 13) (Es.cons (E.lam (L38 12)) Es.nil))) (Ss.cons (S.asg (Tg.n 14) (E.cm (Tg.n 18) (It.seq (E.v 13)) none ((E.call 26 (Es.cons (E.v 18) Es.nil) [0]).ix (E.k (PV.int (0)))))) (Ss.cons (S.ite (E.bi Bi.all (Es.cons (E.cm (Tg.n 19) (It.seq (E.v 14)) none (((E.v 19).isi (Cl.ec 1)).and (E.cmp Cop.eq (E.bi Bi.repr (Es.cons (E.v 19).at Es.nil)) (E.bi Bi.repr (Es.cons (E.v 15) Es.nil))))) Es.nil)).not (Ss.cons (S.ret (E.k (PV.bl false))) Ss.nil) Ss.nil) (Ss.cons (S.asg (Tg.n 14) (E.lst (Es.cons ((E.call 26 (Es.cons (E.lam (L38 13)) Es.nil) [0]).ix (E.k (PV.int (0)))) (Es.cons (E.call 39 Es.nil []) Es.nil)))) (Ss.cons (S.ret (E.bi Bi.all (Es.cons (E.cm (Tg.n 19) (It.seq (E.v 14)) none (((E.v 19).isi (Cl.ec 1)).and (E.cmp Cop.eq (E.bi Bi.repr (Es.cons (E.v 19).at Es.nil)) (E.k (PV.str (("0" : PySem.Str))))))) Es.nil))) Ss.nil))))))))))))))))))))))
def l38_0b : E := (E.call 7 (Es.cons (E.v 0) Es.nil) [0])
def l38_1b : E := (E.call 8 (Es.cons (E.v 0) Es.nil) [0])
def l38_2b : E := (E.call 9 (Es.cons (E.v 0) Es.nil) [0])
def l38_3b : E := (E.call 12 (Es.cons (E.tup (Es.cons (E.k (PV.int (1))) Es.nil)) (Es.cons (E.v 0) Es.nil)) [0, 1])
def l38_4b : E := (E.call 16 (Es.cons (E.v 0) (Es.cons (E.k PV.non) (Es.cons (E.k PV.non) Es.nil))) [0, 1, 2])
def l38_5b : E := (E.call 18 (Es.cons (E.tup (Es.cons (E.k (PV.int (1))) Es.nil)) (Es.cons (E.v 0) Es.nil)) [0, 1])
def l38_6b : E := (E.call 19 (Es.cons (E.v 0) (Es.cons (E.k PV.non) Es.nil)) [0, 1])
def l38_7b : E := (E.call 21 (Es.cons (E.v 0) (Es.cons (E.k PV.non) Es.nil)) [0, 1])
def l38_8b : E := (E.call 16 (Es.cons (E.tup (Es.cons (E.k (PV.int (1))) Es.nil)) (Es.cons (E.tup (Es.cons (E.k (PV.int (1))) Es.nil)) (Es.cons (E.v 0) Es.nil))) [0, 1, 2])
def l38_9b : E := (E.call 14 (Es.cons (E.tup (Es.cons (E.k (PV.int (1))) Es.nil)) (Es.cons (E.tup (Es.cons (E.k (PV.int (1))) Es.nil)) (Es.cons (E.k (PV.int (1))) (Es.cons (E.v 0) Es.nil)))) [0, 1, 2, 3])
def l38_10b : E := (E.call 21 (Es.cons (E.tup (Es.cons (E.k (PV.int (1))) Es.nil)) (Es.cons (E.v 0) Es.nil)) [0, 1])
def l38_11b : E := (E.call 20 (Es.cons (E.tup (Es.cons (E.k (PV.int (1))) Es.nil)) (Es.cons (E.v 0) Es.nil)) [0, 1])
def l38_12b : E := (E.call 11 (Es.cons (E.v 0) (Es.cons (E.k PV.non) Es.nil)) [0, 1])
def l38_13b : E := (E.call 11 (Es.cons (E.k (PV.int (0))) (Es.cons (E.k (PV.int (0))) Es.nil)) [0, 1])
def li38 : List (Option E × Nat × List (Option Nat)) := [(some l38_0b, 0, [some 15]), (some l38_1b, 0, [some 15]), (some l38_2b, 0, [some 15]), (some l38_3b, 0, [some 15]), (some l38_4b, 0, [some 15]), (some l38_5b, 0, [some 15]), (some l38_6b, 0, [some 15]), (some l38_7b, 0, [some 15]), (some l38_8b, 0, [some 15]), (some l38_9b, 0, [some 15]), (some l38_10b, 0, [some 15]), (some l38_11b, 0, [some 15]), (some l38_12b, 0, [some 15]), (some l38_13b, 0, [])]
theorem lamI38 : ls38.map (infL t.G) = li38 := by kernel_rfl
def ls39 : List LamI := lamsSs ((bodyOf t.G (fn 39)).getD .nil)
abbrev L39 (k : Nat) : LamI := ls39.getD k dfl
/-- _law_heard_round() -/
def f39b : Ss := (Ss.cons (S.ret ((E.call 26 (Es.cons (E.lam (L39 0)) Es.nil) [0]).ix (E.k (PV.int (0))))) Ss.nil)
def l39_0b : E := (E.call 19 (Es.cons (E.tup (Es.cons (E.k (PV.int (1))) Es.nil)) (Es.cons (E.k (PV.int (0))) Es.nil)) [0, 1])
def li39 : List (Option E × Nat × List (Option Nat)) := [(some l39_0b, 0, [])]
theorem lamI39 : ls39.map (infL t.G) = li39 := by kernel_rfl
/-- law(script) -/
def f40b : Ss := (Ss.cons (S.ret (E.bi Bi.all (Es.cons (E.cm (Tg.n 1) (It.seq (E.call 25 (Es.cons (E.v 0) (Es.cons (E.k (PV.int (3))) Es.nil)) [0, 1])) none (E.call 38 (Es.cons (E.call 22 (Es.cons (E.v 0) (Es.cons (E.v 1) Es.nil)) [0, 1]) Es.nil) [0])) Es.nil))) Ss.nil)
def inf : List (Option Ss × Nat × Nat × Bool) := [(some f0b, 3, 3, false), (some f1b, 4, 3, false), (some f2b, 2, 2, false), (some f3b, 1, 1, false), (some f4b, 1, 1, false), (some f5b, 3, 3, false), (some f6b, 2, 1, false), (some f7b, 1, 1, false), (some f8b, 2, 1, false), (some f9b, 3, 1, false), (some f10b, 2, 1, false), (some f11b, 3, 2, false), (some f12b, 2, 2, false), (some f13b, 5, 4, false), (some f14b, 4, 4, false), (some f15b, 4, 3, false), (some f16b, 5, 3, false), (some f17b, 5, 4, false), (some f18b, 3, 2, false), (some f19b, 2, 2, false), (some f20b, 4, 2, false), (some f21b, 4, 2, false), (some f22b, 5, 2, true), (some f23b, 5, 2, false), (some f24b, 2, 2, false), (some f25b, 2, 2, false), (some f26b, 4, 1, false), (some f27b, 2, 1, false), (some f28b, 3, 3, false), (some f29b, 3, 2, false), (some f30b, 2, 2, false), (some f31b, 3, 2, false), (some f32b, 3, 1, false), (some f33b, 2, 1, false), (some f34b, 8, 4, false), (some f35b, 5, 2, false), (some f36b, 5, 5, false), (some f37b, 14, 4, false), (some f38b, 20, 1, false), (some f39b, 0, 0, false), (some f40b, 2, 1, false)]
theorem infos : t.G.fns.map (infF t.G) = inf := by kernel_rfl
variable {Q : Cb t.G} {d : Nat} {Φ : List PM.Env} {st : Store} {K : PV → Store → Prop} {X : Nat → PV → Store → Prop}
theorem C0 {a0 a1 a2 : PV} (h : WSS ⟨Q.cf d, Q.cl d, Q.W, fun ρ => Φ ++ [ρ], Φ.length, st.length⟩ f0b [some a0, some a1, some a2] st (fun fl st' => FK false Φ.length st.length fl st' K) (fun k v st' => nor v = true ∧ X k v (st'.take st.length))) : WR (Q.cf (d + 1) 0 [a0, a1, a2] Φ st) K X :=
  WR.callI (b := f0b) (ρ := [some a0, some a1, some a2]) (n := 3) (k := 3) infos (by kernel_rfl) rfl (by kernel_rfl) h
theorem C1 {a0 a1 a2 : PV} (h : WSS ⟨Q.cf d, Q.cl d, Q.W, fun ρ => Φ ++ [ρ], Φ.length, st.length⟩ f1b [some a0, some a1, some a2, none] st (fun fl st' => FK false Φ.length st.length fl st' K) (fun k v st' => nor v = true ∧ X k v (st'.take st.length))) : WR (Q.cf (d + 1) 1 [a0, a1, a2] Φ st) K X :=
  WR.callI (b := f1b) (ρ := [some a0, some a1, some a2, none]) (n := 4) (k := 3) infos (by kernel_rfl) rfl (by kernel_rfl) h
theorem C2 {a0 a1 : PV} (h : WSS ⟨Q.cf d, Q.cl d, Q.W, fun ρ => Φ ++ [ρ], Φ.length, st.length⟩ f2b [some a0, some a1] st (fun fl st' => FK false Φ.length st.length fl st' K) (fun k v st' => nor v = true ∧ X k v (st'.take st.length))) : WR (Q.cf (d + 1) 2 [a0, a1] Φ st) K X :=
  WR.callI (b := f2b) (ρ := [some a0, some a1]) (n := 2) (k := 2) infos (by kernel_rfl) rfl (by kernel_rfl) h
theorem C3 {a0 : PV} (h : WSS ⟨Q.cf d, Q.cl d, Q.W, fun ρ => Φ ++ [ρ], Φ.length, st.length⟩ f3b [some a0] st (fun fl st' => FK false Φ.length st.length fl st' K) (fun k v st' => nor v = true ∧ X k v (st'.take st.length))) : WR (Q.cf (d + 1) 3 [a0] Φ st) K X :=
  WR.callI (b := f3b) (ρ := [some a0]) (n := 1) (k := 1) infos (by kernel_rfl) rfl (by kernel_rfl) h
theorem C4 {a0 : PV} (h : WSS ⟨Q.cf d, Q.cl d, Q.W, fun ρ => Φ ++ [ρ], Φ.length, st.length⟩ f4b [some a0] st (fun fl st' => FK false Φ.length st.length fl st' K) (fun k v st' => nor v = true ∧ X k v (st'.take st.length))) : WR (Q.cf (d + 1) 4 [a0] Φ st) K X :=
  WR.callI (b := f4b) (ρ := [some a0]) (n := 1) (k := 1) infos (by kernel_rfl) rfl (by kernel_rfl) h
theorem C5 {a0 a1 a2 : PV} (h : WSS ⟨Q.cf d, Q.cl d, Q.W, fun ρ => Φ ++ [ρ], Φ.length, st.length⟩ f5b [some a0, some a1, some a2] st (fun fl st' => FK false Φ.length st.length fl st' K) (fun k v st' => nor v = true ∧ X k v (st'.take st.length))) : WR (Q.cf (d + 1) 5 [a0, a1, a2] Φ st) K X :=
  WR.callI (b := f5b) (ρ := [some a0, some a1, some a2]) (n := 3) (k := 3) infos (by kernel_rfl) rfl (by kernel_rfl) h
theorem C6 {a0 : PV} (h : WSS ⟨Q.cf d, Q.cl d, Q.W, fun ρ => Φ ++ [ρ], Φ.length, st.length⟩ f6b [some a0, none] st (fun fl st' => FK false Φ.length st.length fl st' K) (fun k v st' => nor v = true ∧ X k v (st'.take st.length))) : WR (Q.cf (d + 1) 6 [a0] Φ st) K X :=
  WR.callI (b := f6b) (ρ := [some a0, none]) (n := 2) (k := 1) infos (by kernel_rfl) rfl (by kernel_rfl) h
theorem C7 {a0 : PV} (h : WSS ⟨Q.cf d, Q.cl d, Q.W, fun ρ => Φ ++ [ρ], Φ.length, st.length⟩ f7b [some a0] st (fun fl st' => FK false Φ.length st.length fl st' K) (fun k v st' => nor v = true ∧ X k v (st'.take st.length))) : WR (Q.cf (d + 1) 7 [a0] Φ st) K X :=
  WR.callI (b := f7b) (ρ := [some a0]) (n := 1) (k := 1) infos (by kernel_rfl) rfl (by kernel_rfl) h
theorem C8 {a0 : PV} (h : WSS ⟨Q.cf d, Q.cl d, Q.W, fun ρ => Φ ++ [ρ], Φ.length, st.length⟩ f8b [some a0, none] st (fun fl st' => FK false Φ.length st.length fl st' K) (fun k v st' => nor v = true ∧ X k v (st'.take st.length))) : WR (Q.cf (d + 1) 8 [a0] Φ st) K X :=
  WR.callI (b := f8b) (ρ := [some a0, none]) (n := 2) (k := 1) infos (by kernel_rfl) rfl (by kernel_rfl) h
theorem C9 {a0 : PV} (h : WSS ⟨Q.cf d, Q.cl d, Q.W, fun ρ => Φ ++ [ρ], Φ.length, st.length⟩ f9b [some a0, none, none] st (fun fl st' => FK false Φ.length st.length fl st' K) (fun k v st' => nor v = true ∧ X k v (st'.take st.length))) : WR (Q.cf (d + 1) 9 [a0] Φ st) K X :=
  WR.callI (b := f9b) (ρ := [some a0, none, none]) (n := 3) (k := 1) infos (by kernel_rfl) rfl (by kernel_rfl) h
theorem C10 {a0 : PV} (h : WSS ⟨Q.cf d, Q.cl d, Q.W, fun ρ => Φ ++ [ρ], Φ.length, st.length⟩ f10b [some a0, none] st (fun fl st' => FK false Φ.length st.length fl st' K) (fun k v st' => nor v = true ∧ X k v (st'.take st.length))) : WR (Q.cf (d + 1) 10 [a0] Φ st) K X :=
  WR.callI (b := f10b) (ρ := [some a0, none]) (n := 2) (k := 1) infos (by kernel_rfl) rfl (by kernel_rfl) h
theorem C11 {a0 a1 : PV} (h : WSS ⟨Q.cf d, Q.cl d, Q.W, fun ρ => Φ ++ [ρ], Φ.length, st.length⟩ f11b [some a0, some a1, none] st (fun fl st' => FK false Φ.length st.length fl st' K) (fun k v st' => nor v = true ∧ X k v (st'.take st.length))) : WR (Q.cf (d + 1) 11 [a0, a1] Φ st) K X :=
  WR.callI (b := f11b) (ρ := [some a0, some a1, none]) (n := 3) (k := 2) infos (by kernel_rfl) rfl (by kernel_rfl) h
theorem C12 {a0 a1 : PV} (h : WSS ⟨Q.cf d, Q.cl d, Q.W, fun ρ => Φ ++ [ρ], Φ.length, st.length⟩ f12b [some a0, some a1] st (fun fl st' => FK false Φ.length st.length fl st' K) (fun k v st' => nor v = true ∧ X k v (st'.take st.length))) : WR (Q.cf (d + 1) 12 [a0, a1] Φ st) K X :=
  WR.callI (b := f12b) (ρ := [some a0, some a1]) (n := 2) (k := 2) infos (by kernel_rfl) rfl (by kernel_rfl) h
theorem C13 {a0 a1 a2 a3 : PV} (h : WSS ⟨Q.cf d, Q.cl d, Q.W, fun ρ => Φ ++ [ρ], Φ.length, st.length⟩ f13b [some a0, some a1, some a2, some a3, none] st (fun fl st' => FK false Φ.length st.length fl st' K) (fun k v st' => nor v = true ∧ X k v (st'.take st.length))) : WR (Q.cf (d + 1) 13 [a0, a1, a2, a3] Φ st) K X :=
  WR.callI (b := f13b) (ρ := [some a0, some a1, some a2, some a3, none]) (n := 5) (k := 4) infos (by kernel_rfl) rfl (by kernel_rfl) h
theorem C14 {a0 a1 a2 a3 : PV} (h : WSS ⟨Q.cf d, Q.cl d, Q.W, fun ρ => Φ ++ [ρ], Φ.length, st.length⟩ f14b [some a0, some a1, some a2, some a3] st (fun fl st' => FK false Φ.length st.length fl st' K) (fun k v st' => nor v = true ∧ X k v (st'.take st.length))) : WR (Q.cf (d + 1) 14 [a0, a1, a2, a3] Φ st) K X :=
  WR.callI (b := f14b) (ρ := [some a0, some a1, some a2, some a3]) (n := 4) (k := 4) infos (by kernel_rfl) rfl (by kernel_rfl) h
theorem C15 {a0 a1 a2 : PV} (h : WSS ⟨Q.cf d, Q.cl d, Q.W, fun ρ => Φ ++ [ρ], Φ.length, st.length⟩ f15b [some a0, some a1, some a2, none] st (fun fl st' => FK false Φ.length st.length fl st' K) (fun k v st' => nor v = true ∧ X k v (st'.take st.length))) : WR (Q.cf (d + 1) 15 [a0, a1, a2] Φ st) K X :=
  WR.callI (b := f15b) (ρ := [some a0, some a1, some a2, none]) (n := 4) (k := 3) infos (by kernel_rfl) rfl (by kernel_rfl) h
theorem C16 {a0 a1 a2 : PV} (h : WSS ⟨Q.cf d, Q.cl d, Q.W, fun ρ => Φ ++ [ρ], Φ.length, st.length⟩ f16b [some a0, some a1, some a2, none, none] st (fun fl st' => FK false Φ.length st.length fl st' K) (fun k v st' => nor v = true ∧ X k v (st'.take st.length))) : WR (Q.cf (d + 1) 16 [a0, a1, a2] Φ st) K X :=
  WR.callI (b := f16b) (ρ := [some a0, some a1, some a2, none, none]) (n := 5) (k := 3) infos (by kernel_rfl) rfl (by kernel_rfl) h
theorem C17 {a0 a1 a2 a3 : PV} (h : WSS ⟨Q.cf d, Q.cl d, Q.W, fun ρ => Φ ++ [ρ], Φ.length, st.length⟩ f17b [some a0, some a1, some a2, some a3, none] st (fun fl st' => FK false Φ.length st.length fl st' K) (fun k v st' => nor v = true ∧ X k v (st'.take st.length))) : WR (Q.cf (d + 1) 17 [a0, a1, a2, a3] Φ st) K X :=
  WR.callI (b := f17b) (ρ := [some a0, some a1, some a2, some a3, none]) (n := 5) (k := 4) infos (by kernel_rfl) rfl (by kernel_rfl) h
theorem C18 {a0 a1 : PV} (h : WSS ⟨Q.cf d, Q.cl d, Q.W, fun ρ => Φ ++ [ρ], Φ.length, st.length⟩ f18b [some a0, some a1, none] st (fun fl st' => FK false Φ.length st.length fl st' K) (fun k v st' => nor v = true ∧ X k v (st'.take st.length))) : WR (Q.cf (d + 1) 18 [a0, a1] Φ st) K X :=
  WR.callI (b := f18b) (ρ := [some a0, some a1, none]) (n := 3) (k := 2) infos (by kernel_rfl) rfl (by kernel_rfl) h
theorem C19 {a0 a1 : PV} (h : WSS ⟨Q.cf d, Q.cl d, Q.W, fun ρ => Φ ++ [ρ], Φ.length, st.length⟩ f19b [some a0, some a1] st (fun fl st' => FK false Φ.length st.length fl st' K) (fun k v st' => nor v = true ∧ X k v (st'.take st.length))) : WR (Q.cf (d + 1) 19 [a0, a1] Φ st) K X :=
  WR.callI (b := f19b) (ρ := [some a0, some a1]) (n := 2) (k := 2) infos (by kernel_rfl) rfl (by kernel_rfl) h
theorem C20 {a0 a1 : PV} (h : WSS ⟨Q.cf d, Q.cl d, Q.W, fun ρ => Φ ++ [ρ], Φ.length, st.length⟩ f20b [some a0, some a1, none, none] st (fun fl st' => FK false Φ.length st.length fl st' K) (fun k v st' => nor v = true ∧ X k v (st'.take st.length))) : WR (Q.cf (d + 1) 20 [a0, a1] Φ st) K X :=
  WR.callI (b := f20b) (ρ := [some a0, some a1, none, none]) (n := 4) (k := 2) infos (by kernel_rfl) rfl (by kernel_rfl) h
theorem C21 {a0 a1 : PV} (h : WSS ⟨Q.cf d, Q.cl d, Q.W, fun ρ => Φ ++ [ρ], Φ.length, st.length⟩ f21b [some a0, some a1, none, none] st (fun fl st' => FK false Φ.length st.length fl st' K) (fun k v st' => nor v = true ∧ X k v (st'.take st.length))) : WR (Q.cf (d + 1) 21 [a0, a1] Φ st) K X :=
  WR.callI (b := f21b) (ρ := [some a0, some a1, none, none]) (n := 4) (k := 2) infos (by kernel_rfl) rfl (by kernel_rfl) h
theorem C22 {a0 a1 : PV} (h : WSS ⟨Q.cf d, Q.cl d, Q.W, fun ρ => Φ ++ [ρ], Φ.length, st.length⟩ f22b [some a0, some a1, none, none, none] st (fun fl st' => FK true Φ.length st.length fl st' K) (fun k v st' => nor v = true ∧ X k v (st'.take st.length))) : WR (Q.cf (d + 1) 22 [a0, a1] Φ st) K X :=
  WR.callI (b := f22b) (ρ := [some a0, some a1, none, none, none]) (n := 5) (k := 2) infos (by kernel_rfl) rfl (by kernel_rfl) h
theorem C23 {a0 a1 : PV} (h : WSS ⟨Q.cf d, Q.cl d, Q.W, fun ρ => Φ ++ [ρ], Φ.length, st.length⟩ f23b [some a0, some a1, none, none, none] st (fun fl st' => FK false Φ.length st.length fl st' K) (fun k v st' => nor v = true ∧ X k v (st'.take st.length))) : WR (Q.cf (d + 1) 23 [a0, a1] Φ st) K X :=
  WR.callI (b := f23b) (ρ := [some a0, some a1, none, none, none]) (n := 5) (k := 2) infos (by kernel_rfl) rfl (by kernel_rfl) h
theorem C24 {a0 a1 : PV} (h : WSS ⟨Q.cf d, Q.cl d, Q.W, fun ρ => Φ ++ [ρ], Φ.length, st.length⟩ f24b [some a0, some a1] st (fun fl st' => FK false Φ.length st.length fl st' K) (fun k v st' => nor v = true ∧ X k v (st'.take st.length))) : WR (Q.cf (d + 1) 24 [a0, a1] Φ st) K X :=
  WR.callI (b := f24b) (ρ := [some a0, some a1]) (n := 2) (k := 2) infos (by kernel_rfl) rfl (by kernel_rfl) h
theorem C25 {a0 a1 : PV} (h : WSS ⟨Q.cf d, Q.cl d, Q.W, fun ρ => Φ ++ [ρ], Φ.length, st.length⟩ f25b [some a0, some a1] st (fun fl st' => FK false Φ.length st.length fl st' K) (fun k v st' => nor v = true ∧ X k v (st'.take st.length))) : WR (Q.cf (d + 1) 25 [a0, a1] Φ st) K X :=
  WR.callI (b := f25b) (ρ := [some a0, some a1]) (n := 2) (k := 2) infos (by kernel_rfl) rfl (by kernel_rfl) h
theorem C26 {a0 : PV} (h : WSS ⟨Q.cf d, Q.cl d, Q.W, fun ρ => Φ ++ [ρ], Φ.length, st.length⟩ f26b [some a0, none, none, none] st (fun fl st' => FK false Φ.length st.length fl st' K) (fun k v st' => nor v = true ∧ X k v (st'.take st.length))) : WR (Q.cf (d + 1) 26 [a0] Φ st) K X :=
  WR.callI (b := f26b) (ρ := [some a0, none, none, none]) (n := 4) (k := 1) infos (by kernel_rfl) rfl (by kernel_rfl) h
theorem C27 {a0 : PV} (h : WSS ⟨Q.cf d, Q.cl d, Q.W, fun ρ => Φ ++ [ρ], Φ.length, st.length⟩ f27b [some a0, none] st (fun fl st' => FK false Φ.length st.length fl st' K) (fun k v st' => nor v = true ∧ X k v (st'.take st.length))) : WR (Q.cf (d + 1) 27 [a0] Φ st) K X :=
  WR.callI (b := f27b) (ρ := [some a0, none]) (n := 2) (k := 1) infos (by kernel_rfl) rfl (by kernel_rfl) h
theorem C28 {a0 a1 a2 : PV} (h : WSS ⟨Q.cf d, Q.cl d, Q.W, fun ρ => Φ ++ [ρ], Φ.length, st.length⟩ f28b [some a0, some a1, some a2] st (fun fl st' => FK false Φ.length st.length fl st' K) (fun k v st' => nor v = true ∧ X k v (st'.take st.length))) : WR (Q.cf (d + 1) 28 [a0, a1, a2] Φ st) K X :=
  WR.callI (b := f28b) (ρ := [some a0, some a1, some a2]) (n := 3) (k := 3) infos (by kernel_rfl) rfl (by kernel_rfl) h
theorem C29 {a0 a1 : PV} (h : WSS ⟨Q.cf d, Q.cl d, Q.W, fun ρ => Φ ++ [ρ], Φ.length, st.length⟩ f29b [some a0, some a1, none] st (fun fl st' => FK false Φ.length st.length fl st' K) (fun k v st' => nor v = true ∧ X k v (st'.take st.length))) : WR (Q.cf (d + 1) 29 [a0, a1] Φ st) K X :=
  WR.callI (b := f29b) (ρ := [some a0, some a1, none]) (n := 3) (k := 2) infos (by kernel_rfl) rfl (by kernel_rfl) h
theorem C30 {a0 a1 : PV} (h : WSS ⟨Q.cf d, Q.cl d, Q.W, fun ρ => Φ ++ [ρ], Φ.length, st.length⟩ f30b [some a0, some a1] st (fun fl st' => FK false Φ.length st.length fl st' K) (fun k v st' => nor v = true ∧ X k v (st'.take st.length))) : WR (Q.cf (d + 1) 30 [a0, a1] Φ st) K X :=
  WR.callI (b := f30b) (ρ := [some a0, some a1]) (n := 2) (k := 2) infos (by kernel_rfl) rfl (by kernel_rfl) h
theorem C31 {a0 a1 : PV} (h : WSS ⟨Q.cf d, Q.cl d, Q.W, fun ρ => Φ ++ [ρ], Φ.length, st.length⟩ f31b [some a0, some a1, none] st (fun fl st' => FK false Φ.length st.length fl st' K) (fun k v st' => nor v = true ∧ X k v (st'.take st.length))) : WR (Q.cf (d + 1) 31 [a0, a1] Φ st) K X :=
  WR.callI (b := f31b) (ρ := [some a0, some a1, none]) (n := 3) (k := 2) infos (by kernel_rfl) rfl (by kernel_rfl) h
theorem C32 {a0 : PV} (h : WSS ⟨Q.cf d, Q.cl d, Q.W, fun ρ => Φ ++ [ρ], Φ.length, st.length⟩ f32b [some a0, none, none] st (fun fl st' => FK false Φ.length st.length fl st' K) (fun k v st' => nor v = true ∧ X k v (st'.take st.length))) : WR (Q.cf (d + 1) 32 [a0] Φ st) K X :=
  WR.callI (b := f32b) (ρ := [some a0, none, none]) (n := 3) (k := 1) infos (by kernel_rfl) rfl (by kernel_rfl) h
theorem C33 {a0 : PV} (h : WSS ⟨Q.cf d, Q.cl d, Q.W, fun ρ => Φ ++ [ρ], Φ.length, st.length⟩ f33b [some a0, none] st (fun fl st' => FK false Φ.length st.length fl st' K) (fun k v st' => nor v = true ∧ X k v (st'.take st.length))) : WR (Q.cf (d + 1) 33 [a0] Φ st) K X :=
  WR.callI (b := f33b) (ρ := [some a0, none]) (n := 2) (k := 1) infos (by kernel_rfl) rfl (by kernel_rfl) h
theorem C34 {a0 a1 a2 a3 : PV} (h : WSS ⟨Q.cf d, Q.cl d, Q.W, fun ρ => Φ ++ [ρ], Φ.length, st.length⟩ f34b [some a0, some a1, some a2, some a3, none, none, none, none] st (fun fl st' => FK false Φ.length st.length fl st' K) (fun k v st' => nor v = true ∧ X k v (st'.take st.length))) : WR (Q.cf (d + 1) 34 [a0, a1, a2, a3] Φ st) K X :=
  WR.callI (b := f34b) (ρ := [some a0, some a1, some a2, some a3, none, none, none, none]) (n := 8) (k := 4) infos (by kernel_rfl) rfl (by kernel_rfl) h
theorem C35 {a0 a1 : PV} (h : WSS ⟨Q.cf d, Q.cl d, Q.W, fun ρ => Φ ++ [ρ], Φ.length, st.length⟩ f35b [some a0, some a1, none, none, none] st (fun fl st' => FK false Φ.length st.length fl st' K) (fun k v st' => nor v = true ∧ X k v (st'.take st.length))) : WR (Q.cf (d + 1) 35 [a0, a1] Φ st) K X :=
  WR.callI (b := f35b) (ρ := [some a0, some a1, none, none, none]) (n := 5) (k := 2) infos (by kernel_rfl) rfl (by kernel_rfl) h
theorem C36 {a0 a1 a2 a3 a4 : PV} (h : WSS ⟨Q.cf d, Q.cl d, Q.W, fun ρ => Φ ++ [ρ], Φ.length, st.length⟩ f36b [some a0, some a1, some a2, some a3, some a4] st (fun fl st' => FK false Φ.length st.length fl st' K) (fun k v st' => nor v = true ∧ X k v (st'.take st.length))) : WR (Q.cf (d + 1) 36 [a0, a1, a2, a3, a4] Φ st) K X :=
  WR.callI (b := f36b) (ρ := [some a0, some a1, some a2, some a3, some a4]) (n := 5) (k := 5) infos (by kernel_rfl) rfl (by kernel_rfl) h
theorem C37 {a0 a1 a2 a3 : PV} (h : WSS ⟨Q.cf d, Q.cl d, Q.W, fun ρ => Φ ++ [ρ], Φ.length, st.length⟩ f37b [some a0, some a1, some a2, some a3, none, none, none, none, none, none, none, none, none, none] st (fun fl st' => FK false Φ.length st.length fl st' K) (fun k v st' => nor v = true ∧ X k v (st'.take st.length))) : WR (Q.cf (d + 1) 37 [a0, a1, a2, a3] Φ st) K X :=
  WR.callI (b := f37b) (ρ := [some a0, some a1, some a2, some a3, none, none, none, none, none, none, none, none, none, none]) (n := 14) (k := 4) infos (by kernel_rfl) rfl (by kernel_rfl) h
theorem C38 {a0 : PV} (h : WSS ⟨Q.cf d, Q.cl d, Q.W, fun ρ => Φ ++ [ρ], Φ.length, st.length⟩ f38b [some a0, none, none, none, none, none, none, none, none, none, none, none, none, none, none, none, none, none, none, none] st (fun fl st' => FK false Φ.length st.length fl st' K) (fun k v st' => nor v = true ∧ X k v (st'.take st.length))) : WR (Q.cf (d + 1) 38 [a0] Φ st) K X :=
  WR.callI (b := f38b) (ρ := [some a0, none, none, none, none, none, none, none, none, none, none, none, none, none, none, none, none, none, none, none]) (n := 20) (k := 1) infos (by kernel_rfl) rfl (by kernel_rfl) h
theorem L38_0 {ρc : PM.Env} (h : WE ⟨Q.cf d, Q.cl d, Q.W, fun _ => Φ, Φ.length, st.length⟩ l38_0b [gv ρc 15] st (fun v st' => FK false Φ.length st.length (.rt v) st' K) (fun k v st' => nor v = true ∧ X k v (st'.take st.length))) : WR (Q.cl (d + 1) (L38 0) [] ρc Φ st) K X :=
  WR.lamI (e := l38_0b) (ρ := [gv ρc 15]) (n := 0) (ks := [some 15]) lamI38 (by kernel_rfl) rfl (by kernel_rfl) h
theorem L38_1 {ρc : PM.Env} (h : WE ⟨Q.cf d, Q.cl d, Q.W, fun _ => Φ, Φ.length, st.length⟩ l38_1b [gv ρc 15] st (fun v st' => FK false Φ.length st.length (.rt v) st' K) (fun k v st' => nor v = true ∧ X k v (st'.take st.length))) : WR (Q.cl (d + 1) (L38 1) [] ρc Φ st) K X :=
  WR.lamI (e := l38_1b) (ρ := [gv ρc 15]) (n := 0) (ks := [some 15]) lamI38 (by kernel_rfl) rfl (by kernel_rfl) h
theorem L38_2 {ρc : PM.Env} (h : WE ⟨Q.cf d, Q.cl d, Q.W, fun _ => Φ, Φ.length, st.length⟩ l38_2b [gv ρc 15] st (fun v st' => FK false Φ.length st.length (.rt v) st' K) (fun k v st' => nor v = true ∧ X k v (st'.take st.length))) : WR (Q.cl (d + 1) (L38 2) [] ρc Φ st) K X :=
  WR.lamI (e := l38_2b) (ρ := [gv ρc 15]) (n := 0) (ks := [some 15]) lamI38 (by kernel_rfl) rfl (by kernel_rfl) h
theorem L38_3 {ρc : PM.Env} (h : WE ⟨Q.cf d, Q.cl d, Q.W, fun _ => Φ, Φ.length, st.length⟩ l38_3b [gv ρc 15] st (fun v st' => FK false Φ.length st.length (.rt v) st' K) (fun k v st' => nor v = true ∧ X k v (st'.take st.length))) : WR (Q.cl (d + 1) (L38 3) [] ρc Φ st) K X :=
  WR.lamI (e := l38_3b) (ρ := [gv ρc 15]) (n := 0) (ks := [some 15]) lamI38 (by kernel_rfl) rfl (by kernel_rfl) h
theorem L38_4 {ρc : PM.Env} (h : WE ⟨Q.cf d, Q.cl d, Q.W, fun _ => Φ, Φ.length, st.length⟩ l38_4b [gv ρc 15] st (fun v st' => FK false Φ.length st.length (.rt v) st' K) (fun k v st' => nor v = true ∧ X k v (st'.take st.length))) : WR (Q.cl (d + 1) (L38 4) [] ρc Φ st) K X :=
  WR.lamI (e := l38_4b) (ρ := [gv ρc 15]) (n := 0) (ks := [some 15]) lamI38 (by kernel_rfl) rfl (by kernel_rfl) h
theorem L38_5 {ρc : PM.Env} (h : WE ⟨Q.cf d, Q.cl d, Q.W, fun _ => Φ, Φ.length, st.length⟩ l38_5b [gv ρc 15] st (fun v st' => FK false Φ.length st.length (.rt v) st' K) (fun k v st' => nor v = true ∧ X k v (st'.take st.length))) : WR (Q.cl (d + 1) (L38 5) [] ρc Φ st) K X :=
  WR.lamI (e := l38_5b) (ρ := [gv ρc 15]) (n := 0) (ks := [some 15]) lamI38 (by kernel_rfl) rfl (by kernel_rfl) h
theorem L38_6 {ρc : PM.Env} (h : WE ⟨Q.cf d, Q.cl d, Q.W, fun _ => Φ, Φ.length, st.length⟩ l38_6b [gv ρc 15] st (fun v st' => FK false Φ.length st.length (.rt v) st' K) (fun k v st' => nor v = true ∧ X k v (st'.take st.length))) : WR (Q.cl (d + 1) (L38 6) [] ρc Φ st) K X :=
  WR.lamI (e := l38_6b) (ρ := [gv ρc 15]) (n := 0) (ks := [some 15]) lamI38 (by kernel_rfl) rfl (by kernel_rfl) h
theorem L38_7 {ρc : PM.Env} (h : WE ⟨Q.cf d, Q.cl d, Q.W, fun _ => Φ, Φ.length, st.length⟩ l38_7b [gv ρc 15] st (fun v st' => FK false Φ.length st.length (.rt v) st' K) (fun k v st' => nor v = true ∧ X k v (st'.take st.length))) : WR (Q.cl (d + 1) (L38 7) [] ρc Φ st) K X :=
  WR.lamI (e := l38_7b) (ρ := [gv ρc 15]) (n := 0) (ks := [some 15]) lamI38 (by kernel_rfl) rfl (by kernel_rfl) h
theorem L38_8 {ρc : PM.Env} (h : WE ⟨Q.cf d, Q.cl d, Q.W, fun _ => Φ, Φ.length, st.length⟩ l38_8b [gv ρc 15] st (fun v st' => FK false Φ.length st.length (.rt v) st' K) (fun k v st' => nor v = true ∧ X k v (st'.take st.length))) : WR (Q.cl (d + 1) (L38 8) [] ρc Φ st) K X :=
  WR.lamI (e := l38_8b) (ρ := [gv ρc 15]) (n := 0) (ks := [some 15]) lamI38 (by kernel_rfl) rfl (by kernel_rfl) h
theorem L38_9 {ρc : PM.Env} (h : WE ⟨Q.cf d, Q.cl d, Q.W, fun _ => Φ, Φ.length, st.length⟩ l38_9b [gv ρc 15] st (fun v st' => FK false Φ.length st.length (.rt v) st' K) (fun k v st' => nor v = true ∧ X k v (st'.take st.length))) : WR (Q.cl (d + 1) (L38 9) [] ρc Φ st) K X :=
  WR.lamI (e := l38_9b) (ρ := [gv ρc 15]) (n := 0) (ks := [some 15]) lamI38 (by kernel_rfl) rfl (by kernel_rfl) h
theorem L38_10 {ρc : PM.Env} (h : WE ⟨Q.cf d, Q.cl d, Q.W, fun _ => Φ, Φ.length, st.length⟩ l38_10b [gv ρc 15] st (fun v st' => FK false Φ.length st.length (.rt v) st' K) (fun k v st' => nor v = true ∧ X k v (st'.take st.length))) : WR (Q.cl (d + 1) (L38 10) [] ρc Φ st) K X :=
  WR.lamI (e := l38_10b) (ρ := [gv ρc 15]) (n := 0) (ks := [some 15]) lamI38 (by kernel_rfl) rfl (by kernel_rfl) h
theorem L38_11 {ρc : PM.Env} (h : WE ⟨Q.cf d, Q.cl d, Q.W, fun _ => Φ, Φ.length, st.length⟩ l38_11b [gv ρc 15] st (fun v st' => FK false Φ.length st.length (.rt v) st' K) (fun k v st' => nor v = true ∧ X k v (st'.take st.length))) : WR (Q.cl (d + 1) (L38 11) [] ρc Φ st) K X :=
  WR.lamI (e := l38_11b) (ρ := [gv ρc 15]) (n := 0) (ks := [some 15]) lamI38 (by kernel_rfl) rfl (by kernel_rfl) h
theorem L38_12 {ρc : PM.Env} (h : WE ⟨Q.cf d, Q.cl d, Q.W, fun _ => Φ, Φ.length, st.length⟩ l38_12b [gv ρc 15] st (fun v st' => FK false Φ.length st.length (.rt v) st' K) (fun k v st' => nor v = true ∧ X k v (st'.take st.length))) : WR (Q.cl (d + 1) (L38 12) [] ρc Φ st) K X :=
  WR.lamI (e := l38_12b) (ρ := [gv ρc 15]) (n := 0) (ks := [some 15]) lamI38 (by kernel_rfl) rfl (by kernel_rfl) h
theorem L38_13 {ρc : PM.Env} (h : WE ⟨Q.cf d, Q.cl d, Q.W, fun _ => Φ, Φ.length, st.length⟩ l38_13b [] st (fun v st' => FK false Φ.length st.length (.rt v) st' K) (fun k v st' => nor v = true ∧ X k v (st'.take st.length))) : WR (Q.cl (d + 1) (L38 13) [] ρc Φ st) K X :=
  WR.lamI (e := l38_13b) (ρ := []) (n := 0) (ks := []) lamI38 (by kernel_rfl) rfl (by kernel_rfl) h
theorem C39 (h : WSS ⟨Q.cf d, Q.cl d, Q.W, fun ρ => Φ ++ [ρ], Φ.length, st.length⟩ f39b [] st (fun fl st' => FK false Φ.length st.length fl st' K) (fun k v st' => nor v = true ∧ X k v (st'.take st.length))) : WR (Q.cf (d + 1) 39 [] Φ st) K X :=
  WR.callI (b := f39b) (ρ := []) (n := 0) (k := 0) infos (by kernel_rfl) rfl (by kernel_rfl) h
theorem L39_0 {ρc : PM.Env} (h : WE ⟨Q.cf d, Q.cl d, Q.W, fun _ => Φ, Φ.length, st.length⟩ l39_0b [] st (fun v st' => FK false Φ.length st.length (.rt v) st' K) (fun k v st' => nor v = true ∧ X k v (st'.take st.length))) : WR (Q.cl (d + 1) (L39 0) [] ρc Φ st) K X :=
  WR.lamI (e := l39_0b) (ρ := []) (n := 0) (ks := []) lamI39 (by kernel_rfl) rfl (by kernel_rfl) h
theorem C40 {a0 : PV} (h : WSS ⟨Q.cf d, Q.cl d, Q.W, fun ρ => Φ ++ [ρ], Φ.length, st.length⟩ f40b [some a0, none] st (fun fl st' => FK false Φ.length st.length fl st' K) (fun k v st' => nor v = true ∧ X k v (st'.take st.length))) : WR (Q.cf (d + 1) 40 [a0] Φ st) K X :=
  WR.callI (b := f40b) (ρ := [some a0, none]) (n := 2) (k := 1) infos (by kernel_rfl) rfl (by kernel_rfl) h
end K45
set_option Elab.async false
set_option linter.all false
set_option maxRecDepth 100000
set_option maxHeartbeats 1000000
namespace K45
open PySem PM
def cb (w : List Int) : List Int := w.reverse.map fun s => 1 - s
def rotN (m : List Int) (a : Nat) : List Int := m.drop a ++ m.take a
def sameN (m i : List Int) : Bool := (List.range m.length).any fun a => decide (rotN m a = i)
theorem cb_len (w : List Int) : (cb w).length = w.length := by unfold cb; simp
theorem cb_cb (w : List Int) : cb (cb w) = w := by
  unfold cb
  rw [← List.map_reverse, List.reverse_reverse, List.map_map]
  have : ((fun s : Int => 1 - s) ∘ fun s => 1 - s) = id := by funext s; simp; omega
  rw [this, List.map_id]
theorem xn_cb {w : List Int} (hw : 0 < w.length) (i : Nat) : xn (cb w) i = 1 - xn w (w.length - 1 - i % w.length) := by
  have hi : i % w.length < w.length := Nat.mod_lt _ hw
  have h2 : w.length - 1 - i % w.length < w.length := by omega
  unfold xn
  rw [cb_len, Nat.mod_eq_of_lt h2]
  unfold cb
  simp only [List.getD, List.getElem?_map]
  rw [List.getElem?_reverse hi, List.getElem?_eq_getElem h2]
  simp
theorem xn_add {w : List Int} (b t : Nat) : xn w (b + w.length * t) = xn w b := (PW.len w).mul t b
theorem pw_cb {w : List Int} (hw : 0 < w.length) {k : Nat} (h : PW w k) : PW (cb w) k := fun i => by
  rw [xn_cb hw, xn_cb hw]
  have e1 := Nat.div_add_mod i w.length
  have e2 := Nat.div_add_mod (i + k) w.length
  have r1 : i % w.length < w.length := Nat.mod_lt _ hw
  have r2 : (i + k) % w.length < w.length := Nat.mod_lt _ hw
  have hq : i / w.length ≤ (i + k) / w.length := Nat.div_le_div_right (by omega)
  have hm := Nat.mul_le_mul (Nat.le_refl w.length) hq
  have hs : w.length * ((i + k) / w.length - i / w.length) = w.length * ((i + k) / w.length) - w.length * (i / w.length) := Nat.mul_sub ..
  have e : w.length - 1 - (i + k) % w.length + k = w.length - 1 - i % w.length + w.length * ((i + k) / w.length - i / w.length) := by omega
  rw [← h (w.length - 1 - (i + k) % w.length), e, xn_add]
theorem lst_cb {w : List Int} (hw : 0 < w.length) {R : Nat} (h : Lst (PW w) R) : Lst (PW (cb w)) R := h.of fun q => ⟨pw_cb hw, fun g => by
  have := pw_cb (w := cb w) (by rw [cb_len]; exact hw) g
  rwa [cb_cb] at this⟩
theorem take_cb {w : List Int} {R : Nat} (hR : R ≤ w.length) (h : Lst (PW w) R) : (cb w).take R = cb (w.take R) := by
  have h1 := h.pos
  have hd : R ∣ w.length := h.dvd (PW.len w) fun x y a b => PW.sub a b
  have e : w.drop (w.length - R) = w.take R := by
    apply List.ext_getElem?
    intro i
    by_cases hi : i < R
    · rw [List.getElem?_drop, List.getElem?_take_of_lt hi]
      have hx : xn w (w.length - R + i) = xn w i := by
        obtain ⟨t, ht⟩ := hd
        have := h.here.mul (t - 1) i
        rw [← this]
        congr 1
        have : R * (t - 1) = R * t - R := by rw [Nat.mul_sub, Nat.mul_one]
        omega
      unfold xn at hx
      rw [Nat.mod_eq_of_lt (show w.length - R + i < w.length by omega), Nat.mod_eq_of_lt (show i < w.length by omega)] at hx
      simp only [List.getD] at hx
      rw [List.getElem?_eq_getElem (show w.length - R + i < w.length by omega), List.getElem?_eq_getElem (show i < w.length by omega)] at hx ⊢
      simpa using hx
    · rw [List.getElem?_eq_none (by rw [List.length_drop]; omega), List.getElem?_eq_none (by rw [List.length_take]; omega)]
  unfold cb
  rw [← List.map_take, List.take_reverse, e]
theorem rot_len {m : List Int} {a : Nat} : (rotN m a).length = m.length := by unfold rotN; simp; omega
theorem same_iff {m i : List Int} : sameN m i = true ↔ ∃ a, a < m.length ∧ rotN m a = i := by
  unfold sameN
  rw [List.any_eq_true]
  constructor
  · rintro ⟨a, ha, h⟩; exact ⟨a, List.mem_range.mp ha, of_decide_eq_true h⟩
  · rintro ⟨a, ha, h⟩; exact ⟨a, List.mem_range.mpr ha, decide_eq_true h⟩
theorem same_symm {m i : List Int} (h : sameN m i = true) : sameN i m = true := by
  obtain ⟨a, ha, rfl⟩ := same_iff.mp h
  by_cases h0 : a = 0
  · subst h0
    refine same_iff.mpr ⟨0, by rw [rot_len]; exact ha, ?_⟩
    unfold rotN; simp
  · refine same_iff.mpr ⟨m.length - a, by rw [rot_len]; omega, ?_⟩
    unfold rotN
    have hl : (m.drop a).length = m.length - a := List.length_drop ..
    rw [← hl, List.drop_left, List.take_left, List.take_append_drop]
theorem same_comm (m i : List Int) : sameN m i = sameN i m := by
  cases h : sameN m i with
  | true => exact (same_symm h).symm
  | false =>
    cases h2 : sameN i m with
    | false => rfl
    | true => rw [same_symm h2] at h; cases h
theorem same_len {m i : List Int} (h : m.length ≠ i.length) : sameN m i = false := by
  cases h2 : sameN m i with
  | false => rfl
  | true =>
    obtain ⟨a, _, e⟩ := same_iff.mp h2
    exact absurd (by rw [← e, rot_len]) h
theorem sum_cb (w : List Int) : (cb w).sum = (w.length : Int) - w.sum := by
  unfold cb
  rw [List.map_reverse, List.sum_reverse]
  induction w with
  | nil => rfl
  | cons x w ih => simp only [List.map_cons, List.sum_cons, List.length_cons]; omega
theorem sum_rot (m : List Int) (a : Nat) : (rotN m a).sum = m.sum := by
  unfold rotN
  rw [List.sum_append]
  have := congrArg List.sum (List.take_append_drop a m)
  rw [List.sum_append] at this
  omega
theorem sum_rep (m : List Int) : ∀ k : Nat, (List.replicate k m).flatten.sum = (k : Int) * m.sum
  | 0 => by simp
  | k + 1 => by
    rw [List.replicate_succ, List.flatten_cons, List.sum_append, sum_rep m k]
    rw [Int.natCast_add, Int.add_mul]
    omega
/-- a rib that looks the same from both sides has as many knit as purl -/
theorem faced_sum {w : List Int} (hw : 0 < w.length) {R : Nat} (hR : R ≤ w.length) (h : Lst (PW w) R) (hf : sameN (w.take R) (cb (w.take R)) = true) : 2 * w.sum = (w.length : Int) := by
  have h1 := h.pos
  have hd : R ∣ w.length := h.dvd (PW.len w) fun x y a b => PW.sub a b
  obtain ⟨a, _, e⟩ := same_iff.mp hf
  have e1 := congrArg List.sum e
  rw [sum_rot, sum_cb] at e1
  have e2 := sum_rep (w.take R) (w.length / R)
  rw [(root_prog hw h1 hR hd).mpr h.here] at e2
  have e3 : (w.take R).length = R := by rw [List.length_take]; omega
  rw [e3] at e1
  have e4 : w.length / R * R = w.length := Nat.div_mul_cancel hd
  have e5 : ((w.length / R : Nat) : Int) * (R : Int) = (w.length : Int) := by rw [← Int.natCast_mul, e4]
  have e6 : 2 * w.sum = ((w.length / R : Nat) : Int) * (2 * (w.take R).sum) := by rw [e2, Int.mul_left_comm]
  rw [e6, show 2 * (w.take R).sum = (R : Int) by omega, e5]
/-- alike so far, alike for ever -/
theorem alike {a b : List Int} (h : ∀ i, i < a.length + b.length → xn a i = xn b i) : ∀ i, xn a i = xn b i := by
  intro i
  induction i using Nat.strongRecOn with
  | ind i ih =>
    by_cases hi : i < a.length + b.length
    · exact h i hi
    · by_cases ha : a.length = 0
      · by_cases hb : b.length = 0
        · unfold xn
          rw [List.length_eq_zero_iff.mp ha, List.length_eq_zero_iff.mp hb]
        · have e1 : xn a i = xn a (i - b.length) := by unfold xn; rw [List.length_eq_zero_iff.mp ha]; simp
          have e2 := PW.len b (i - b.length)
          rw [show i - b.length + b.length = i by omega] at e2
          rw [e1, e2, ih (i - b.length) (by omega)]
      · by_cases hb : b.length = 0
        · have e1 : xn b i = xn b (i - a.length) := by unfold xn; rw [List.length_eq_zero_iff.mp hb]; simp
          have e2 := PW.len a (i - a.length)
          rw [show i - a.length + a.length = i by omega] at e2
          rw [e1, e2, ih (i - a.length) (by omega)]
        · have e1 := PW.len a (i - a.length)
          rw [show i - a.length + a.length = i by omega] at e1
          have e2 := PW.len b (i - b.length)
          rw [show i - b.length + b.length = i by omega] at e2
          have e3 := PW.len b (i - a.length - b.length)
          rw [show i - a.length - b.length + b.length = i - a.length by omega] at e3
          have e4 := PW.len a (i - a.length - b.length)
          rw [show i - a.length - b.length + a.length = i - b.length by omega] at e4
          rw [e1, e2, ih (i - a.length) (by omega), e3, ← ih (i - b.length) (by omega), e4, ih (i - a.length - b.length) (by omega)]
theorem leP_refl (p : Int × Int) : leP p p := by unfold leP; omega
theorem minP_spec : ∀ {l : List (Int × Int)} {m : Int × Int}, minP l = some m → m ∈ l ∧ ∀ p ∈ l, leP m p
  | p :: ps, m, h => by
    have key : ∀ (l : List (Int × Int)) (a : Int × Int), (l.foldl (fun a y => if ltP y a = true then y else a) a ∈ a :: l) ∧ ∀ p ∈ a :: l, leP (l.foldl (fun a y => if ltP y a = true then y else a) a) p := by
      intro l
      induction l with
      | nil => intro a; exact ⟨List.mem_cons_self .., fun p hp => by rw [List.mem_singleton.mp hp]; exact leP_refl _⟩
      | cons y l ih =>
        intro a
        rw [List.foldl_cons]
        by_cases hl : ltP y a = true
        · rw [if_pos hl]
          obtain ⟨h1, h2⟩ := ih y
          refine ⟨?_, fun p hp => ?_⟩
          · rcases List.mem_cons.mp h1 with e | e
            · rw [e]; simp
            · simp [e]
          · rcases List.mem_cons.mp hp with rfl | hp
            · exact leP_trans (h2 y (List.mem_cons_self ..)) (leP_total (ltP_iff.mp hl))
            · exact h2 p hp
        · rw [if_neg hl]
          obtain ⟨h1, h2⟩ := ih a
          have hle : leP a y := Classical.byContradiction fun hn => hl (ltP_iff.mpr hn)
          refine ⟨?_, fun p hp => ?_⟩
          · rcases List.mem_cons.mp h1 with e | e
            · rw [e]; simp
            · simp [e]
          · rcases List.mem_cons.mp hp with rfl | hp
            · exact h2 p (List.mem_cons_self ..)
            · rcases List.mem_cons.mp hp with rfl | hp
              · exact leP_trans (h2 a (List.mem_cons_self ..)) hle
              · exact h2 p (List.mem_cons_of_mem _ hp)
    have e : ps.foldl (fun a y => if ltP y a = true then y else a) p = m := Option.some.inj h
    rw [← e]
    exact key ps p
theorem isort_head {l : List (Int × Int)} {m : Int × Int} (hm : m ∈ l) (hl : ∀ p ∈ l, leP m p) : ∃ r, isort ltP l = m :: r := by
  have hs := isortP_sorted l
  have hp := isortG_perm ltP l
  cases e : isort ltP l with
  | nil =>
    rw [e] at hp
    rw [List.nil_perm.mp hp] at hm
    cases hm
  | cons x r =>
    rw [e] at hs hp
    have hx : x ∈ l := hp.mem_iff.mp (List.mem_cons_self ..)
    have hm2 : m ∈ x :: r := hp.mem_iff.mpr hm
    have : x = m := by
      rcases List.mem_cons.mp hm2 with h | h
      · exact h.symm
      · exact leP_anti ((List.pairwise_cons.mp hs).1 m h) (hl x hx)
    exact ⟨r, by rw [this]⟩
/-- the nearest round -/
def nearN (R many : Nat) : Nat := if 0 < many / R * R ∧ many - many / R * R ≤ many / R * R + R - many then many / R * R else many / R * R + R
theorem near_ok {R many : Nat} (hR : 1 ≤ R) : (∃ j, 1 ≤ j ∧ nearN R many = R * j) ∧ nearN R many ≤ many + R ∧ ∀ j, 1 ≤ j → leP ((((nearN R many : Nat) : Int) - (many : Int)).natAbs, (nearN R many : Nat)) ((((R * j : Nat) : Int) - (many : Int)).natAbs, ((R * j : Nat) : Int)) := by
  have e1 := Nat.div_add_mod many R
  have e2 := Nat.mod_lt many (show 0 < R by omega)
  have ec : R * (many / R) = many / R * R := Nat.mul_comm ..
  generalize hq : many / R = q at *
  have bnd : ∀ j, j ≤ q ∨ q + 1 ≤ j := fun j => by omega
  have lo : ∀ j, j ≤ q → R * j ≤ q * R := fun j hj => by rw [Nat.mul_comm q R]; exact Nat.mul_le_mul (Nat.le_refl _) hj
  have hi : ∀ j, q + 1 ≤ j → q * R + R ≤ R * j := fun j hj => by
    have := Nat.mul_le_mul (Nat.le_refl R) hj
    rw [Nat.mul_add, Nat.mul_one] at this
    omega
  have step : ∀ j, j ≤ q → j ≠ q → R * j + R ≤ q * R := fun j hj hne => by
    have := Nat.mul_le_mul (Nat.le_refl R) (show j + 1 ≤ q by omega)
    rw [Nat.mul_add, Nat.mul_one] at this
    omega
  unfold nearN
  rw [hq]
  split
  · rename_i hc
    refine ⟨⟨q, ?_, by rw [Nat.mul_comm]⟩, by omega, fun j hj => ?_⟩
    · rcases Nat.eq_zero_or_pos q with h | h
      · rw [h] at hc; omega
      · exact h
    · unfold leP
      simp only
      rcases bnd j with h | h
      · by_cases hj2 : j = q
        · subst hj2; omega
        · have := step j h hj2; omega
      · have := hi j h; omega
  · rename_i hc
    refine ⟨⟨q + 1, by omega, by rw [Nat.mul_add, Nat.mul_one]; omega⟩, by omega, fun j hj => ?_⟩
    unfold leP
    simp only
    rcases bnd j with h | h
    · have h1 := lo j h
      have h0 : 1 ≤ R * j := Nat.mul_pos (by omega) (by omega)
      by_cases hj2 : j = q
      · subst hj2; omega
      · have := step j h hj2; omega
    · have := hi j h
      by_cases hj2 : R * j = q * R + R
      · omega
      · omega
end K45
set_option Elab.async false
set_option linter.all false
set_option maxRecDepth 100000
set_option maxHeartbeats 4000000
namespace K45
open PySem PM
local macro_rules | `(tactic| ac_rfl) => `(tactic| first | ((with_reducible show PM.WE _ _ _ _ _ _); (first | refine PM.WE.v (by rfl) ?_ | refine PM.WE.k ?_ | refine PM.WE.bin ?_ | refine PM.WE.cmp ?_ | refine PM.WE.call ?_ | refine PM.WE.ix ?_ | refine PM.WE.bi ?_ | refine PM.WE.tup ?_ | refine PM.WE.lst ?_ | refine PM.WE.and ?_ | refine PM.WE.or ?_ | refine PM.WE.not ?_ | refine PM.WE.neg ?_ | refine PM.WE.ite ?_ | refine PM.WE.isi ?_ | refine PM.WE.at ?_ | refine PM.WE.chain ?_ | refine PM.WE.sl ?_ | refine PM.WE.rev ?_ | refine PM.WE.bn ?_ | refine PM.WE.mt ?_ | refine PM.WE.mut ?_ | refine PM.WE.cm ?_ | refine PM.WE.lam ?_ | refine PM.WE.dc ?_ | refine PM.WE.mkE ?_ | refine PM.WE.callv (by rfl) ?_)) | ((with_reducible show PM.VW _ _ _); refine PM.VW.nr (by rfl) ?_) | ((with_reducible show PM.GV (PM.isiV _ _) _); (first | refine PM.GV.of (a := true) (by rfl) ?_ | refine PM.GV.of (a := false) (by rfl) ?_)) | ((with_reducible show PM.GV (PM.ixV _ _) _); refine PM.GV.of (by rfl) ?_) | ((with_reducible show PM.GV _ _); (first | (with_reducible refine PM.GV.addI ?_) | (with_reducible refine PM.GV.subI ?_) | (with_reducible refine PM.GV.ltI ?_) | (with_reducible refine PM.GV.leI ?_) | (with_reducible refine PM.GV.gtI ?_) | (with_reducible refine PM.GV.geI ?_) | (with_reducible refine PM.GV.eqI ?_) | (with_reducible refine PM.GV.neI ?_) | (with_reducible refine PM.GV.trB ?_) | (with_reducible refine PM.GV.trI ?_) | (with_reducible refine PM.GV.trN ?_) | (with_reducible refine PM.GV.intI ?_) | (with_reducible refine PM.GV.intB ?_) | (with_reducible refine PM.GV.absI ?_) | (with_reducible refine PM.GV.lenT ?_) | (with_reducible refine PM.GV.lenL ?_) | (with_reducible refine PM.GV.lenS ?_) | (with_reducible refine PM.GV.max2I ?_) | (with_reducible refine PM.GV.min2I ?_) | (with_reducible refine PM.GV.isN ?_) | (with_reducible refine PM.GV.notN ?_) | (with_reducible refine PM.GV.eqSS ?_) | (with_reducible refine PM.GV.neSS ?_) | (with_reducible refine PM.GV.eqS ?_) | (with_reducible refine PM.GV.neS ?_) | (with_reducible refine PM.GV.tupL ?_) | (with_reducible refine PM.GV.tupT ?_) | ((with_reducible refine PM.GV.modI ?_ ?_); (focus (first | assumption | omega))) | ((with_reducible refine PM.GV.fdivI ?_ ?_ ?_); (focus (first | assumption | omega)); (focus bv_omega)) | ((with_reducible refine PM.GV.mulI ?_ ?_ ?_); (focus bv_omega); (focus bv_omega)))) | ((with_reducible show PM.WA _ _ _ _ _ _); (first | refine PM.WA.cons ?_ | refine PM.WA.nil ?_)) | ((with_reducible show PM.WSS _ _ _ _ _ _); (first | refine PM.WSS.cons ?_ | refine PM.WSS.nil ?_)) | ((with_reducible show PM.SQ _ _ _); (first | refine PM.SQ.nx ?_ | refine PM.SQ.rt ?_ | refine PM.SQ.bk ?_ | refine PM.SQ.ct ?_)) | ((with_reducible show PM.WS _ _ _ _ _ _); (first | refine PM.WS.asg ?_ | refine PM.WS.ret ?_ | refine PM.WS.ite ?_ | refine PM.WS.ex ?_ | refine PM.WS.rais ?_ | refine PM.WS.seti ?_ | refine PM.WS.augA (by rfl) ?_ | refine PM.WS.augS (by rfl) ?_ | refine PM.WS.retn ?_ | refine PM.WS.pass ?_ | refine PM.WS.brk ?_ | refine PM.WS.cnt ?_ | refine PM.WS.fo ?_ | refine PM.WS.wh ?_ | refine PM.WS.tryc ?_)) | ((with_reducible show PM.TG _ _ _ _); (first | refine PM.TG.n (by rfl) ?_ | refine PM.TG.t ?_)) | ((with_reducible show PM.WT _ _ _ _ _ _); (first | refine PM.WT.cmp ?_ | refine PM.WT.and ?_ | refine PM.WT.or ?_ | refine PM.WT.not ?_ | refine PM.WT.ite ?_ | refine PM.WT.isi ?_ | refine PM.WT.pl (by rfl) ?_)) | ((with_reducible show PM.VWs _ _ _); (first | refine PM.VWs.cons ?_ | refine PM.VWs.nil ?_)) | ((with_reducible show PM.TGs _ _ _ _); (first | refine PM.TGs.cons ?_ | refine PM.TGs.nil ?_)) | refine PM.IsI.mk' ?_ | refine PM.IsB.mk' ?_ | refine PM.IsL.mk' ?_ | refine PM.P2.mk' ?_ | refine PM.IsE.mk' ?_ | refine PM.BR.T ?_ | refine PM.BR.F ?_ | refine PM.BR.n ?_ | ((with_reducible show PM.LP _ _ _ _); (first | refine PM.LP.nx ?_ | refine PM.LP.rt ?_ | refine PM.LP.ct ?_ | refine PM.LP.bk ?_)) | ((with_reducible show PM.PA _ _ _); refine PM.PA.mk (by rfl) ?_) | ((with_reducible show PM.WI _ _ _ _ _ _); (first | refine PM.WI.rng1 ?_ | refine PM.WI.rng2 ?_ | refine PM.WI.rng3 ?_ | refine PM.WI.seq ?_ | refine PM.WI.enum ?_ | refine PM.WI.zip ?_)) | ((with_reducible show PM.WO _ _ _ _ _ _); (first | refine PM.WO.no ?_ | refine PM.WO.so ?_)) | refine PM.EN.l ?_ | refine PM.EN.t ?_ | refine PM.ZP.l ?_ | refine PM.ZP.t ?_)
local macro_rules | `(tactic| bv_omega) => `(tactic| first | assumption | decide +kernel | (apply PM.SB.sz; (focus (repeat' (first | assumption | (apply PM.SB.le <;> omega) | apply PM.SB.mul | apply PM.SB.add | apply PM.SB.sub | apply PM.SB.neg))); decide))
local macro_rules | `(tactic| nofun) => `(tactic| repeat ((fail_if_success (with_reducible show PM.WSS _ (PM.Ss.cons _ _) _ _ _ _)); ac_rfl))
structure Rb (w : List Int) : Prop where
  l1 : 1 ≤ w.length
  l2 : w.length ≤ 24
  c0 : ∀ c ∈ w, 0 ≤ c
  c1 : ∀ c ∈ w, c ≤ 1
section
variable {Q : Cb t.G} {d : Nat} {Φ : List PM.Env} {st : Store} {K : PV → Store → Prop} {X : Nat → PV → Store → Prop}
theorem is_int {v : PV} {lo hi : Int} (hv : okv v = true) (k : K (.bl (isInt v lo hi)) st) : WR (Q.cf (d + 1) 0 [v, .int lo, .int hi] Φ st) K X := C0 (isInt_W hv (FK.rt0 rfl k))
theorem law_is_int {v : PV} {lo hi : Int} (hv : okv v = true) (k : K (.bl (isInt v lo hi)) st) : WR (Q.cf (d + 1) 28 [v, .int lo, .int hi] Φ st) K X := C28 (isInt_W hv (FK.rt0 rfl k))
theorem are_ints {v : PV} {lo hi : Int} (hv : okvs v = true) (k : K (.bl (areInts v lo hi)) st) : WR (Q.cf (d + 2) 1 [v, .int lo, .int hi] Φ st) K X := C1 (areInts_W hv (fun h k => is_int h k) (FK.rt0 rfl k))
theorem take {n B : Nat} {u : Int} (hp : Pot st n B) (hB : B ≤ 1000000000) (hu : 0 < u) (hu2 : u ≤ 1000000000) (k : ∀ (r : Int) (st' : Store), 0 ≤ r → r < u → PotS st st' n (B + 1) → K (.int r) st') : WR (Q.cf (d + 1) 23 [.ref n, .int u] Φ st) K X :=
  C23 (take_W hp hB hu ((SB.le (i := u) (by omega) (by omega)).sz (by decide)) ⟨by decide, by unfold SB; decide⟩ ⟨by decide, by unfold SB; decide⟩ ⟨by decide, by unfold SB; decide⟩ ⟨by decide, by unfold SB; decide⟩ ⟨by decide, by unfold SB; decide⟩ (by unfold SB; decide) (by unfold SB; decide) (by decide) (by unfold SB; decide) (by unfold SB; decide) (by decide) (by decide) (by unfold SB; decide)
    fun r st' h0 h1 ps => FK.rtl ps.len rfl (k r st' h0 h1 ps))
theorem of_ {n B : Nat} {xs : List PV} (hp : Pot st n B) (hB : B ≤ 1000000000) (h0 : 0 < xs.length) (h1 : xs.length ≤ 1000) (hn : nors xs = true) (k : ∀ x ∈ xs, ∀ st', PotS st st' n (B + 1) → K x st') : WR (Q.cf (d + 2) 24 [.ref n, .lst xs] Φ st) K X :=
  C24 (of_W (fun g0 g1 k => take hp hB g0 g1 k) h0 h1 fun x hx st' ps => FK.rtl ps.len (nors_mem hn x hx) (k x hx st' ps))
def H (Q : Cb t.G) : Help Q where
  it := 23
  io := 24
  take := fun hp hB hu hu2 k => take hp hB hu hu2 k
  of := fun hp hB h0 h1 hn k => of_ hp hB h0 h1 hn k
theorem odd {n B : Nat} (hp : Pot st n B) (hB : B ≤ 1000000000) (k : ∀ v' st', dpv v' = true → PotS st st' n (B + 1) → K v' st') : WR (Q.cf (d + 3) 27 [.ref n] Φ st) K X := by
  refine C27 ?_
  unfold f27b
  repeat ac_rfl
  refine GV.powI (by decide) (by decide +kernel) ?_
  repeat ac_rfl
  refine GV.addL (by decide +kernel) ?_
  repeat ac_rfl
  refine of_ hp hB (by simp) (by simp) rfl fun x hx st' ps => ?_
  repeat ac_rfl
  have h := dpvs_iff.mp (show dpvs _ = true from rfl) x hx
  exact FK.rtl ps.len (dpv_nor h) (k x st' h ps)
theorem bent (n : Nat) (hn : n ≤ 60) {v : PV} (hv : BV n v) {p B : Nat} (hp : Pot st p B) (hB : B + 3 * n ≤ 999999990) (k : ∀ v' st', dpv v' = true → PotS st st' p (B + 3 * n + 3) → K v' st') : WR (Q.cf (d + n + 4) 29 [.ref p, v] Φ st) K X :=
  bent_W (H Q) (fun h => C29 h) (fun h hB k => odd h hB k) n hn hv hp hB k
theorem is_bool {b : Bool} (k : K (.bl true) st) : WR (Q.cf (d + 1) 30 [.bl b, .bl b] Φ st) K X := C30 (isBool_W (FK.rt0 rfl k))
theorem heard {l : LamI} {lv k : Nat} {v : PV} {ρc : PM.Env} (hΦ : Φ[lv]? = some ρc) (hv : nor v = true) (h : ∀ {Φ' : List PM.Env} {st : Store} {K : PV → Store → Prop} {X : Nat → PV → Store → Prop}, X k v st → WR (Q.cl d l [] ρc Φ' st) K X) (hk : K (.tup [.exc k v, .non]) st) : WR (Q.cf (d + 1) 26 [.clo l lv] Φ st) K X :=
  C26 (heard_W rfl hΦ (fun x => h x) (FK.rt0 (by simp [nor, nors, hv]) hk))
/-! ### the looks -/
def isRib (v : PV) : Bool := match v with | .tup xs => areInts v 0 1 && (decide (1 ≤ xs.length) && decide (xs.length ≤ 24)) | _ => false
theorem is_rib {v : PV} (hv : okvs v = true) (k : K (.bl (isRib v)) st) : WR (Q.cf (d + 3) 3 [v] Φ st) K X := by
  refine C3 ?_
  unfold f3b
  repeat ac_rfl
  refine are_ints hv ?_
  cases h : areInts v 0 1 with
  | false =>
    have e : isRib v = false := by cases v <;> simp [isRib, h]
    rw [e] at k
    repeat ac_rfl
    exact FK.rt0 rfl k
  | true =>
    cases v with
    | tup xs =>
      have e : isRib (.tup xs) = (decide (1 ≤ xs.length) && decide (xs.length ≤ 24)) := by simp [isRib, h]
      rw [e] at k
      repeat ac_rfl
      refine BR.d (fun h1 => ?_) fun h1 => ?_
      · repeat ac_rfl
        rw [decide_eq_true (show 1 ≤ xs.length by omega), Bool.true_and, show decide (xs.length ≤ 24) = decide ((xs.length : Int) ≤ 24) from decide_eq_decide.mpr (by omega)] at k
        exact FK.rt0 rfl k
      · repeat ac_rfl
        rw [decide_eq_false (show ¬ 1 ≤ xs.length by omega), Bool.false_and] at k
        exact FK.rt0 rfl k
    | _ => cases h
theorem Rb.is {w : List Int} (h : Rb w) : isRib (iT w) = true := by
  show (areInts (iT w) 0 1 && (decide (1 ≤ (w.map PV.int).length) && decide ((w.map PV.int).length ≤ 24))) = true
  rw [areInts_ints h.c0 h.c1, lenM, decide_eq_true h.l1, decide_eq_true h.l2]; rfl
theorem look_rib {w : List Int} (h : Rb w) (k : K .non st) : WR (Q.cf (d + 4) 4 [iT w] Φ st) K X := by
  refine C4 ?_
  unfold f4b
  repeat ac_rfl
  refine is_rib (okvs_ints w) ?_
  rw [h.is]
  repeat ac_rfl
  exact FK.nx0 k
theorem look_rib_bad {v : PV} (hv : okvs v = true) (hn : nor v = true) (h : isRib v = false) (x : X 2 v st) : WR (Q.cf (d + 4) 4 [v] Φ st) K X := by
  refine C4 ?_
  unfold f4b
  repeat ac_rfl
  refine is_rib hv ?_
  rw [h]
  repeat ac_rfl
  exact ⟨hn, tk hn x⟩
theorem look_ribs {a b : List Int} {wide : Nat} (ha : Rb a) (hb : Rb b) (hw : wide ≤ 600) (k : K .non st) : WR (Q.cf (d + 5) 5 [iT a, iT b, .int wide] Φ st) K X := by
  refine C5 ?_
  unfold f5b
  repeat ac_rfl
  refine look_rib ha ?_
  repeat ac_rfl
  refine look_rib hb ?_
  repeat ac_rfl
  refine is_int rfl ?_
  rw [isInt_of (by omega) (by omega)]
  repeat ac_rfl
  exact FK.nx0 k
theorem told_least {w : List Int} (hw : Rb w) (k : ∀ R : Nat, R ≤ w.length → Lst (PW w) R → K (iT (w.take R)) st) : WR (Q.cf (d + 1) 6 [iT w] Φ st) K X := by
  have hl := lenM w
  have := hw.l1; have := hw.l2
  refine C6 ?_
  unfold f6b
  refine WSS.cons ?_
  refine WS.fo (WI.rng2 ?_)
  repeat ac_rfl
  refine ⟨⟨inR_by (by omega) (by omega), inR_by (by omega) (by omega), by unfold SZ; omega⟩, ?_⟩
  refine WL.ix (fun j ρ st' => st' = st ∧ (∃ x, ρ = [some (iT w), x]) ∧ ∀ q, 1 ≤ q → q ≤ j → ¬(q ∣ w.length ∧ PW w q)) ⟨rfl, ⟨none, rfl⟩, fun q h1 h2 => by omega⟩ ?_ ?_
  · rintro j hj ρ st' ⟨rfl, ⟨x, rfl⟩, hno⟩
    rw [rangeL_len] at hj
    rw [rangeL_at]
    have hj2 : j + 1 ≤ w.length := by omega
    have ej : (1 : Int) + (j : Int) = ((j + 1 : Nat) : Int) := by omega
    rw [ej]
    repeat ac_rfl
    refine BR.d (fun h0 => ?_) fun h0 => ?_
    · have hd : (j + 1) ∣ w.length := by
        refine Nat.dvd_of_mod_eq_zero ?_
        rw [hl] at h0
        omega
      repeat ac_rfl
      refine GV.slT ?_
      repeat ac_rfl
      have ed : ((w.map PV.int).length : Int) / ((j + 1 : Nat) : Int) = ((w.length / (j + 1) : Nat) : Int) := by rw [hl]; omega
      rw [ed]
      have hq : w.length / (j + 1) ≤ w.length := Nat.div_le_self ..
      refine GV.mulTI ?_ (by unfold SZ; omega) ?_
      · rw [List.length_take]
        exact Nat.le_trans (Nat.mul_le_mul (show min (j + 1) w.length ≤ 60 by omega) (show w.length / (j + 1) ≤ 60 by omega)) (by decide)
      repeat ac_rfl
      refine GV.eqTI ?_
      repeat ac_rfl
      refine BR.d (fun h1 => ?_) fun h1 => ?_
      · have hp : PW w (j + 1) := (root_prog (by omega) (by omega) hj2 hd).mp h1
        repeat ac_rfl
        refine GV.slT ?_
        repeat ac_rfl
        refine FK.rt0 (nor_iT _) (k (j + 1) hj2 ((Lst.both (PW.len w) (by omega) fun x y a b => PW.sub a b).mpr ⟨by omega, ⟨hd, hp⟩, fun q h2 h3 => hno q h2 (by omega)⟩))
      · repeat ac_rfl
        refine ⟨rfl, ⟨_, rfl⟩, fun q h2 h3 => ?_⟩
        by_cases hqj : q ≤ j
        · exact hno q h2 hqj
        · have : q = j + 1 := by omega
          subst this
          exact fun hh => h1 ((root_prog (by omega) (by omega) hj2 hd).mpr hh.2)
    · repeat ac_rfl
      refine ⟨rfl, ⟨_, rfl⟩, fun q h2 h3 => ?_⟩
      by_cases hqj : q ≤ j
      · exact hno q h2 hqj
      · have : q = j + 1 := by omega
        subst this
        intro hh
        refine h0 ?_
        have := Nat.mod_eq_zero_of_dvd hh.1
        rw [hl]; omega
  · rintro ρ st' ⟨rfl, ⟨x, rfl⟩, hno⟩
    rw [rangeL_len] at hno
    exact absurd ⟨Nat.dvd_refl _, PW.len w⟩ (hno w.length (by omega) (by rw [hl]; omega))
theorem Rb.take {w : List Int} (h : Rb w) {R : Nat} (h1 : 1 ≤ R) : Rb (w.take R) :=
  ⟨by rw [List.length_take]; have := h.l1; omega, by rw [List.length_take]; have := h.l2; omega, fun c hc => h.c0 c (List.mem_of_mem_take hc), fun c hc => h.c1 c (List.mem_of_mem_take hc)⟩
theorem Rb.cb {w : List Int} (h : Rb w) : Rb (cb w) := by
  refine ⟨by rw [cb_len]; exact h.l1, by rw [cb_len]; exact h.l2, fun c hc => ?_, fun c hc => ?_⟩ <;>
    (obtain ⟨x, hx, rfl⟩ := List.mem_map.mp hc
     have a := h.c0 x (List.mem_reverse.mp hx)
     have b := h.c1 x (List.mem_reverse.mp hx)
     omega)
end
end K45
set_option Elab.async false
set_option linter.all false
set_option maxRecDepth 100000
set_option maxHeartbeats 4000000
namespace K45
open PySem PM
local macro_rules | `(tactic| ac_rfl) => `(tactic| first | ((with_reducible show PM.WE _ _ _ _ _ _); (first | refine PM.WE.v (by rfl) ?_ | refine PM.WE.k ?_ | refine PM.WE.bin ?_ | refine PM.WE.cmp ?_ | refine PM.WE.call ?_ | refine PM.WE.ix ?_ | refine PM.WE.bi ?_ | refine PM.WE.tup ?_ | refine PM.WE.lst ?_ | refine PM.WE.and ?_ | refine PM.WE.or ?_ | refine PM.WE.not ?_ | refine PM.WE.neg ?_ | refine PM.WE.ite ?_ | refine PM.WE.isi ?_ | refine PM.WE.at ?_ | refine PM.WE.chain ?_ | refine PM.WE.sl ?_ | refine PM.WE.rev ?_ | refine PM.WE.bn ?_ | refine PM.WE.mt ?_ | refine PM.WE.mut ?_ | refine PM.WE.cm ?_ | refine PM.WE.lam ?_ | refine PM.WE.dc ?_ | refine PM.WE.mkE ?_ | refine PM.WE.callv (by rfl) ?_)) | ((with_reducible show PM.VW _ _ _); refine PM.VW.nr (by rfl) ?_) | ((with_reducible show PM.GV (PM.isiV _ _) _); (first | refine PM.GV.of (a := true) (by rfl) ?_ | refine PM.GV.of (a := false) (by rfl) ?_)) | ((with_reducible show PM.GV (PM.ixV _ _) _); refine PM.GV.of (by rfl) ?_) | ((with_reducible show PM.GV _ _); (first | (with_reducible refine PM.GV.addI ?_) | (with_reducible refine PM.GV.subI ?_) | (with_reducible refine PM.GV.ltI ?_) | (with_reducible refine PM.GV.leI ?_) | (with_reducible refine PM.GV.gtI ?_) | (with_reducible refine PM.GV.geI ?_) | (with_reducible refine PM.GV.eqI ?_) | (with_reducible refine PM.GV.neI ?_) | (with_reducible refine PM.GV.trB ?_) | (with_reducible refine PM.GV.trI ?_) | (with_reducible refine PM.GV.trN ?_) | (with_reducible refine PM.GV.intI ?_) | (with_reducible refine PM.GV.intB ?_) | (with_reducible refine PM.GV.absI ?_) | (with_reducible refine PM.GV.lenT ?_) | (with_reducible refine PM.GV.lenL ?_) | (with_reducible refine PM.GV.lenS ?_) | (with_reducible refine PM.GV.max2I ?_) | (with_reducible refine PM.GV.min2I ?_) | (with_reducible refine PM.GV.isN ?_) | (with_reducible refine PM.GV.notN ?_) | (with_reducible refine PM.GV.eqSS ?_) | (with_reducible refine PM.GV.neSS ?_) | (with_reducible refine PM.GV.eqS ?_) | (with_reducible refine PM.GV.neS ?_) | (with_reducible refine PM.GV.tupL ?_) | (with_reducible refine PM.GV.tupT ?_) | ((with_reducible refine PM.GV.modI ?_ ?_); (focus (first | assumption | omega))) | ((with_reducible refine PM.GV.fdivI ?_ ?_ ?_); (focus (first | assumption | omega)); (focus bv_omega)) | ((with_reducible refine PM.GV.mulI ?_ ?_ ?_); (focus bv_omega); (focus bv_omega)))) | ((with_reducible show PM.WA _ _ _ _ _ _); (first | refine PM.WA.cons ?_ | refine PM.WA.nil ?_)) | ((with_reducible show PM.WSS _ _ _ _ _ _); (first | refine PM.WSS.cons ?_ | refine PM.WSS.nil ?_)) | ((with_reducible show PM.SQ _ _ _); (first | refine PM.SQ.nx ?_ | refine PM.SQ.rt ?_ | refine PM.SQ.bk ?_ | refine PM.SQ.ct ?_)) | ((with_reducible show PM.WS _ _ _ _ _ _); (first | refine PM.WS.asg ?_ | refine PM.WS.ret ?_ | refine PM.WS.ite ?_ | refine PM.WS.ex ?_ | refine PM.WS.rais ?_ | refine PM.WS.seti ?_ | refine PM.WS.augA (by rfl) ?_ | refine PM.WS.augS (by rfl) ?_ | refine PM.WS.retn ?_ | refine PM.WS.pass ?_ | refine PM.WS.brk ?_ | refine PM.WS.cnt ?_ | refine PM.WS.fo ?_ | refine PM.WS.wh ?_ | refine PM.WS.tryc ?_)) | ((with_reducible show PM.TG _ _ _ _); (first | refine PM.TG.n (by rfl) ?_ | refine PM.TG.t ?_)) | ((with_reducible show PM.WT _ _ _ _ _ _); (first | refine PM.WT.cmp ?_ | refine PM.WT.and ?_ | refine PM.WT.or ?_ | refine PM.WT.not ?_ | refine PM.WT.ite ?_ | refine PM.WT.isi ?_ | refine PM.WT.pl (by rfl) ?_)) | ((with_reducible show PM.VWs _ _ _); (first | refine PM.VWs.cons ?_ | refine PM.VWs.nil ?_)) | ((with_reducible show PM.TGs _ _ _ _); (first | refine PM.TGs.cons ?_ | refine PM.TGs.nil ?_)) | refine PM.IsI.mk' ?_ | refine PM.IsB.mk' ?_ | refine PM.IsL.mk' ?_ | refine PM.P2.mk' ?_ | refine PM.IsE.mk' ?_ | refine PM.BR.T ?_ | refine PM.BR.F ?_ | refine PM.BR.n ?_ | ((with_reducible show PM.LP _ _ _ _); (first | refine PM.LP.nx ?_ | refine PM.LP.rt ?_ | refine PM.LP.ct ?_ | refine PM.LP.bk ?_)) | ((with_reducible show PM.PA _ _ _); refine PM.PA.mk (by rfl) ?_) | ((with_reducible show PM.WI _ _ _ _ _ _); (first | refine PM.WI.rng1 ?_ | refine PM.WI.rng2 ?_ | refine PM.WI.rng3 ?_ | refine PM.WI.seq ?_ | refine PM.WI.enum ?_ | refine PM.WI.zip ?_)) | ((with_reducible show PM.WO _ _ _ _ _ _); (first | refine PM.WO.no ?_ | refine PM.WO.so ?_)) | refine PM.EN.l ?_ | refine PM.EN.t ?_ | refine PM.ZP.l ?_ | refine PM.ZP.t ?_)
local macro_rules | `(tactic| bv_omega) => `(tactic| first | assumption | decide +kernel | (apply PM.SB.sz; (focus (repeat' (first | assumption | (apply PM.SB.le <;> omega) | apply PM.SB.mul | apply PM.SB.add | apply PM.SB.sub | apply PM.SB.neg))); decide))
local macro_rules | `(tactic| nofun) => `(tactic| repeat ((fail_if_success (with_reducible show PM.WSS _ (PM.Ss.cons _ _) _ _ _ _)); ac_rfl))
section
variable {Q : Cb t.G} {d : Nat} {Φ : List PM.Env} {st : Store} {K : PV → Store → Prop} {X : Nat → PV → Store → Prop}
/-- how many of so many are unlike -/
def un (a b : List Int) (s wide : Nat) : Nat := ((List.range wide).filter fun i => !decide (xn a i = xn b (i + s))).length
theorem un_le {a b : List Int} {s wide : Nat} : un a b s wide ≤ wide := by
  unfold un
  exact Nat.le_trans (List.length_filter_le ..) (by simp)
theorem least_rib {w : List Int} (hw : Rb w) (k : ∀ R : Nat, R ≤ w.length → Lst (PW w) R → K (iT (w.take R)) st) : WR (Q.cf (d + 5) 7 [iT w] Φ st) K X := by
  refine C7 ?_
  unfold f7b
  repeat ac_rfl
  refine look_rib hw ?_
  repeat ac_rfl
  refine told_least (d := d + 3) hw fun R h1 h2 => ?_
  repeat ac_rfl
  exact FK.rt0 (nor_iT _) (k R h1 h2)
theorem cb_eq (w : List Int) : (.tup (w.reverse.map fun s => .int (1 - s)) : PV) = iT (cb w) := by
  unfold cb iT
  rw [List.map_map]; rfl
theorem back_of {w : List Int} (hw : Rb w) (k : K (iT (cb w)) st) : WR (Q.cf (d + 5) 8 [iT w] Φ st) K X := by
  refine C8 ?_
  unfold f8b
  repeat ac_rfl
  refine look_rib hw ?_
  repeat ac_rfl
  refine GV.revI ?_
  refine GV.of (a := .fix (w.reverse.map .int)) rfl ?_
  refine CM.map w.reverse PV.int (fun s => .int (1 - s)) rfl (fun a ha => ?_) ?_
  · refine CE.al ?_
    repeat ac_rfl
    exact ⟨rfl, rfl⟩
  repeat ac_rfl
  rw [cb_eq]
  exact FK.rt0 (nor_iT _) k
theorem nors_maps {γ : Type} {l : List γ} {f : γ → List Int} : nors (l.map fun a => iT (f a)) = true := by
  induction l with
  | nil => rfl
  | cons a l ih => simp only [List.map_cons, nors, Bool.and_eq_true]; exact ⟨nor_iT _, ih⟩
theorem told_moves {m : List Int} (hm : m.length ≤ 24) (k : K (.lst ((List.range m.length).map fun a => iT (rotN m a))) st) : WR (Q.cf (d + 1) 10 [iT m] Φ st) K X := by
  have hl := lenM m
  refine C10 ?_
  unfold f10b
  repeat ac_rfl
  rw [hl]
  refine ⟨⟨inR_by (by omega) (by omega), by unfold SZ; omega⟩, ?_⟩
  refine CM.map (List.range m.length) (fun a => .int (0 + (a : Int))) (fun a => iT (rotN m a)) (by rw [Int.toNat_natCast]; rfl) (fun a ha => ?_) ?_
  · have ha := List.mem_range.mp ha
    refine CE.al ?_
    repeat ac_rfl
    rw [Int.zero_add]
    refine GV.slD ?_
    repeat ac_rfl
    refine GV.slT ?_
    repeat ac_rfl
    refine GV.addI' (by rw [List.length_drop, List.length_take]; unfold SZ; omega) ?_
    exact ⟨rfl, rfl⟩
  repeat ac_rfl
  exact FK.rt0 nors_maps k
theorem is_two_faced {w : List Int} (hw : Rb w) (k : ∀ R : Nat, R ≤ w.length → Lst (PW w) R → K (.bl (sameN (cb (w.take R)) (w.take R))) st) : WR (Q.cf (d + 5) 9 [iT w] Φ st) K X := by
  have h2 := hw.l2
  refine C9 ?_
  unfold f9b
  repeat ac_rfl
  refine look_rib hw ?_
  repeat ac_rfl
  refine told_least (d := d + 3) hw fun R hR hL => ?_
  have kk := k R hR hL
  have hm : (w.take R).length = R := by rw [List.length_take]; omega
  generalize w.take R = m at hm kk ⊢
  repeat ac_rfl
  refine GV.revI ?_
  refine GV.of (a := .fix (m.reverse.map .int)) rfl ?_
  refine CM.map m.reverse PV.int (fun s => .int (1 - s)) rfl (fun a ha => ?_) ?_
  · refine CE.al ?_
    repeat ac_rfl
    exact ⟨rfl, rfl⟩
  repeat ac_rfl
  rw [cb_eq]
  refine told_moves (d := d + 3) (by rw [cb_len]; omega) ?_
  repeat ac_rfl
  refine GV.inI ?_
  repeat ac_rfl
  exact FK.rt0 rfl kk
theorem are_same {a b : List Int} (ha : Rb a) (hb : Rb b) (k : ∀ R S : Nat, R ≤ a.length → Lst (PW a) R → S ≤ b.length → Lst (PW b) S → K (.bl (sameN (a.take R) (b.take S))) st) : WR (Q.cf (d + 5) 12 [iT a, iT b] Φ st) K X := by
  have h2 := ha.l2
  refine C12 ?_
  unfold f12b
  repeat ac_rfl
  refine look_rib ha ?_
  repeat ac_rfl
  refine look_rib hb ?_
  repeat ac_rfl
  refine told_least (d := d + 3) hb fun S hS hM => ?_
  repeat ac_rfl
  refine told_least (d := d + 3) ha fun R hR hL => ?_
  repeat ac_rfl
  refine told_moves (d := d + 3) (by rw [List.length_take]; omega) ?_
  repeat ac_rfl
  refine GV.inI ?_
  repeat ac_rfl
  exact FK.rt0 rfl (k R S hR hL hS hM)
theorem told_unlike {a b : List Int} {s wide : Nat} (ha : Rb a) (hb : Rb b) (hw : wide ≤ 600) (hs : s ≤ 600) (k : K (.int (un a b s wide)) st) : WR (Q.cf (d + 1) 13 [iT a, iT b, .int wide, .int s] Φ st) K X := by
  have a1 := ha.l1; have a2 := ha.l2; have b1 := hb.l1; have b2 := hb.l2
  have la := lenM a; have lb := lenM b
  refine C13 ?_
  unfold f13b
  repeat ac_rfl
  refine ⟨⟨inR_by (by omega) (by omega), by unfold SZ; omega⟩, ?_⟩
  refine CM.pure (List.range wide) (fun i => .int (0 + (i : Int))) (fun i => if (!decide (xn a i = xn b (i + s))) = true then some (.int (0 + (i : Int))) else none) (by rw [Int.toNat_natCast]; rfl) (fun i hi => ?_) ?_
  · have hi := List.mem_range.mp hi
    refine CE.iff' ?_
    repeat ac_rfl
    refine GV.of (ix_xn (w := a) (by omega) i (by omega)) ?_
    repeat ac_rfl
    refine GV.of (ix_xn (w := b) (by omega) (i + s) (by omega)) ?_
    repeat ac_rfl
    refine BR.d (fun h => ?_) fun h => ?_
    · repeat ac_rfl
      rw [decide_eq_true h]
      exact ⟨rfl, rfl⟩
    · repeat ac_rfl
      rw [decide_eq_false h]
      exact ⟨rfl, rfl⟩
  rw [filtMap]
  repeat ac_rfl
  rw [List.length_map]
  exact FK.rt0 rfl k
theorem unlike_stitches {a b : List Int} {s wide : Nat} (ha : Rb a) (hb : Rb b) (hw : wide ≤ 600) (hs : s ≤ 600) (k : K (.int (un a b s wide)) st) : WR (Q.cf (d + 6) 14 [iT a, iT b, .int wide, .int s] Φ st) K X := by
  refine C14 ?_
  unfold f14b
  repeat ac_rfl
  refine look_ribs ha hb hw ?_
  repeat ac_rfl
  refine is_int rfl ?_
  rw [isInt_of (by omega) (by omega)]
  repeat ac_rfl
  refine told_unlike (d := d + 4) ha hb hw hs ?_
  repeat ac_rfl
  exact FK.rt0 rfl k
theorem minP_some {l : List (Int × Int)} (h : l ≠ []) : ∃ m, minP l = some m := by
  cases l with
  | nil => exact absurd rfl h
  | cons a l => exact ⟨_, rfl⟩
/-- as few as can be -/
def Few (a b : List Int) (wide few : Nat) : Prop := (∃ s, s < b.length ∧ un a b s wide = few) ∧ ∀ s, s < b.length → few ≤ un a b s wide
theorem Few.eq {a b : List Int} {wide f g : Nat} (h : Few a b wide f) (h' : Few a b wide g) : f = g := by
  obtain ⟨⟨s, s1, s2⟩, h⟩ := h
  obtain ⟨⟨u, u1, u2⟩, h'⟩ := h'
  have := h u u1; have := h' s s1
  omega
theorem told_best {a b : List Int} {wide : Nat} (ha : Rb a) (hb : Rb b) (hw : wide ≤ 600) (k : ∀ s : Nat, s < b.length → Few a b wide (un a b s wide) → K (.tup [.int (un a b s wide), .int s]) st) : WR (Q.cf (d + 2) 15 [iT a, iT b, .int wide] Φ st) K X := by
  have b1 := hb.l1; have b2 := hb.l2
  have lb := lenM b
  refine C15 ?_
  unfold f15b
  repeat ac_rfl
  rw [lb]
  refine ⟨⟨inR_by (by omega) (by omega), by unfold SZ; omega⟩, ?_⟩
  refine CM.map (List.range b.length) (fun i => .int (0 + (i : Int))) (fun i => prV ((un a b i wide : Int), (i : Int))) (by rw [Int.toNat_natCast]; rfl) (fun i hi => ?_) ?_
  · have hi := List.mem_range.mp hi
    refine CE.al ?_
    repeat ac_rfl
    rw [Int.zero_add]
    refine told_unlike (d := d) ha hb hw (by omega) ?_
    repeat ac_rfl
    exact ⟨rfl, rfl⟩
  repeat ac_rfl
  have hne : (List.range b.length).map (fun i : Nat => (((un a b i wide : Nat) : Int), (i : Int))) ≠ [] := by
    intro e
    have := congrArg List.length e
    simp at this
    rw [this] at b1
    simp at b1
  obtain ⟨m, hm⟩ := minP_some hne
  obtain ⟨h1, h2⟩ := minP_spec hm
  obtain ⟨s, hs, rfl⟩ := List.mem_map.mp h1
  have hs := List.mem_range.mp hs
  have e : (List.range b.length).map (fun i => prV ((un a b i wide : Int), (i : Int))) = ((List.range b.length).map fun i : Nat => (((un a b i wide : Nat) : Int), (i : Int))).map prV := by rw [List.map_map]; rfl
  rw [e]
  refine GV.minP hm ?_
  refine SQ.rt ?_
  refine FK.rt0 rfl (k s hs ⟨⟨s, hs, rfl⟩, fun u hu => ?_⟩)
  have := h2 _ (List.mem_map.mpr ⟨u, List.mem_range.mpr hu, rfl⟩)
  unfold leP at this
  simp only at this
  omega
theorem flows_on {a b : List Int} {wide : Nat} (ha : Rb a) (hb : Rb b) (hw : wide ≤ 600) (k : ∀ s : Nat, s < b.length → Few a b wide (un a b s wide) → K (.tup [.str "shift", .int s, .int (un a b s wide)]) st) : WR (Q.cf (d + 6) 16 [iT a, iT b, .int wide] Φ st) K X := by
  refine C16 ?_
  unfold f16b
  repeat ac_rfl
  refine look_ribs ha hb hw ?_
  repeat ac_rfl
  refine told_best (d := d + 3) ha hb hw fun s h1 h2 => ?_
  repeat ac_rfl
  exact FK.rt0 rfl (k s h1 h2)
theorem first_unlike {a b : List Int} (ha : Rb a) (hb : Rb b) (k1 : ∀ i : Nat, i < a.length + b.length → xn a i ≠ xn b i → (∀ j, j < i → xn a j = xn b j) → K (.int i) st) (k2 : (∀ i, xn a i = xn b i) → K .non st) : WR (Q.cf (d + 5) 18 [iT a, iT b] Φ st) K X := by
  have a1 := ha.l1; have a2 := ha.l2; have b1 := hb.l1; have b2 := hb.l2
  have la := lenM a; have lb := lenM b
  refine C18 ?_
  unfold f18b
  repeat ac_rfl
  refine look_rib ha ?_
  repeat ac_rfl
  refine look_rib hb ?_
  repeat ac_rfl
  refine ⟨⟨inR_by (by omega) (by omega), by unfold SZ; omega⟩, ?_⟩
  have en : (((a.map PV.int).length : Int) + ((b.map PV.int).length : Int)).toNat = a.length + b.length := by omega
  rw [en]
  refine WL.ix (fun j ρ st' => st' = st ∧ (∃ x, ρ = [some (iT a), some (iT b), x]) ∧ ∀ q, q < j → xn a q = xn b q) ⟨rfl, ⟨none, rfl⟩, fun q h => by omega⟩ ?_ ?_
  · rintro j hj ρ st' ⟨rfl, ⟨x, rfl⟩, hno⟩
    rw [rangeL_len] at hj
    rw [rangeL_at, Int.zero_add]
    repeat ac_rfl
    refine GV.of (ix_xn (w := a) (by omega) j rfl) ?_
    repeat ac_rfl
    refine GV.of (ix_xn (w := b) (by omega) j rfl) ?_
    repeat ac_rfl
    refine BR.d (fun h => ?_) fun h => ?_
    · repeat ac_rfl
      refine ⟨rfl, ⟨_, rfl⟩, fun q hq => ?_⟩
      by_cases e : q = j
      · rw [e]; exact h
      · exact hno q (by omega)
    · repeat ac_rfl
      exact FK.rt0 rfl (k1 j (by omega) h hno)
  · rintro ρ st' ⟨rfl, ⟨x, rfl⟩, hno⟩
    rw [rangeL_len] at hno
    repeat ac_rfl
    exact FK.rt0 rfl (k2 (alike hno))
theorem fits_round {w : List Int} {many : Nat} (hw : Rb w) (m1 : 1 ≤ many) (m2 : many ≤ 600) (k : ∀ R : Nat, R ≤ w.length → Lst (PW w) R → K (.bl (decide ((many : Int) % (R : Int) = 0))) st) : WR (Q.cf (d + 5) 19 [iT w, .int many] Φ st) K X := by
  refine C19 ?_
  unfold f19b
  repeat ac_rfl
  refine look_rib hw ?_
  repeat ac_rfl
  refine is_int rfl ?_
  rw [isInt_of (by omega) (by omega)]
  repeat ac_rfl
  refine told_least (d := d + 3) hw fun R hR hL => ?_
  have h1 := hL.pos
  have el : ((w.take R).map PV.int).length = R := by rw [lenM, List.length_take]; omega
  repeat ac_rfl
  rw [el]
  repeat ac_rfl
  exact FK.rt0 rfl (k R hR hL)
theorem nearest_round {w : List Int} {many : Nat} (hw : Rb w) (m1 : 1 ≤ many) (m2 : many ≤ 600) (k : ∀ R : Nat, R ≤ w.length → Lst (PW w) R → K (.int (nearN R many)) st) : WR (Q.cf (d + 5) 20 [iT w, .int many] Φ st) K X := by
  have l2 := hw.l2
  refine C20 ?_
  unfold f20b
  repeat ac_rfl
  refine look_rib hw ?_
  repeat ac_rfl
  refine is_int rfl ?_
  rw [isInt_of (by omega) (by omega)]
  repeat ac_rfl
  refine told_least (d := d + 3) hw fun R hR hL => ?_
  have h1 := hL.pos
  have el : ((w.take R).map PV.int).length = R := by rw [lenM, List.length_take]; omega
  have e1 : (many : Int) / (R : Int) = ((many / R : Nat) : Int) := (Int.natCast_ediv ..).symm
  have q1 : many / R ≤ many := Nat.div_le_self ..
  have e2 : ((many / R : Nat) : Int) * (R : Int) = ((many / R * R : Nat) : Int) := (Int.natCast_mul ..).symm
  have q2 : many / R * R ≤ many := Nat.div_mul_le_self ..
  have kk := k R hR hL
  unfold nearN at kk
  repeat ac_rfl
  rw [el]
  repeat ac_rfl
  rw [e1]
  generalize many / R = q at q1 e2 q2 kk ⊢
  repeat ac_rfl
  rw [e2]
  generalize q * R = low at q2 kk ⊢
  nofun
  refine BR.d (fun c1 => ?_) fun c1 => ?_
  · repeat ac_rfl
    refine BR.d (fun c2 => ?_) fun c2 => ?_
    · rw [if_pos ⟨by omega, by omega⟩] at kk
      repeat ac_rfl
      exact FK.rt0 rfl kk
    · rw [if_neg (by omega)] at kk
      repeat ac_rfl
      exact FK.rt0 rfl (by rw [show (low : Int) + (R : Int) = ((low + R : Nat) : Int) by omega]; exact kk)
  · rw [if_neg (by omega)] at kk
    repeat ac_rfl
    exact FK.rt0 rfl (by rw [show (low : Int) + (R : Int) = ((low + R : Nat) : Int) by omega]; exact kk)
def knits (w : List Int) (wide : Nat) : Nat := ((List.range wide).filter fun i => decide (xn w i = 1)).length
theorem knits_le {w : List Int} {wide : Nat} : knits w wide ≤ wide := by
  unfold knits
  exact Nat.le_trans (List.length_filter_le ..) (by simp)
theorem columns_of {w : List Int} {wide : Nat} (hw : Rb w) (m2 : wide ≤ 600) (k : K (.tup [.int (knits w wide), .int ((wide : Int) - (knits w wide : Int))]) st) : WR (Q.cf (d + 5) 21 [iT w, .int wide] Φ st) K X := by
  have l1 := hw.l1; have l2 := hw.l2
  have hl := lenM w
  refine C21 ?_
  unfold f21b
  repeat ac_rfl
  refine look_rib hw ?_
  repeat ac_rfl
  refine is_int rfl ?_
  rw [isInt_of (by omega) (by omega)]
  repeat ac_rfl
  refine ⟨⟨inR_by (by omega) (by omega), by unfold SZ; omega⟩, ?_⟩
  refine CM.pure (List.range wide) (fun i => .int (0 + (i : Int))) (fun i => if (decide (xn w i = 1)) = true then some (.int (0 + (i : Int))) else none) (by rw [Int.toNat_natCast]; rfl) (fun i hi => ?_) ?_
  · have hi := List.mem_range.mp hi
    refine CE.iff' ?_
    repeat ac_rfl
    refine GV.of (ix_xn (w := w) (by omega) i (by omega)) ?_
    repeat ac_rfl
    refine BR.d (fun h => ?_) fun h => ?_
    · repeat ac_rfl
      rw [decide_eq_true h]
      exact ⟨rfl, rfl⟩
    · repeat ac_rfl
      rw [decide_eq_false h]
      exact ⟨rfl, rfl⟩
  rw [filtMap]
  repeat ac_rfl
  rw [List.length_map]
  repeat ac_rfl
  exact FK.rt0 rfl k
theorem plain_rib {x y : Nat} (hx : x ≤ 12) (h0 : 1 ≤ y) (hy : y ≤ 12) (k : K (iT ((List.replicate x [(1 : Int)]).flatten ++ (List.replicate y [(0 : Int)]).flatten)) st) : WR (Q.cf (d + 2) 11 [.int x, .int y] Φ st) K X := by
  refine C11 ?_
  unfold f11b
  refine WSS.cons ?_
  refine WS.fo (WI.seq ?_)
  repeat ac_rfl
  refine GV.of (a := .fix [.int x, .int y]) rfl ?_
  refine WL.cons ?_
  refine TG.n rfl ?_
  repeat ac_rfl
  refine is_int rfl ?_
  rw [isInt_of (by omega) (by show (x : Int) ≤ 24 / 2; omega)]
  repeat ac_rfl
  refine WL.cons ?_
  refine TG.n rfl ?_
  repeat ac_rfl
  refine is_int rfl ?_
  rw [isInt_of (by omega) (by show (y : Int) ≤ 24 / 2; omega)]
  repeat ac_rfl
  refine WL.nil ?_
  repeat ac_rfl
  refine BR.d (fun h => absurd h (by omega)) fun _ => ?_
  repeat ac_rfl
  refine GV.mulTI (a := [1]) (by simp; unfold SZ; omega) (by unfold SZ; omega) ?_
  repeat ac_rfl
  refine GV.mulTI (a := [0]) (by simp; unfold SZ; omega) (by unfold SZ; omega) ?_
  repeat ac_rfl
  refine GV.addI' (by rw [rep_len, rep_len]; simp; unfold SZ; omega) ?_
  repeat ac_rfl
  exact FK.rt0 (nor_iT _) k
end
end K45
set_option Elab.async false
set_option linter.all false
set_option maxRecDepth 100000
set_option maxHeartbeats 4000000
namespace K45
open PySem PM
local macro_rules | `(tactic| ac_rfl) => `(tactic| first | ((with_reducible show PM.WE _ _ _ _ _ _); (first | refine PM.WE.v (by rfl) ?_ | refine PM.WE.k ?_ | refine PM.WE.bin ?_ | refine PM.WE.cmp ?_ | refine PM.WE.call ?_ | refine PM.WE.ix ?_ | refine PM.WE.bi ?_ | refine PM.WE.tup ?_ | refine PM.WE.lst ?_ | refine PM.WE.and ?_ | refine PM.WE.or ?_ | refine PM.WE.not ?_ | refine PM.WE.neg ?_ | refine PM.WE.ite ?_ | refine PM.WE.isi ?_ | refine PM.WE.at ?_ | refine PM.WE.chain ?_ | refine PM.WE.sl ?_ | refine PM.WE.rev ?_ | refine PM.WE.bn ?_ | refine PM.WE.mt ?_ | refine PM.WE.mut ?_ | refine PM.WE.cm ?_ | refine PM.WE.lam ?_ | refine PM.WE.dc ?_ | refine PM.WE.mkE ?_ | refine PM.WE.callv (by rfl) ?_)) | ((with_reducible show PM.VW _ _ _); refine PM.VW.nr (by rfl) ?_) | ((with_reducible show PM.GV (PM.isiV _ _) _); (first | refine PM.GV.of (a := true) (by rfl) ?_ | refine PM.GV.of (a := false) (by rfl) ?_)) | ((with_reducible show PM.GV (PM.ixV _ _) _); refine PM.GV.of (by rfl) ?_) | ((with_reducible show PM.GV _ _); (first | (with_reducible refine PM.GV.addI ?_) | (with_reducible refine PM.GV.subI ?_) | (with_reducible refine PM.GV.ltI ?_) | (with_reducible refine PM.GV.leI ?_) | (with_reducible refine PM.GV.gtI ?_) | (with_reducible refine PM.GV.geI ?_) | (with_reducible refine PM.GV.eqI ?_) | (with_reducible refine PM.GV.neI ?_) | (with_reducible refine PM.GV.trB ?_) | (with_reducible refine PM.GV.trI ?_) | (with_reducible refine PM.GV.trN ?_) | (with_reducible refine PM.GV.intI ?_) | (with_reducible refine PM.GV.intB ?_) | (with_reducible refine PM.GV.absI ?_) | (with_reducible refine PM.GV.lenT ?_) | (with_reducible refine PM.GV.lenL ?_) | (with_reducible refine PM.GV.lenS ?_) | (with_reducible refine PM.GV.max2I ?_) | (with_reducible refine PM.GV.min2I ?_) | (with_reducible refine PM.GV.isN ?_) | (with_reducible refine PM.GV.notN ?_) | (with_reducible refine PM.GV.eqSS ?_) | (with_reducible refine PM.GV.neSS ?_) | (with_reducible refine PM.GV.eqS ?_) | (with_reducible refine PM.GV.neS ?_) | (with_reducible refine PM.GV.tupL ?_) | (with_reducible refine PM.GV.tupT ?_) | ((with_reducible refine PM.GV.modI ?_ ?_); (focus (first | assumption | omega))) | ((with_reducible refine PM.GV.fdivI ?_ ?_ ?_); (focus (first | assumption | omega)); (focus bv_omega)) | ((with_reducible refine PM.GV.mulI ?_ ?_ ?_); (focus bv_omega); (focus bv_omega)))) | ((with_reducible show PM.WA _ _ _ _ _ _); (first | refine PM.WA.cons ?_ | refine PM.WA.nil ?_)) | ((with_reducible show PM.WSS _ _ _ _ _ _); (first | refine PM.WSS.cons ?_ | refine PM.WSS.nil ?_)) | ((with_reducible show PM.SQ _ _ _); (first | refine PM.SQ.nx ?_ | refine PM.SQ.rt ?_ | refine PM.SQ.bk ?_ | refine PM.SQ.ct ?_)) | ((with_reducible show PM.WS _ _ _ _ _ _); (first | refine PM.WS.asg ?_ | refine PM.WS.ret ?_ | refine PM.WS.ite ?_ | refine PM.WS.ex ?_ | refine PM.WS.rais ?_ | refine PM.WS.seti ?_ | refine PM.WS.augA (by rfl) ?_ | refine PM.WS.augS (by rfl) ?_ | refine PM.WS.retn ?_ | refine PM.WS.pass ?_ | refine PM.WS.brk ?_ | refine PM.WS.cnt ?_ | refine PM.WS.fo ?_ | refine PM.WS.wh ?_ | refine PM.WS.tryc ?_)) | ((with_reducible show PM.TG _ _ _ _); (first | refine PM.TG.n (by rfl) ?_ | refine PM.TG.t ?_)) | ((with_reducible show PM.WT _ _ _ _ _ _); (first | refine PM.WT.cmp ?_ | refine PM.WT.and ?_ | refine PM.WT.or ?_ | refine PM.WT.not ?_ | refine PM.WT.ite ?_ | refine PM.WT.isi ?_ | refine PM.WT.pl (by rfl) ?_)) | ((with_reducible show PM.VWs _ _ _); (first | refine PM.VWs.cons ?_ | refine PM.VWs.nil ?_)) | ((with_reducible show PM.TGs _ _ _ _); (first | refine PM.TGs.cons ?_ | refine PM.TGs.nil ?_)) | refine PM.IsI.mk' ?_ | refine PM.IsB.mk' ?_ | refine PM.IsL.mk' ?_ | refine PM.P2.mk' ?_ | refine PM.IsE.mk' ?_ | refine PM.BR.T ?_ | refine PM.BR.F ?_ | refine PM.BR.n ?_ | ((with_reducible show PM.LP _ _ _ _); (first | refine PM.LP.nx ?_ | refine PM.LP.rt ?_ | refine PM.LP.ct ?_ | refine PM.LP.bk ?_)) | ((with_reducible show PM.PA _ _ _); refine PM.PA.mk (by rfl) ?_) | ((with_reducible show PM.WI _ _ _ _ _ _); (first | refine PM.WI.rng1 ?_ | refine PM.WI.rng2 ?_ | refine PM.WI.rng3 ?_ | refine PM.WI.seq ?_ | refine PM.WI.enum ?_ | refine PM.WI.zip ?_)) | ((with_reducible show PM.WO _ _ _ _ _ _); (first | refine PM.WO.no ?_ | refine PM.WO.so ?_)) | refine PM.EN.l ?_ | refine PM.EN.t ?_ | refine PM.ZP.l ?_ | refine PM.ZP.t ?_)
local macro_rules | `(tactic| bv_omega) => `(tactic| first | assumption | decide +kernel | (apply PM.SB.sz; (focus (repeat' (first | assumption | (apply PM.SB.le <;> omega) | apply PM.SB.mul | apply PM.SB.add | apply PM.SB.sub | apply PM.SB.neg))); decide))
local macro_rules | `(tactic| nofun) => `(tactic| repeat ((fail_if_success (with_reducible show PM.WSS _ (PM.Ss.cons _ _) _ _ _ _)); ac_rfl))
section
variable {Q : Cb t.G} {d : Nat} {Φ : List PM.Env} {st : Store} {K : PV → Store → Prop} {X : Nat → PV → Store → Prop}
/-! ### told values -/
def told3 (v : PV) : Bool := match v with | .tup (a :: _ :: _ :: []) => isStr a | _ => false
theorem is_told {v : PV} (hv : dpv v = true) (k : K (.bl (told3 v)) st) : WR (Q.cf (d + 1) 2 [v, .tup [.int (2 + 1)]] Φ st) K X := by
  refine C2 ?_
  unfold f2b
  repeat ac_rfl
  cases v with
  | tup xs =>
    have hx := dpvs_iff.mp (show dpvs xs = true by simpa [dpv] using hv)
    repeat ac_rfl
    refine GV.of isin1 ?_
    match xs, hx, k with
    | [], _, k =>
      refine IsB.mk' (BR.fa rfl ?_)
      repeat ac_rfl
      exact FK.rt0 rfl k
    | [a], _, k =>
      refine IsB.mk' (BR.fa rfl ?_)
      repeat ac_rfl
      exact FK.rt0 rfl k
    | [a, b], _, k =>
      refine IsB.mk' (BR.fa rfl ?_)
      repeat ac_rfl
      exact FK.rt0 rfl k
    | [a, b, e], hx, k =>
      refine IsB.mk' (BR.tr rfl ?_)
      repeat ac_rfl
      refine VW.nr (dpv_nr (hx a (by simp))) (gv_isStr (hx a (by simp)) ?_)
      repeat ac_rfl
      exact FK.rt0 rfl k
    | a :: b :: e :: g :: r, _, k =>
      refine IsB.mk' (BR.fa (decide_eq_false (by simp; omega)) ?_)
      repeat ac_rfl
      exact FK.rt0 rfl k
  | ref n => cases hv
  | clo l lv => cases hv
  | exc c v => cases hv
  | scr ns => cases hv
  | set xs => cases hv
  | mkd c n v => cases hv
  | _ =>
    repeat ac_rfl
    exact FK.rt0 rfl k
def dueB (a b : List Int) (wide few : Nat) (v : PV) : Bool := match v with
  | .tup (.str s :: p :: q :: []) => decide (s = "shift") && (isInt p 0 ((b.length : Int) - 1) && (isInt q few few && decide (un a b (ivl p).toNat wide = few)))
  | _ => false
theorem due3 {a b : List Int} {wide few : Nat} {s : Str} {p q : PV} : dueB a b wide few (.tup [.str s, p, q]) = (decide (s = "shift") && (isInt p 0 ((b.length : Int) - 1) && (isInt q few few && decide (un a b (ivl p).toNat wide = few)))) := rfl
theorem told_no {v : PV} {a b : List Int} {wide few : Nat} (h : told3 v = false) : dueB a b wide few v = false := by
  cases v with
  | tup xs =>
    match xs, h with
    | [], _ => rfl
    | [a], _ => cases a <;> rfl
    | [a, b], _ => cases a <;> rfl
    | [a, b, e], h => cases a <;> first | rfl | cases h
    | a :: b :: e :: g :: r, _ => cases a <;> rfl
  | _ => rfl
theorem told_yes {v : PV} (h : told3 v = true) : ∃ s p q, v = .tup [.str s, p, q] := by
  cases v with
  | tup xs =>
    match xs, h with
    | [a, b, e], h =>
      cases a with
      | str s => exact ⟨s, b, e, rfl⟩
      | _ => cases h
  | _ => cases h
theorem shows_flows_on {a b : List Int} {wide few : Nat} {v : PV} (ha : Rb a) (hb : Rb b) (hw : wide ≤ 600) (hf : Few a b wide few) (hv : dpv v = true) (k : K (.bl (dueB a b wide few v)) st) : WR (Q.cf (d + 6) 17 [iT a, iT b, .int wide, v] Φ st) K X := by
  have lb := lenM b
  have b1 := hb.l1; have b2 := hb.l2
  refine C17 ?_
  unfold f17b
  repeat ac_rfl
  refine look_ribs ha hb hw ?_
  repeat ac_rfl
  refine is_told (d := d + 4) hv ?_
  cases ht : told3 v with
  | false =>
    rw [told_no ht] at k
    repeat ac_rfl
    exact FK.rt0 rfl k
  | true =>
    obtain ⟨s, p, q, rfl⟩ := told_yes ht
    have hda := dpvs_iff.mp (show dpvs [.str s, p, q] = true by simpa [dpv] using hv)
    have hp := dpv_cases (hda p (by simp))
    have hq := dpv_cases (hda q (by simp))
    rw [due3] at k
    repeat ac_rfl
    refine BR.d (fun hs => ?_) fun hs => ?_
    · rw [decide_eq_true hs, Bool.true_and] at k
      repeat ac_rfl
      refine is_int hp.2.1 ?_
      rw [lb]
      cases hA : isInt p 0 ((b.length : Int) - 1) with
      | false =>
        rw [hA] at k
        repeat ac_rfl
        exact FK.rt0 rfl k
      | true =>
        rw [hA, Bool.true_and] at k
        obtain ⟨i, rfl, i0, i1⟩ := isInt_elim hA
        obtain ⟨n, rfl⟩ : ∃ n : Nat, i = (n : Int) := ⟨i.toNat, by omega⟩
        have en : (ivl (.int (n : Int))).toNat = n := Int.toNat_natCast n
        rw [en] at k
        repeat ac_rfl
        refine told_best (d := d + 3) ha hb hw fun u _ hu => ?_
        rw [hu.eq hf]
        repeat ac_rfl
        refine is_int hq.2.1 ?_
        cases hB : isInt q few few with
        | false =>
          rw [hB] at k
          repeat ac_rfl
          exact FK.rt0 rfl k
        | true =>
          rw [hB, Bool.true_and] at k
          repeat ac_rfl
          refine told_unlike (d := d + 4) ha hb hw (by omega) ?_
          repeat ac_rfl
          rw [show decide (un a b n wide = few) = decide ((un a b n wide : Int) = (few : Int)) from decide_eq_decide.mpr (by omega)] at k
          exact FK.rt0 rfl k
    · rw [decide_eq_false hs] at k
      repeat ac_rfl
      exact FK.rt0 rfl k
/-! ### the law's own -/
theorem take_long {w : List Int} (h : 0 < w.length) {n j : Nat} (hj : n ≤ w.length * j) : (List.replicate j w).flatten.take n = (List.range n).map (xn w) := by
  apply List.ext_getElem?
  intro i
  by_cases hi : i < n
  · rw [List.getElem?_take_of_lt hi, rep_at h j i (by omega), List.getElem?_map, List.getElem?_range hi]; rfl
  · rw [List.getElem?_eq_none (by rw [List.length_take]; omega), List.getElem?_eq_none (by simp; omega)]
theorem law_long {w : List Int} {n : Nat} (hw : Rb w) (hn : n ≤ 200) (hW : 100000 ≤ Q.W) (k : K (iT ((List.range n).map (xn w))) st) : WR (Q.cf (d + 1) 31 [iT w, .int n] Φ st) K X := by
  have l1 := hw.l1; have l2 := hw.l2
  refine C31 ?_
  unfold f31b
  repeat ac_rfl
  refine WW.inv (fun m ρ st' => st' = st ∧ ∃ j : Nat, ρ = [some (iT w), some (.int n), some (iT (List.replicate j w).flatten)] ∧ m = n - j ∧ w.length * j ≤ n + 24) (m := n) (show n < Q.W by omega) ⟨rfl, 0, rfl, rfl, by omega⟩ ?_
  rintro m ρ st' ⟨rfl, j, rfl, rfl, hj⟩
  have hl : ((List.replicate j w).flatten.map PV.int).length = w.length * j := by rw [lenM, rep_len]
  repeat ac_rfl
  rw [hl]
  refine BR.d (fun h => ?_) fun h => ?_
  · have hjn : j ≤ w.length * j := Nat.le_mul_of_pos_left _ l1
    repeat ac_rfl
    refine GV.addI' (by rw [rep_len]; unfold SZ; omega) ?_
    repeat ac_rfl
    refine ⟨n - (j + 1), by omega, rfl, j + 1, ?_, rfl, by rw [Nat.mul_add, Nat.mul_one]; omega⟩
    rw [List.replicate_succ', List.flatten_append]; simp
  · repeat ac_rfl
    refine GV.slT ?_
    repeat ac_rfl
    rw [take_long l1 (by omega)]
    exact FK.rt0 (nor_iT _) k
theorem law_least {w : List Int} (hw : Rb w) (k : ∀ R : Nat, R ≤ w.length → Lst (PW w) R → K (iT (w.take R)) st) : WR (Q.cf (d + 1) 33 [iT w] Φ st) K X := by
  have hl := lenM w
  have l1 := hw.l1; have l2 := hw.l2
  obtain ⟨R, hR, hLst⟩ := Lst.ex (P := PW w) l1 (PW.len w)
  refine C33 ?_
  unfold f33b
  refine WSS.cons ?_
  repeat ac_rfl
  refine ⟨⟨inR_by (by omega) (by omega), inR_by (by omega) (by omega), by unfold SZ; omega⟩, ?_⟩
  refine CM.inv (fun j ys st' => st' = st ∧ ∃ g : Nat → Option PV, (∀ a, a < j → (PW w (a + 1) → g a = some (iT (w.take (a + 1)))) ∧ (¬PW w (a + 1) → g a = none)) ∧ ys = (List.range j).filterMap g) ⟨rfl, fun _ => none, fun a ha => by omega, rfl⟩ (fun j hj ys st' ⟨h1, g, h2, h3⟩ => ?_) fun ys st' ⟨h1, g, h2, h3⟩ => ?_
  · subst h1 h3
    rw [rangeL_len] at hj
    rw [rangeL_at]
    have hj2 : j + 1 ≤ w.length := by omega
    have ej : (1 : Int) + (j : Int) = ((j + 1 : Nat) : Int) := by omega
    rw [ej]
    have ext : ∀ v : Option PV, (PW w (j + 1) → v = some (iT (w.take (j + 1)))) → (¬PW w (j + 1) → v = none) → ∃ g' : Nat → Option PV, (∀ a, a < j + 1 → (PW w (a + 1) → g' a = some (iT (w.take (a + 1)))) ∧ (¬PW w (a + 1) → g' a = none)) ∧ (List.range j).filterMap g ++ v.toList = (List.range (j + 1)).filterMap g' := by
      intro v v1 v2
      refine ⟨fun a => if a = j then v else g a, fun a ha => ?_, ?_⟩
      · by_cases h : a = j
        · subst h; simp only [if_true]; exact ⟨v1, v2⟩
        · simp only [if_neg h]; exact h2 a (by omega)
      · rw [List.range_succ, List.filterMap_append]
        congr 1
        · exact fm_congr fun a ha => by
            have := List.mem_range.mp ha
            rw [if_neg (by omega)]
        · simp only [List.filterMap_cons, List.filterMap_nil, if_true]
          cases v <;> rfl
    refine CE.iff' ?_
    repeat ac_rfl
    refine GV.slT ?_
    repeat ac_rfl
    rw [hl]
    refine GV.mulTI ?_ (by unfold SZ; omega) ?_
    · rw [List.length_take]
      exact Nat.le_trans (Nat.mul_le_mul (show min (j + 1) w.length ≤ 60 by omega) l2) (by decide)
    repeat ac_rfl
    refine GV.mulTI ?_ (by unfold SZ; omega) ?_
    · exact Nat.le_trans (Nat.mul_le_mul l2 (show j + 1 ≤ 60 by omega)) (by decide)
    repeat ac_rfl
    refine GV.eqTI ?_
    repeat ac_rfl
    refine BR.d (fun h => ?_) fun h => ?_
    · have hp := (root_law (by omega) (by omega) hj2).mp h
      repeat ac_rfl
      refine GV.slT ?_
      repeat ac_rfl
      obtain ⟨g', a, b⟩ := ext (some (iT (w.take (j + 1)))) (fun _ => rfl) (fun hn => absurd hp hn)
      exact ⟨rfl, g', a, b⟩
    · have hp : ¬PW w (j + 1) := fun hh => h ((root_law (by omega) (by omega) hj2).mpr hh)
      obtain ⟨g', a, b⟩ := ext none (fun hn => absurd hn hp) (fun _ => rfl)
      exact ⟨rfl, g', a, b⟩
  · subst h1 h3
    rw [rangeL_len] at h2 ⊢
    have en : ((((w.map PV.int).length : Int) + 1) - 1).toNat = w.length := by omega
    rw [en] at h2 ⊢
    obtain ⟨r, hr⟩ := fm_first hLst hR h2
    rw [hr]
    repeat ac_rfl
    refine GV.of ix_head ?_
    repeat ac_rfl
    exact FK.rt0 (nor_iT _) (k R hR hLst)
theorem zip_un (a b : List Int) (s wide : Nat) : zipL (((List.range wide).map (xn a)).map .int) ((((List.range (wide + s)).map (xn b)).drop s).map .int) = (List.range wide).map fun i => .tup [.int (xn a i), .int (xn b (i + s))] := by
  unfold zipL
  apply List.ext_getElem
  · simp
  · intro i h1 h2
    simp [Nat.add_comm]
theorem law_unlike {a b : List Int} {s wide : Nat} (ha : Rb a) (hb : Rb b) (hw : wide ≤ 60) (hs : s ≤ 60) (hW : 100000 ≤ Q.W) (k : K (.int (un a b s wide)) st) : WR (Q.cf (d + 2) 34 [iT a, iT b, .int wide, .int s] Φ st) K X := by
  refine C34 ?_
  unfold f34b
  repeat ac_rfl
  refine law_long (d := d) ha (by omega) hW ?_
  repeat ac_rfl
  rw [show (wide : Int) + (s : Int) = ((wide + s : Nat) : Int) by omega]
  refine law_long (d := d) hb (by omega) hW ?_
  repeat ac_rfl
  refine GV.slD ?_
  repeat ac_rfl
  refine CM.pure (List.range wide) (fun i => .tup [.int (xn a i), .int (xn b (i + s))]) (fun i => if (!decide (xn a i = xn b (i + s))) = true then some (.int 1) else none) (zip_un a b s wide) (fun i hi => ?_) ?_
  · refine CE.iff' ?_
    repeat ac_rfl
    refine BR.d (fun h => ?_) fun h => ?_
    · repeat ac_rfl
      rw [decide_eq_true h]
      exact ⟨rfl, rfl⟩
    · repeat ac_rfl
      rw [decide_eq_false h]
      exact ⟨rfl, rfl⟩
  rw [filtMap]
  repeat ac_rfl
  rw [List.length_map]
  exact FK.rt0 rfl k
theorem rot_of {m : List Int} {a : Nat} (h : a < m.length) : ((m ++ m).drop a).take (a + m.length - a) = rotN m a := by
  unfold rotN
  rw [List.drop_append_of_le_length (by omega), List.take_append, List.length_drop, List.take_of_length_le (by rw [List.length_drop]; omega)]
  congr 2
  omega
theorem law_same {a b : List Int} (ha : Rb a) (hb : Rb b) (k : ∀ R S : Nat, R ≤ a.length → Lst (PW a) R → S ≤ b.length → Lst (PW b) S → K (.bl (sameN (a.take R) (b.take S))) st) : WR (Q.cf (d + 2) 35 [iT a, iT b] Φ st) K X := by
  have a2 := ha.l2
  refine C35 ?_
  unfold f35b
  repeat ac_rfl
  refine law_least (d := d) ha fun R hR hL => ?_
  repeat ac_rfl
  refine law_least (d := d) hb fun S hS hM => ?_
  have kk := k R S hR hL hS hM
  have e1 : (a.take R).length = R := by rw [List.length_take]; omega
  generalize a.take R = m at e1 kk ⊢
  generalize b.take S = i at kk ⊢
  have lm := lenM m; have li := lenM i
  repeat ac_rfl
  rw [lm, li]
  refine BR.d (fun h => ?_) fun h => ?_
  · repeat ac_rfl
    rw [lm]
    refine ⟨⟨inR_by (by omega) (by omega), by unfold SZ; omega⟩, ?_⟩
    refine CM.map (List.range m.length) (fun a => .int (0 + (a : Int))) (fun a => .bl (decide (rotN m a = i))) (by rw [Int.toNat_natCast]; rfl) (fun a ha => ?_) ?_
    · have ha := List.mem_range.mp ha
      refine CE.al ?_
      repeat ac_rfl
      refine GV.addI' (by unfold SZ; omega) ?_
      repeat ac_rfl
      rw [li, Int.zero_add, ← h, show (a : Int) + (m.length : Int) = ((a + m.length : Nat) : Int) by omega]
      refine GV.slB ?_
      rw [rot_of ha]
      repeat ac_rfl
      refine GV.eqTI ?_
      repeat ac_rfl
      exact ⟨rfl, rfl⟩
    repeat ac_rfl
    refine GV.any ?_
    repeat ac_rfl
    exact FK.rt0 rfl kk
  · rw [same_len (by omega)] at kk
    repeat ac_rfl
    exact FK.rt0 rfl kk
theorem law_is_due {a b : List Int} {wide few : Nat} {v : PV} (ha : Rb a) (hb : Rb b) (hw : wide ≤ 60) (hW : 100000 ≤ Q.W) (hv : dpv v = true) (k : K (.bl (dueB a b wide few v)) st) : WR (Q.cf (d + 3) 36 [iT a, iT b, .int wide, .int few, v] Φ st) K X := by
  have lb := lenM b
  have b1 := hb.l1; have b2 := hb.l2
  refine C36 ?_
  unfold f36b
  repeat ac_rfl
  cases v with
  | tup xs =>
    have hx := dpvs_iff.mp (show dpvs xs = true by simpa [dpv] using hv)
    repeat ac_rfl
    refine BR.d (fun h => ?_) fun h => ?_
    · match xs, hx, k, h with
      | [x, p, q], hx, k, h =>
        have hp := dpv_cases (hx p (by simp))
        have hq := dpv_cases (hx q (by simp))
        repeat ac_rfl
        refine VW.nr (dpv_nr (hx x (by simp))) (gv_isStr (hx x (by simp)) ?_)
        cases x with
        | str s =>
          rw [due3] at k
          repeat ac_rfl
          refine BR.d (fun hs => ?_) fun hs => ?_
          · rw [decide_eq_true hs, Bool.true_and] at k
            repeat ac_rfl
            refine law_is_int hp.2.1 ?_
            rw [lb]
            cases hA : isInt p 0 ((b.length : Int) - 1) with
            | false =>
              rw [hA] at k
              repeat ac_rfl
              exact FK.rt0 rfl k
            | true =>
              rw [hA, Bool.true_and] at k
              obtain ⟨i, rfl, i0, i1⟩ := isInt_elim hA
              obtain ⟨n, rfl⟩ : ∃ n : Nat, i = (n : Int) := ⟨i.toNat, by omega⟩
              have en : (ivl (.int (n : Int))).toNat = n := Int.toNat_natCast n
              rw [en] at k
              repeat ac_rfl
              refine law_is_int hq.2.1 ?_
              cases hB : isInt q few few with
              | false =>
                rw [hB] at k
                repeat ac_rfl
                exact FK.rt0 rfl k
              | true =>
                rw [hB, Bool.true_and] at k
                repeat ac_rfl
                refine law_unlike (d := d) ha hb hw (by omega) hW ?_
                repeat ac_rfl
                rw [show decide (un a b n wide = few) = decide ((un a b n wide : Int) = (few : Int)) from decide_eq_decide.mpr (by omega)] at k
                exact FK.rt0 rfl k
          · rw [decide_eq_false hs] at k
            repeat ac_rfl
            exact FK.rt0 rfl k
        | _ =>
          have k : K (.bl false) st := k
          repeat ac_rfl
          exact FK.rt0 rfl k
      | [], _, _, h => exact absurd h (by decide)
      | [_], _, _, h => exact absurd h (by simp)
      | [_, _], _, _, h => exact absurd h (by simp)
      | _ :: _ :: _ :: _ :: _, _, _, h => exact absurd h (by simp; omega)
    · have e : dueB a b wide few (.tup xs) = false := told_no (by
        match xs, h with
        | [], _ => rfl
        | [_], _ => rfl
        | [_, _], _ => rfl
        | [_, _, _], h => exact absurd rfl h
        | _ :: _ :: _ :: _ :: _, _ => rfl)
      rw [e] at k
      repeat ac_rfl
      exact FK.rt0 rfl k
  | ref n => cases hv
  | clo l lv => cases hv
  | exc c v => cases hv
  | scr ns => cases hv
  | set xs => cases hv
  | mkd c n v => cases hv
  | _ =>
    repeat ac_rfl
    exact FK.rt0 rfl k
end
end K45
set_option Elab.async false
set_option linter.all false
set_option maxRecDepth 100000
set_option maxHeartbeats 4000000
namespace K45
open PySem PM
local macro_rules | `(tactic| ac_rfl) => `(tactic| first | ((with_reducible show PM.WE _ _ _ _ _ _); (first | refine PM.WE.v (by rfl) ?_ | refine PM.WE.k ?_ | refine PM.WE.bin ?_ | refine PM.WE.cmp ?_ | refine PM.WE.call ?_ | refine PM.WE.ix ?_ | refine PM.WE.bi ?_ | refine PM.WE.tup ?_ | refine PM.WE.lst ?_ | refine PM.WE.and ?_ | refine PM.WE.or ?_ | refine PM.WE.not ?_ | refine PM.WE.neg ?_ | refine PM.WE.ite ?_ | refine PM.WE.isi ?_ | refine PM.WE.at ?_ | refine PM.WE.chain ?_ | refine PM.WE.sl ?_ | refine PM.WE.rev ?_ | refine PM.WE.bn ?_ | refine PM.WE.mt ?_ | refine PM.WE.mut ?_ | refine PM.WE.cm ?_ | refine PM.WE.lam ?_ | refine PM.WE.dc ?_ | refine PM.WE.mkE ?_ | refine PM.WE.callv (by rfl) ?_)) | ((with_reducible show PM.VW _ _ _); refine PM.VW.nr (by rfl) ?_) | ((with_reducible show PM.GV (PM.isiV _ _) _); (first | refine PM.GV.of (a := true) (by rfl) ?_ | refine PM.GV.of (a := false) (by rfl) ?_)) | ((with_reducible show PM.GV (PM.ixV _ _) _); refine PM.GV.of (by rfl) ?_) | ((with_reducible show PM.GV _ _); (first | (with_reducible refine PM.GV.addI ?_) | (with_reducible refine PM.GV.subI ?_) | (with_reducible refine PM.GV.ltI ?_) | (with_reducible refine PM.GV.leI ?_) | (with_reducible refine PM.GV.gtI ?_) | (with_reducible refine PM.GV.geI ?_) | (with_reducible refine PM.GV.eqI ?_) | (with_reducible refine PM.GV.neI ?_) | (with_reducible refine PM.GV.trB ?_) | (with_reducible refine PM.GV.trI ?_) | (with_reducible refine PM.GV.trN ?_) | (with_reducible refine PM.GV.intI ?_) | (with_reducible refine PM.GV.intB ?_) | (with_reducible refine PM.GV.absI ?_) | (with_reducible refine PM.GV.lenT ?_) | (with_reducible refine PM.GV.lenL ?_) | (with_reducible refine PM.GV.lenS ?_) | (with_reducible refine PM.GV.max2I ?_) | (with_reducible refine PM.GV.min2I ?_) | (with_reducible refine PM.GV.isN ?_) | (with_reducible refine PM.GV.notN ?_) | (with_reducible refine PM.GV.eqSS ?_) | (with_reducible refine PM.GV.neSS ?_) | (with_reducible refine PM.GV.eqS ?_) | (with_reducible refine PM.GV.neS ?_) | (with_reducible refine PM.GV.tupL ?_) | (with_reducible refine PM.GV.tupT ?_) | ((with_reducible refine PM.GV.modI ?_ ?_); (focus (first | assumption | omega))) | ((with_reducible refine PM.GV.fdivI ?_ ?_ ?_); (focus (first | assumption | omega)); (focus bv_omega)) | ((with_reducible refine PM.GV.mulI ?_ ?_ ?_); (focus bv_omega); (focus bv_omega)))) | ((with_reducible show PM.WA _ _ _ _ _ _); (first | refine PM.WA.cons ?_ | refine PM.WA.nil ?_)) | ((with_reducible show PM.WSS _ _ _ _ _ _); (first | refine PM.WSS.cons ?_ | refine PM.WSS.nil ?_)) | ((with_reducible show PM.SQ _ _ _); (first | refine PM.SQ.nx ?_ | refine PM.SQ.rt ?_ | refine PM.SQ.bk ?_ | refine PM.SQ.ct ?_)) | ((with_reducible show PM.WS _ _ _ _ _ _); (first | refine PM.WS.asg ?_ | refine PM.WS.ret ?_ | refine PM.WS.ite ?_ | refine PM.WS.ex ?_ | refine PM.WS.rais ?_ | refine PM.WS.seti ?_ | refine PM.WS.augA (by rfl) ?_ | refine PM.WS.augS (by rfl) ?_ | refine PM.WS.retn ?_ | refine PM.WS.pass ?_ | refine PM.WS.brk ?_ | refine PM.WS.cnt ?_ | refine PM.WS.fo ?_ | refine PM.WS.wh ?_ | refine PM.WS.tryc ?_)) | ((with_reducible show PM.TG _ _ _ _); (first | refine PM.TG.n (by rfl) ?_ | refine PM.TG.t ?_)) | ((with_reducible show PM.WT _ _ _ _ _ _); (first | refine PM.WT.cmp ?_ | refine PM.WT.and ?_ | refine PM.WT.or ?_ | refine PM.WT.not ?_ | refine PM.WT.ite ?_ | refine PM.WT.isi ?_ | refine PM.WT.pl (by rfl) ?_)) | ((with_reducible show PM.VWs _ _ _); (first | refine PM.VWs.cons ?_ | refine PM.VWs.nil ?_)) | ((with_reducible show PM.TGs _ _ _ _); (first | refine PM.TGs.cons ?_ | refine PM.TGs.nil ?_)) | refine PM.IsI.mk' ?_ | refine PM.IsB.mk' ?_ | refine PM.IsL.mk' ?_ | refine PM.P2.mk' ?_ | refine PM.IsE.mk' ?_ | refine PM.BR.T ?_ | refine PM.BR.F ?_ | refine PM.BR.n ?_ | ((with_reducible show PM.LP _ _ _ _); (first | refine PM.LP.nx ?_ | refine PM.LP.rt ?_ | refine PM.LP.ct ?_ | refine PM.LP.bk ?_)) | ((with_reducible show PM.PA _ _ _); refine PM.PA.mk (by rfl) ?_) | ((with_reducible show PM.WI _ _ _ _ _ _); (first | refine PM.WI.rng1 ?_ | refine PM.WI.rng2 ?_ | refine PM.WI.rng3 ?_ | refine PM.WI.seq ?_ | refine PM.WI.enum ?_ | refine PM.WI.zip ?_)) | ((with_reducible show PM.WO _ _ _ _ _ _); (first | refine PM.WO.no ?_ | refine PM.WO.so ?_)) | refine PM.EN.l ?_ | refine PM.EN.t ?_ | refine PM.ZP.l ?_ | refine PM.ZP.t ?_)
local macro_rules | `(tactic| bv_omega) => `(tactic| first | assumption | decide +kernel | (apply PM.SB.sz; (focus (repeat' (first | assumption | (apply PM.SB.le <;> omega) | apply PM.SB.mul | apply PM.SB.add | apply PM.SB.sub | apply PM.SB.neg))); decide))
local macro_rules | `(tactic| nofun) => `(tactic| repeat ((fail_if_success (with_reducible show PM.WSS _ (PM.Ss.cons _ _) _ _ _ _)); ac_rfl))
section
variable {Q : Cb t.G} {d : Nat} {Φ : List PM.Env} {st : Store} {K : PV → Store → Prop} {X : Nat → PV → Store → Prop}
/-- the values: both looks agree -/
theorem vals {a b : List Int} {wide few : Nat} (ha : Rb a) (hb : Rb b) (hw : wide ≤ 60) (hW : 100000 ≤ Q.W) (hf : Few a b wide few) {xs : List PV} (hx : ∀ x ∈ xs, dpv x = true) {n : Nat} {y4 y5 y7 y8 y10 y11 y12 y13 : Option PV} {KF : Fl → Store → Prop} {Y : Nat → PV → Store → Prop} {lv nb : Nat} {ΦF : PM.Env → List PM.Env}
    (k : ∀ y, KF (.nx [some (.ref n), some (iT a), some (iT b), some (.int wide), y4, y5, some (.int few), y7, y8, y, y10, y11, y12, y13]) st) :
    WL ⟨Q.cf (d + 6), Q.cl (d + 6), Q.W, ΦF, lv, nb⟩ (.n 9) (Ss.cons (S.ite (E.call 30 (Es.cons (E.call 17 (Es.cons (E.v 1) (Es.cons (E.v 2) (Es.cons (E.v 3) (Es.cons (E.v 9) Es.nil)))) [0, 1, 2, 3]) (Es.cons (E.call 36 (Es.cons (E.v 1) (Es.cons (E.v 2) (Es.cons (E.v 3) (Es.cons (E.v 6) (Es.cons (E.v 9) Es.nil))))) [0, 1, 2, 3, 4]) Es.nil)) [0, 1]).not (Ss.cons (S.ret (E.k (PV.bl false))) Ss.nil) Ss.nil) Ss.nil) (.fix xs) [some (.ref n), some (iT a), some (iT b), some (.int wide), y4, y5, some (.int few), y7, y8, none, y10, y11, y12, y13] st KF Y := by
  refine WL.ix (fun k ρ' st' => st' = st ∧ ∃ y, ρ' = [some (.ref n), some (iT a), some (iT b), some (.int wide), y4, y5, some (.int few), y7, y8, y, y10, y11, y12, y13]) ⟨rfl, none, rfl⟩ ?_ ?_
  · rintro i hi ρ' st' ⟨rfl, y, rfl⟩
    have hd := hx xs[i] (List.getElem_mem hi)
    refine TG.n rfl ?_
    repeat ac_rfl
    refine shows_flows_on ha hb (by omega) hf hd ?_
    repeat ac_rfl
    refine law_is_due (d := d + 3) ha hb hw hW hd ?_
    repeat ac_rfl
    refine is_bool ?_
    repeat ac_rfl
    exact ⟨rfl, _, rfl⟩
  · rintro ρ' st' ⟨rfl, y, rfl⟩
    exact k y
theorem xn_at {w : List Int} {n i : Nat} {k : Int} (h : i < n) (e : k = (i : Int)) : ixV (iT ((List.range n).map (xn w))) (.int k) = some (.int (xn w i)) := by
  unfold iT
  rw [List.map_map]
  exact ix_mapT (g := fun i => .int (xn w i)) e (range_at h)
theorem bv3 {s few : Nat} (h1 : s ≤ 24) (h2 : few ≤ 60) : BV 1 (.tup [.str "shift", .int s, .int few]) := by
  refine .tup (fun x hx => ?_) (by simp)
  simp only [List.mem_cons, List.not_mem_nil, or_false] at hx
  rcases hx with rfl | rfl | rfl
  · exact .str (by decide +kernel)
  · exact .int (SB.mono (SB.le (by omega) (by omega)) (by decide))
  · exact .int (SB.mono (SB.le (by omega) (by omega)) (by decide))
theorem two_right {n B : Nat} {a b : List Int} {wide : Nat} (hp : Pot st n B) (hB : B ≤ 100000) (hW : 100000 ≤ Q.W) (ha : Rb a) (hb : Rb b) (ha2 : a.length ≤ 12) (hw : wide ≤ 60) (k : ∀ st', PotS st st' n (B + 60) → K (.bl true) st') : WR (Q.cf (d + 7) 37 [.ref n, iT a, iT b, .int wide] Φ st) K X := by
  have b1 := hb.l1; have b2 := hb.l2
  have lb := lenM b
  refine C37 ?_
  unfold f37b
  refine WSS.cons ?_
  repeat ac_rfl
  refine take (d := d + 5) hp (by omega) (by decide) (by decide) fun s s1 s0 s20 p1 => ?_
  obtain ⟨s, rfl⟩ : ∃ m : Nat, s = (m : Int) := ⟨s.toNat, by omega⟩
  nofun
  refine WSS.cons ?_
  repeat ac_rfl
  refine unlike_stitches (d := d) ha hb (by omega) (by omega) ?_
  have hu := un_le (a := a) (b := b) (s := s) (wide := wide)
  have shu : Shw 0 63 (.int (un a b s wide : Int)) := sh1 (by omega) (by omega)
  repeat ac_rfl
  refine GV.repr shu (by decide) (by decide) ?_
  repeat ac_rfl
  refine law_unlike (d := d + 4) ha hb hw (by omega) hW ?_
  repeat ac_rfl
  refine GV.repr shu (by decide) (by decide) ?_
  nofun
  refine WSS.cons ?_
  repeat ac_rfl
  rw [lb]
  refine ⟨⟨inR_by (by omega) (by omega), by unfold SZ; omega⟩, ?_⟩
  refine CM.map (List.range b.length) (fun i => .int (0 + (i : Int))) (fun i => .int (un a b i wide)) (by rw [Int.toNat_natCast]; rfl) (fun i hi => ?_) ?_
  · have hi := List.mem_range.mp hi
    refine CE.al ?_
    repeat ac_rfl
    rw [Int.zero_add]
    refine law_unlike (d := d + 4) ha hb hw (by omega) hW ?_
    exact ⟨rfl, rfl⟩
  repeat ac_rfl
  have hne : (List.range b.length).map (fun i : Nat => ((un a b i wide : Nat) : Int)) ≠ [] := by
    intro e
    have := congrArg List.length e
    simp at this
    rw [this] at b1
    simp at b1
  obtain ⟨m, hm⟩ := foldMin_some hne
  obtain ⟨h1, h2⟩ := foldMin_spec hm
  obtain ⟨s', hs', rfl⟩ := List.mem_map.mp h1
  have hs' := List.mem_range.mp hs'
  have hf : Few a b wide (un a b s' wide) := ⟨⟨s', hs', rfl⟩, fun u hu => by
    have := h2 _ (List.mem_map.mpr ⟨u, List.mem_range.mpr hu, rfl⟩)
    omega⟩
  have e : (List.range b.length).map (fun i => PV.int (un a b i wide)) = ((List.range b.length).map fun i : Nat => ((un a b i wide : Nat) : Int)).map .int := by rw [List.map_map]; rfl
  rw [e]
  refine GV.minI hm ?_
  have hfl : un a b s' wide ≤ 60 := Nat.le_trans un_le hw
  generalize un a b s' wide = few at hf hfl ⊢
  nofun
  refine WSS.cons ?_
  repeat ac_rfl
  refine flows_on (d := d) ha hb (by omega) fun u hu hfu => ?_
  rw [hfu.eq hf]
  nofun
  have hdt : dueB a b wide few (.tup [.str "shift", .int u, .int few]) = true := by
    rw [due3]
    have e1 : un a b (ivl (.int (u : Int))).toNat wide = few := by show un a b ((u : Int)).toNat wide = few; rw [Int.toNat_natCast]; exact hfu.eq hf
    rw [isInt_of (by omega) (by omega), isInt_of (by omega) (by omega), decide_eq_true e1]
    decide +kernel
  refine WSS.cons ?_
  repeat ac_rfl
  refine law_is_due (d := d + 3) ha hb hw hW rfl ?_
  rw [hdt]
  nofun
  refine WSS.cons ?_
  repeat ac_rfl
  refine GV.of rfl ?_
  repeat ac_rfl
  refine GV.of rfl ?_
  nofun
  refine WSS.cons ?_
  refine WS.fo (WI.seq ?_)
  repeat ac_rfl
  refine ⟨⟨by decide +kernel, by decide +kernel⟩, ?_⟩
  refine CM.inv (fun i ys st' => (∀ y ∈ ys, dpv y = true) ∧ ys.length = i ∧ PotS st st' n (B + 1 + 6 * i)) ⟨by simp, rfl, p1⟩ ?_ ?_
  · rintro j hj ys s8 ⟨g1, g2, g3⟩
    have hj : j < 6 := by simpa [rangeL] using hj
    refine CE.al ?_
    repeat ac_rfl
    refine bent 1 (by decide) (bv3 (by omega) hfl) g3.pot (by omega) fun v' s9 h1 q => ?_
    refine ⟨fun y hy => ?_, by simp [g2], (g3.trans q).mono (by omega)⟩
    rcases List.mem_append.mp hy with h | h
    · exact g1 y h
    · have : y = v' := by simpa using h
      rw [this]; exact h1
  rintro ys s8 ⟨g1, g2, g3⟩
  have g2 : ys.length = 6 := by rw [g2]; simp [rangeL]
  have p8 : PotS st s8 n (B + 40) := g3.mono (by simp [rangeL])
  repeat ac_rfl
  refine GV.addL (by simp; unfold SZ; omega) ?_
  repeat ac_rfl
  refine odd p8.pot (by omega) fun v' s9 h1 q => ?_
  have p9 := p8.trans q
  repeat ac_rfl
  refine GV.addL (by simp; unfold SZ; omega) ?_
  refine GV.of (a := .fix _) rfl ?_
  refine vals ha hb hw hW hf (fun x hx => ?_) fun y9 => ?_
  · rcases List.mem_append.mp hx with h | h
    · rcases List.mem_append.mp h with h | h
      · simp only [List.mem_cons, List.not_mem_nil, or_false] at h
        rcases h with rfl | rfl | rfl | rfl | rfl | rfl | rfl <;> rfl
      · exact g1 x h
    · have : x = v' := by simpa using h
      rw [this]; exact h1
  nofun
  refine WSS.cons ?_
  repeat ac_rfl
  refine are_same (d := d + 1) ha hb fun R S hR hL hS hM => ?_
  repeat ac_rfl
  refine law_same (d := d + 4) ha hb fun R' S' _ hL' _ hM' => ?_
  obtain rfl := hL.eq hL'
  obtain rfl := hM.eq hM'
  repeat ac_rfl
  refine is_bool ?_
  nofun
  refine WSS.cons ?_
  repeat ac_rfl
  refine law_long (n := 60) (d := d + 5) ha (by omega) hW ?_
  repeat ac_rfl
  refine law_long (n := 60) (d := d + 5) hb (by omega) hW ?_
  nofun
  refine WSS.cons ?_
  repeat ac_rfl
  refine ⟨⟨by decide +kernel, by decide +kernel⟩, ?_⟩
  refine CM.pure (List.range 60) (fun i => .int (0 + (i : Int))) (fun i => if (!decide (xn a i = xn b i)) = true then some (.int (0 + (i : Int))) else none) rfl (fun i hi => ?_) ?_
  · have hi := List.mem_range.mp hi
    refine CE.iff' ?_
    repeat ac_rfl
    refine GV.of (xn_at hi (by omega)) ?_
    repeat ac_rfl
    refine GV.of (xn_at hi (by omega)) ?_
    repeat ac_rfl
    refine BR.d (fun h => ?_) fun h => ?_
    · repeat ac_rfl
      rw [decide_eq_true h]
      exact ⟨rfl, rfl⟩
    · repeat ac_rfl
      rw [decide_eq_false h]
      exact ⟨rfl, rfl⟩
  rw [filtMap]
  nofun
  have e : ((List.range 60).filter fun i => !decide (xn a i = xn b i)).map (fun i : Nat => PV.int (0 + (i : Int))) = (((List.range 60).filter fun i => !decide (xn a i = xn b i)).map fun i : Nat => (i : Int)).map .int := by rw [List.map_map]; congr 1; funext i; simp
  rw [e]
  refine WSS.cons ?_
  repeat ac_rfl
  refine first_unlike (d := d + 1) ha hb (fun i hi hne hno => ?_) fun hall => ?_
  · obtain ⟨r, hr⟩ := filt_first (n := 60) (i := i) (p := fun i => !decide (xn a i = xn b i)) (by omega) (by simp [hne]) (fun j hj => by simp [hno j hj])
    have shi : Shw 0 63 (.int (i : Int)) := sh1 (by omega) (by omega)
    rw [hr]
    repeat ac_rfl
    refine GV.repr shi (by decide) (by decide) ?_
    repeat ac_rfl
    refine GV.neLI (b := []) ?_
    rw [decide_eq_false (by simp)]
    repeat ac_rfl
    refine GV.of ix_head ?_
    repeat ac_rfl
    refine GV.repr shi (by decide) (by decide) ?_
    repeat ac_rfl
    exact FK.rtl p9.len rfl (k s9 (p9.mono (by omega)))
  · have e0 : ((List.range 60).filter fun i => !decide (xn a i = xn b i)) = [] := List.filter_eq_nil_iff.mpr fun i _ => by simp [hall i]
    rw [e0]
    repeat ac_rfl
    refine GV.repr shN (by decide) (by decide) ?_
    repeat ac_rfl
    refine GV.neLI (a := []) (b := []) ?_
    repeat ac_rfl
    refine GV.repr shN (by decide) (by decide) ?_
    repeat ac_rfl
    exact FK.rtl p9.len rfl (k s9 (p9.mono (by omega)))
end
end K45
set_option Elab.async false
set_option linter.all false
set_option maxRecDepth 100000
set_option maxHeartbeats 4000000
namespace K45
open PySem PM
local macro_rules | `(tactic| ac_rfl) => `(tactic| first | ((with_reducible show PM.WE _ _ _ _ _ _); (first | refine PM.WE.v (by rfl) ?_ | refine PM.WE.k ?_ | refine PM.WE.bin ?_ | refine PM.WE.cmp ?_ | refine PM.WE.call ?_ | refine PM.WE.ix ?_ | refine PM.WE.bi ?_ | refine PM.WE.tup ?_ | refine PM.WE.lst ?_ | refine PM.WE.and ?_ | refine PM.WE.or ?_ | refine PM.WE.not ?_ | refine PM.WE.neg ?_ | refine PM.WE.ite ?_ | refine PM.WE.isi ?_ | refine PM.WE.at ?_ | refine PM.WE.chain ?_ | refine PM.WE.sl ?_ | refine PM.WE.rev ?_ | refine PM.WE.bn ?_ | refine PM.WE.mt ?_ | refine PM.WE.mut ?_ | refine PM.WE.cm ?_ | refine PM.WE.lam ?_ | refine PM.WE.dc ?_ | refine PM.WE.mkE ?_ | refine PM.WE.callv (by rfl) ?_)) | ((with_reducible show PM.VW _ _ _); refine PM.VW.nr (by rfl) ?_) | ((with_reducible show PM.GV (PM.isiV _ _) _); (first | refine PM.GV.of (a := true) (by rfl) ?_ | refine PM.GV.of (a := false) (by rfl) ?_)) | ((with_reducible show PM.GV (PM.ixV _ _) _); refine PM.GV.of (by rfl) ?_) | ((with_reducible show PM.GV _ _); (first | (with_reducible refine PM.GV.addI ?_) | (with_reducible refine PM.GV.subI ?_) | (with_reducible refine PM.GV.ltI ?_) | (with_reducible refine PM.GV.leI ?_) | (with_reducible refine PM.GV.gtI ?_) | (with_reducible refine PM.GV.geI ?_) | (with_reducible refine PM.GV.eqI ?_) | (with_reducible refine PM.GV.neI ?_) | (with_reducible refine PM.GV.trB ?_) | (with_reducible refine PM.GV.trI ?_) | (with_reducible refine PM.GV.trN ?_) | (with_reducible refine PM.GV.intI ?_) | (with_reducible refine PM.GV.intB ?_) | (with_reducible refine PM.GV.absI ?_) | (with_reducible refine PM.GV.lenT ?_) | (with_reducible refine PM.GV.lenL ?_) | (with_reducible refine PM.GV.lenS ?_) | (with_reducible refine PM.GV.max2I ?_) | (with_reducible refine PM.GV.min2I ?_) | (with_reducible refine PM.GV.isN ?_) | (with_reducible refine PM.GV.notN ?_) | (with_reducible refine PM.GV.eqSS ?_) | (with_reducible refine PM.GV.neSS ?_) | (with_reducible refine PM.GV.eqS ?_) | (with_reducible refine PM.GV.neS ?_) | (with_reducible refine PM.GV.tupL ?_) | (with_reducible refine PM.GV.tupT ?_) | ((with_reducible refine PM.GV.modI ?_ ?_); (focus (first | assumption | omega))) | ((with_reducible refine PM.GV.fdivI ?_ ?_ ?_); (focus (first | assumption | omega)); (focus bv_omega)) | ((with_reducible refine PM.GV.mulI ?_ ?_ ?_); (focus bv_omega); (focus bv_omega)))) | ((with_reducible show PM.WA _ _ _ _ _ _); (first | refine PM.WA.cons ?_ | refine PM.WA.nil ?_)) | ((with_reducible show PM.WSS _ _ _ _ _ _); (first | refine PM.WSS.cons ?_ | refine PM.WSS.nil ?_)) | ((with_reducible show PM.SQ _ _ _); (first | refine PM.SQ.nx ?_ | refine PM.SQ.rt ?_ | refine PM.SQ.bk ?_ | refine PM.SQ.ct ?_)) | ((with_reducible show PM.WS _ _ _ _ _ _); (first | refine PM.WS.asg ?_ | refine PM.WS.ret ?_ | refine PM.WS.ite ?_ | refine PM.WS.ex ?_ | refine PM.WS.rais ?_ | refine PM.WS.seti ?_ | refine PM.WS.augA (by rfl) ?_ | refine PM.WS.augS (by rfl) ?_ | refine PM.WS.retn ?_ | refine PM.WS.pass ?_ | refine PM.WS.brk ?_ | refine PM.WS.cnt ?_ | refine PM.WS.fo ?_ | refine PM.WS.wh ?_ | refine PM.WS.tryc ?_)) | ((with_reducible show PM.TG _ _ _ _); (first | refine PM.TG.n (by rfl) ?_ | refine PM.TG.t ?_)) | ((with_reducible show PM.WT _ _ _ _ _ _); (first | refine PM.WT.cmp ?_ | refine PM.WT.and ?_ | refine PM.WT.or ?_ | refine PM.WT.not ?_ | refine PM.WT.ite ?_ | refine PM.WT.isi ?_ | refine PM.WT.pl (by rfl) ?_)) | ((with_reducible show PM.VWs _ _ _); (first | refine PM.VWs.cons ?_ | refine PM.VWs.nil ?_)) | ((with_reducible show PM.TGs _ _ _ _); (first | refine PM.TGs.cons ?_ | refine PM.TGs.nil ?_)) | refine PM.IsI.mk' ?_ | refine PM.IsB.mk' ?_ | refine PM.IsL.mk' ?_ | refine PM.P2.mk' ?_ | refine PM.IsE.mk' ?_ | refine PM.BR.T ?_ | refine PM.BR.F ?_ | refine PM.BR.n ?_ | ((with_reducible show PM.LP _ _ _ _); (first | refine PM.LP.nx ?_ | refine PM.LP.rt ?_ | refine PM.LP.ct ?_ | refine PM.LP.bk ?_)) | ((with_reducible show PM.PA _ _ _); refine PM.PA.mk (by rfl) ?_) | ((with_reducible show PM.WI _ _ _ _ _ _); (first | refine PM.WI.rng1 ?_ | refine PM.WI.rng2 ?_ | refine PM.WI.rng3 ?_ | refine PM.WI.seq ?_ | refine PM.WI.enum ?_ | refine PM.WI.zip ?_)) | ((with_reducible show PM.WO _ _ _ _ _ _); (first | refine PM.WO.no ?_ | refine PM.WO.so ?_)) | refine PM.EN.l ?_ | refine PM.EN.t ?_ | refine PM.ZP.l ?_ | refine PM.ZP.t ?_)
local macro_rules | `(tactic| bv_omega) => `(tactic| first | assumption | decide +kernel | (apply PM.SB.sz; (focus (repeat' (first | assumption | (apply PM.SB.le <;> omega) | apply PM.SB.mul | apply PM.SB.add | apply PM.SB.sub | apply PM.SB.neg))); decide))
local macro_rules | `(tactic| nofun) => `(tactic| repeat ((fail_if_success (with_reducible show PM.WSS _ (PM.Ss.cons _ _) _ _ _ _)); ac_rfl))
def lapB : Ss := match f38b with | .cons (.fo _ _ b) _ => b | _ => .nil
def Sh (n : Nat) (ρ : PM.Env) : Prop := ∃ y1 y2 y3 y4 y5 y6 y7 y8 y9 y10 y11 y12 y13 y14 y15 y16 y17 y18 y19, ρ = [some (.ref n), y1, y2, y3, y4, y5, y6, y7, y8, y9, y10, y11, y12, y13, y14, y15, y16, y17, y18, y19]
theorem sum_knits {w : List Int} (hw : Rb w) : ∀ n : Nat, ((List.range n).map (xn w)).sum = (knits w n : Int)
  | 0 => rfl
  | n + 1 => by
    have ih := sum_knits hw n
    have hm := mem_xn (w := w) hw.l1 n
    have c0 := hw.c0 _ hm; have c1 := hw.c1 _ hm
    unfold knits at ih ⊢
    rw [List.range_succ, List.map_append, List.sum_append, ih, List.filter_append, List.length_append]
    have e : ([n].map (xn w)).sum = xn w n := by simp
    rw [e]
    by_cases h : xn w n = 1
    · simp [h]
    · have : xn w n = 0 := by omega
      simp [this]
theorem un_self {w : List Int} (wide : Nat) : un w w w.length wide = 0 := by
  unfold un
  rw [List.length_eq_zero_iff, List.filter_eq_nil_iff]
  intro i _
  have := PW.len w i
  simp [this]
theorem Rb.nine {w : List Int} (h : Rb w) : Shw 1 2000 (iT w) := (shI9 h.c0 (fun c hc => by have := h.c1 c hc; omega)).mono (by decide) (by have := h.l2; omega)
theorem Rb.app {a b : List Int} (ha : Rb a) (hb : Rb b) (h : a.length + b.length ≤ 24) : Rb (a ++ b) := by
  have := ha.l1
  refine ⟨by rw [List.length_append]; omega, by rw [List.length_append]; omega, fun c hc => ?_, fun c hc => ?_⟩
  · rcases List.mem_append.mp hc with h | h
    · exact ha.c0 c h
    · exact hb.c0 c h
  · rcases List.mem_append.mp hc with h | h
    · exact ha.c1 c h
    · exact hb.c1 c h
theorem Rb.turn {w : List Int} (h : Rb w) : Rb (w.drop 1 ++ w.take 1) := by
  have := h.l1; have := h.l2
  have hm : ∀ c ∈ w.drop 1 ++ w.take 1, c ∈ w := fun c hc => by
    rcases List.mem_append.mp hc with h | h
    · exact List.mem_of_mem_drop h
    · exact List.mem_of_mem_take h
  exact ⟨by simp; omega, by simp; omega, fun c hc => h.c0 c (hm c hc), fun c hc => h.c1 c (hm c hc)⟩
section
variable {Q : Cb t.G} {d : Nat} {Φ : List PM.Env} {st : Store} {K : PV → Store → Prop} {X : Nat → PV → Store → Prop}
theorem drawn {n B : Nat} (hp : Pot st n B) (hB : B ≤ 1000000) (k : ∀ w st', Rb w → w.length ≤ 12 → PotS st st' n (B + 10) → K (iT w) st') : WR (Q.cf (d + 2) 32 [.ref n] Φ st) K X := by
  refine C32 ?_
  unfold f32b
  repeat ac_rfl
  refine take (d := d) hp (by omega) (by decide) (by decide) fun r s2 r0 r1 p2 => ?_
  repeat ac_rfl
  refine ⟨⟨inR_by (by omega) (by omega), by unfold SZ; omega⟩, ?_⟩
  refine CM.inv (fun j ys st' => PotS st st' n (B + 1 + j) ∧ ∃ l : List Int, ys = l.map .int ∧ l.length = j ∧ ∀ z ∈ l, 0 ≤ z ∧ z ≤ 1) ⟨p2, [], rfl, rfl, by simp⟩ (fun j hj ys st' ⟨h1, l, h2, h3, h4⟩ => ?_) fun ys st' ⟨h1, l, h2, h3, h4⟩ => ?_
  · subst h2
    rw [rangeL_len] at hj
    refine CE.al ?_
    repeat ac_rfl
    refine take (d := d) h1.pot (by omega) (by omega) (by omega) fun z s3 z0 z1 p3 => ?_
    repeat ac_rfl
    refine ⟨(h1.trans p3).mono (by omega), l ++ [z], by rw [List.map_append]; rfl, by simp [h3], fun x hx => ?_⟩
    rcases List.mem_append.mp hx with hx | hx
    · exact h4 x hx
    · have : x = z := by simpa using hx
      subst this; omega
  subst h2
  rename_i s3
  rw [rangeL_len] at h1 h3
  have p3 := h1.mono (C := B + 8) (by omega)
  repeat ac_rfl
  refine take (d := d) p3.pot (by omega) (by decide) (by decide) fun u s5 u0 u1 p5 => ?_
  have p5 := p3.trans p5
  obtain ⟨m, hm⟩ : ∃ m : Nat, 1 + u = (m : Int) := ⟨(1 + u).toNat, by omega⟩
  repeat ac_rfl
  rw [hm]
  have hm3 : m ≤ 2 := by omega
  have hm1 : 1 ≤ m := by omega
  have hb1 : l.length * m ≤ 12 := Nat.le_trans (Nat.mul_le_mul (show l.length ≤ 6 by omega) hm3) (by decide)
  have hb2 : 1 ≤ l.length * m := Nat.mul_pos (by omega) hm1
  have hlen : (List.replicate m l).flatten.length = l.length * m := rep_len ..
  have hmem : ∀ c ∈ (List.replicate m l).flatten, c ∈ l := fun c hc => by
    obtain ⟨x, hx, hc⟩ := List.mem_flatten.mp hc
    rw [(List.mem_replicate.mp hx).2] at hc
    exact hc
  refine GV.mulTI (by unfold SZ; omega) (by unfold SZ; omega) ?_
  repeat ac_rfl
  exact FK.rtl p5.len (nor_iT _) (k _ s5 ⟨by omega, by omega, fun c hc => (h4 c (hmem c hc)).1, fun c hc => (h4 c (hmem c hc)).2⟩ (by omega) (p5.mono (by omega)))
theorem near_in {R many : Nat} (h1 : 1 ≤ R) (h2 : R ≤ 24) (m2 : many ≤ 60) : ∃ r, isort ltP ((List.range (((200 : Int) - R - 1) / R + 1).toNat).map fun k : Nat => ((((R : Int) + (k : Int) * (R : Int) - (many : Int)).natAbs : Int), (R : Int) + (k : Int) * (R : Int))) = (((((nearN R many : Nat) : Int) - (many : Int)).natAbs : Int), ((nearN R many : Nat) : Int)) :: r := by
  obtain ⟨⟨j, j1, ej⟩, hle, hall⟩ := near_ok (many := many) h1
  have ek : ∀ k : Nat, (R : Int) + (k : Int) * (R : Int) = ((R * (k + 1) : Nat) : Int) := fun k => by
    rw [Int.natCast_mul, Int.natCast_add, Int.mul_add]
    rw [Int.mul_comm (k : Int)]
    omega
  refine isort_head (List.mem_map.mpr ⟨j - 1, List.mem_range.mpr ?_, ?_⟩) fun p hp => ?_
  · have hR : (0 : Int) < R := by omega
    have : ((j - 1 : Nat) : Int) ≤ ((200 : Int) - R - 1) / R := by
      rw [Int.le_ediv_iff_mul_le hR]
      have e := ek (j - 1)
      rw [show j - 1 + 1 = j by omega, ← ej] at e
      omega
    omega
  · rw [ek, show j - 1 + 1 = j by omega, ← ej]
  · obtain ⟨k, _, rfl⟩ := List.mem_map.mp hp
    rw [ek]
    exact hall (k + 1) (by omega)
/-- the numbers -/
theorem lap3 {lv nb n B : Nat} {ΦF : PM.Env → List PM.Env} {w : List Int} {R wide : Nat} {y1 y4 y5 y6 y8 y9 y10 y11 y12 y13 y14 y15 y16 y17 y18 y19 : Option PV} {KF : Fl → Store → Prop} (hp : Pot st n B) (hB : B ≤ 100000) (hW : 100000 ≤ Q.W) (hw : Rb w) (wl : w.length ≤ 12) (hR : R ≤ w.length) (hL : Lst (PW w) R) (w2 : wide ≤ 60)
    (k : ∀ ρ' st', Sh n ρ' → PotS st st' n (B + 10) → KF (.nx ρ') st') :
    WSS ⟨Q.cf (d + 8), Q.cl (d + 8), Q.W, ΦF, lv, nb⟩ (dropSs 9 lapB) [some (.ref n), y1, some (iT w), some (.int wide), y4, y5, y6, some (iT (w.take R)), y8, y9, y10, y11, y12, y13, y14, y15, y16, y17, y18, y19] st KF X := by
  have h1 := hL.pos
  have kl := knits_le (w := w) (wide := wide)
  have er : ((w.take R).map PV.int).length = R := by rw [lenM, List.length_take]; omega
  unfold lapB f38b
  simp only [dropSs]
  refine WSS.cons ?_
  repeat ac_rfl
  refine law_long (d := d + 7) hw (by omega) hW ?_
  repeat ac_rfl
  refine GV.sumT ?_
  rw [sum_knits hw]
  have shk : Shw 1 (2 * (63 + 2) + 2) (.tup [.int (knits w wide : Int), .int ((wide : Int) - (knits w wide : Int))]) := shT2 (sh1 (by omega) (by omega)) (sh1 (by omega) (by omega))
  nofun
  refine WSS.cons ?_
  repeat ac_rfl
  refine columns_of (d := d + 3) hw (by omega) ?_
  repeat ac_rfl
  refine GV.repr shk (by decide) (by decide) ?_
  repeat ac_rfl
  refine GV.repr shk (by decide) (by decide) ?_
  nofun
  refine WSS.cons ?_
  repeat ac_rfl
  refine take (d := d + 7) hp (by omega) (by decide) (by decide) fun u s1 u0 u1 p1 => ?_
  obtain ⟨many, hm⟩ : ∃ m : Nat, 1 + u = (m : Int) := ⟨(1 + u).toNat, by omega⟩
  repeat ac_rfl
  rw [hm]
  have m1 : 1 ≤ many := by omega
  have m2 : many ≤ 60 := by omega
  refine fits_round (d := d + 3) hw m1 (by omega) fun R' hR' hL' => ?_
  obtain rfl := hL.eq hL'
  repeat ac_rfl
  rw [er]
  repeat ac_rfl
  refine is_bool ?_
  nofun
  refine WSS.cons ?_
  repeat ac_rfl
  rw [er]
  refine GV.of (rng3_up (i := R) (j := 200) (s := R) (by omega) (by omega) (by omega) (by omega) (by omega) (by omega) (by unfold SZ; omega) (by omega)) ?_
  refine CM.map (List.range (((200 : Int) - R - 1) / R + 1).toNat) (fun k : Nat => .int ((R : Int) + (k : Int) * (R : Int))) (fun k : Nat => prV ((((R : Int) + (k : Int) * (R : Int) - (many : Int)).natAbs : Int), (R : Int) + (k : Int) * (R : Int))) rfl (fun k hk => ?_) ?_
  · refine CE.al ?_
    repeat ac_rfl
    exact ⟨rfl, rfl⟩
  repeat ac_rfl
  have e : (List.range (((200 : Int) - R - 1) / R + 1).toNat).map (fun k : Nat => prV ((((R : Int) + (k : Int) * (R : Int) - (many : Int)).natAbs : Int), (R : Int) + (k : Int) * (R : Int))) = ((List.range (((200 : Int) - R - 1) / R + 1).toNat).map fun k : Nat => ((((R : Int) + (k : Int) * (R : Int) - (many : Int)).natAbs : Int), (R : Int) + (k : Int) * (R : Int))).map prV := by rw [List.map_map]; rfl
  obtain ⟨r, hr⟩ := near_in (R := R) (many := many) h1 (by omega) m2
  rw [e]
  refine GV.sortP (fun e0 => by rw [e0] at hr; cases hr) ?_
  rw [hr]
  nofun
  have nl : nearN R many ≤ many + R := (near_ok (many := many) h1).2.1
  have shn : Shw 0 63 (.int (nearN R many : Int)) := sh1 (by omega) (by omega)
  refine WSS.cons ?_
  repeat ac_rfl
  refine nearest_round (d := d + 3) hw m1 (by omega) fun R' hR' hL' => ?_
  obtain rfl := hL.eq hL'
  repeat ac_rfl
  refine GV.repr shn (by decide) (by decide) ?_
  repeat ac_rfl
  refine GV.of ix_head ?_
  repeat ac_rfl
  refine GV.repr shn (by decide) (by decide) ?_
  nofun
  refine WSS.cons ?_
  repeat ac_rfl
  refine take (d := d + 7) p1.pot (by omega) (by decide) (by decide) fun x s2 x0 x1 p2 => ?_
  have p2 := p1.trans p2
  obtain ⟨x, rfl⟩ : ∃ m : Nat, x = (m : Int) := ⟨x.toNat, by omega⟩
  repeat ac_rfl
  refine take (d := d + 7) p2.pot (by omega) (by decide) (by decide) fun v s3 v0 v1 p3 => ?_
  have p3 := p2.trans p3
  obtain ⟨y, hy⟩ : ∃ m : Nat, 1 + v = (m : Int) := ⟨(1 + v).toNat, by omega⟩
  repeat ac_rfl
  rw [hy]
  have lx : (List.replicate x [(1 : Int)]).flatten.length = x := by rw [rep_len]; simp
  have ly : (List.replicate y [(0 : Int)]).flatten.length = y := by rw [rep_len]; simp
  have hc : ∀ c ∈ (List.replicate x [(1 : Int)]).flatten ++ (List.replicate y [(0 : Int)]).flatten, 0 ≤ c ∧ c ≤ 9 := fun c hc => by
    rcases List.mem_append.mp hc with h | h
    · obtain ⟨z, hz, hc⟩ := List.mem_flatten.mp h
      rw [(List.mem_replicate.mp hz).2] at hc
      have := List.mem_singleton.mp hc
      omega
    · obtain ⟨z, hz, hc⟩ := List.mem_flatten.mp h
      rw [(List.mem_replicate.mp hz).2] at hc
      have := List.mem_singleton.mp hc
      omega
  have shp : Shw 1 2000 (iT ((List.replicate x [(1 : Int)]).flatten ++ (List.replicate y [(0 : Int)]).flatten)) := (shI9 (fun c h => (hc c h).1) fun c h => (hc c h).2).mono (by decide) (by rw [List.length_append, lx, ly]; omega)
  refine plain_rib (d := d + 6) (by omega) (by omega) (by omega) ?_
  repeat ac_rfl
  refine GV.repr shp (by decide) (by decide) ?_
  repeat ac_rfl
  refine GV.mulTI (a := [1]) (by simp; unfold SZ; omega) (by unfold SZ; omega) ?_
  repeat ac_rfl
  refine GV.mulTI (a := [0]) (by simp; unfold SZ; omega) (by unfold SZ; omega) ?_
  repeat ac_rfl
  refine GV.addI' (by rw [lx, ly]; unfold SZ; omega) ?_
  repeat ac_rfl
  refine GV.repr shp (by decide) (by decide) ?_
  nofun
  exact k _ s3 ⟨_, _, _, _, _, _, _, _, _, _, _, _, _, _, _, _, _, _, _, rfl⟩ (p3.mono (by omega))
theorem lap {lv nb n B : Nat} {ΦF : PM.Env → List PM.Env} {ρ : PM.Env} {KF : Fl → Store → Prop} (hρ : Sh n ρ) (hp : Pot st n B) (hB : B ≤ 10000) (hW : 100000 ≤ Q.W)
    (k : ∀ ρ' st', Sh n ρ' → PotS st st' n (B + 100) → KF (.nx ρ') st') :
    WSS ⟨Q.cf (d + 8), Q.cl (d + 8), Q.W, ΦF, lv, nb⟩ lapB ρ st KF X := by
  obtain ⟨y1, y2, y3, y4, y5, y6, y7, y8, y9, y10, y11, y12, y13, y14, y15, y16, y17, y18, y19, rfl⟩ := hρ
  have L3 := @lap3
  unfold lapB f38b at L3 ⊢
  simp only [dropSs] at L3 ⊢
  refine WSS.cons ?_
  repeat ac_rfl
  refine drawn (d := d + 6) hp (by omega) fun w s1 hw wl p1 => ?_
  have l1 := hw.l1
  repeat ac_rfl
  refine take (d := d + 7) p1.pot (by omega) (by decide) (by decide) fun wide s2 w0 w1 p2 => ?_
  have p2 := p1.trans p2
  obtain ⟨wide, rfl⟩ : ∃ m : Nat, wide = (m : Int) := ⟨wide.toNat, by omega⟩
  nofun
  refine WSS.cons ?_
  repeat ac_rfl
  refine GV.revI ?_
  refine GV.of (a := .fix (w.reverse.map .int)) rfl ?_
  refine CM.map w.reverse PV.int (fun s => .int (1 - s)) rfl (fun a ha => ?_) ?_
  · refine CE.al ?_
    repeat ac_rfl
    exact ⟨rfl, rfl⟩
  repeat ac_rfl
  rw [cb_eq]
  have hcb : Rb (cb w) := hw.cb
  have cl : (cb w).length = w.length := cb_len w
  refine GV.slD (n := 1) ?_
  repeat ac_rfl
  refine GV.slT (n := 1) ?_
  repeat ac_rfl
  refine GV.addI' (by simp; unfold SZ; omega) ?_
  nofun
  refine WSS.cons ?_
  repeat ac_rfl
  refine drawn (d := d + 6) p2.pot (by omega) fun w' s3 hw' wl' p3 => ?_
  have p3 := p2.trans p3
  repeat ac_rfl
  refine GV.addI' (by unfold SZ; omega) ?_
  repeat ac_rfl
  refine of_ (d := d + 6) p3.pot (by omega) (by simp) (by simp) (by simp [nors, nor_iT]) fun ov hov s4 p4 => ?_
  have p4 := p3.trans p4
  obtain ⟨o, rfl, ho⟩ : ∃ o : List Int, ov = iT o ∧ Rb o := by
    simp only [List.mem_cons, List.not_mem_nil, or_false] at hov
    rcases hov with rfl | rfl | rfl | rfl
    · exact ⟨_, rfl, hw'⟩
    · exact ⟨_, rfl, hw.turn⟩
    · exact ⟨_, rfl, hcb⟩
    · exact ⟨_, rfl, hw.app hw (by omega)⟩
  nofun
  refine WSS.cons ?_
  repeat ac_rfl
  refine law_least (d := d + 7) hw fun R hR hL => ?_
  have h1 := hL.pos
  nofun
  refine WSS.cons ?_
  repeat ac_rfl
  refine least_rib (d := d + 3) hw fun R' hR' hL' => ?_
  obtain rfl := hL.eq hL'
  repeat ac_rfl
  refine GV.repr (hw.take h1).nine (by decide) (by decide) ?_
  repeat ac_rfl
  refine GV.repr (hw.take h1).nine (by decide) (by decide) ?_
  repeat ac_rfl
  refine back_of (d := d + 3) hw ?_
  repeat ac_rfl
  refine GV.repr hcb.nine (by decide) (by decide) ?_
  repeat ac_rfl
  refine GV.repr hcb.nine (by decide) (by decide) ?_
  repeat ac_rfl
  refine back_of (d := d + 3) hcb ?_
  rw [cb_cb]
  repeat ac_rfl
  refine GV.neTI ?_
  rw [decide_eq_true rfl]
  nofun
  refine WSS.cons ?_
  repeat ac_rfl
  refine law_same (d := d + 6) hw hcb fun R' S hR' hL' hS hM => ?_
  obtain rfl := hL.eq hL'
  obtain rfl := (lst_cb l1 hL).eq hM
  rw [take_cb hR hL]
  nofun
  refine WSS.cons ?_
  repeat ac_rfl
  refine is_two_faced (d := d + 3) hw fun R' hR' hL' => ?_
  obtain rfl := hL.eq hL'
  rw [same_comm (cb (w.take R)) (w.take R)]
  repeat ac_rfl
  refine is_bool ?_
  repeat ac_rfl
  have rest : ∀ y8 : Option PV, WSS ⟨Q.cf (d + 8), Q.cl (d + 8), Q.W, ΦF, lv, nb⟩ (dropSs 8 lapB) [some (.ref n), y1, some (iT w), some (.int wide), some (iT (cb w)), some (iT (w.drop 1 ++ w.take 1)), some (iT o), some (iT (w.take R)), y8, y9, y10, y11, y12, y13, y14, y15, y16, y17, y18, y19] s4 KF X := fun y8 => by
    unfold lapB f38b
    simp only [dropSs]
    refine WSS.cons ?_
    repeat ac_rfl
    refine two_right (d := d + 1) p4.pot (by omega) hW hw ho wl (by omega) fun s5 p5 => ?_
    have p5 := p4.trans p5
    repeat ac_rfl
    rw [lenM]
    refine unlike_stitches (d := d + 2) hw hw (by omega) (by omega) ?_
    rw [un_self]
    nofun
    exact L3 p5.pot (by omega) hW hw wl hR hL (by omega) fun ρ' s6 hs p6 => k ρ' s6 hs ((p5.trans p6).mono (by omega))
  have el := lenM w
  have rest := rest (some (.bl (sameN (w.take R) (cb (w.take R)))))
  unfold lapB f38b at rest
  simp only [dropSs] at rest
  cases hf : sameN (w.take R) (cb (w.take R)) with
  | false =>
    rw [hf] at rest
    nofun
    exact rest
  | true =>
    rw [hf] at rest
    have fs := faced_sum l1 hR hL hf
    repeat ac_rfl
    refine GV.sumT ?_
    repeat ac_rfl
    rw [el]
    refine BR.d (fun _ => ?_) fun h => absurd fs h
    nofun
    exact rest
end
end K45
set_option Elab.async false
set_option linter.all false
set_option maxRecDepth 100000
set_option maxHeartbeats 4000000
namespace K45
open PySem PM
local macro_rules | `(tactic| ac_rfl) => `(tactic| first | ((with_reducible show PM.WE _ _ _ _ _ _); (first | refine PM.WE.v (by rfl) ?_ | refine PM.WE.k ?_ | refine PM.WE.bin ?_ | refine PM.WE.cmp ?_ | refine PM.WE.call ?_ | refine PM.WE.ix ?_ | refine PM.WE.bi ?_ | refine PM.WE.tup ?_ | refine PM.WE.lst ?_ | refine PM.WE.and ?_ | refine PM.WE.or ?_ | refine PM.WE.not ?_ | refine PM.WE.neg ?_ | refine PM.WE.ite ?_ | refine PM.WE.isi ?_ | refine PM.WE.at ?_ | refine PM.WE.chain ?_ | refine PM.WE.sl ?_ | refine PM.WE.rev ?_ | refine PM.WE.bn ?_ | refine PM.WE.mt ?_ | refine PM.WE.mut ?_ | refine PM.WE.cm ?_ | refine PM.WE.lam ?_ | refine PM.WE.dc ?_ | refine PM.WE.mkE ?_ | refine PM.WE.callv (by rfl) ?_)) | ((with_reducible show PM.VW _ _ _); refine PM.VW.nr (by rfl) ?_) | ((with_reducible show PM.GV (PM.isiV _ _) _); (first | refine PM.GV.of (a := true) (by rfl) ?_ | refine PM.GV.of (a := false) (by rfl) ?_)) | ((with_reducible show PM.GV (PM.ixV _ _) _); refine PM.GV.of (by rfl) ?_) | ((with_reducible show PM.GV _ _); (first | (with_reducible refine PM.GV.addI ?_) | (with_reducible refine PM.GV.subI ?_) | (with_reducible refine PM.GV.ltI ?_) | (with_reducible refine PM.GV.leI ?_) | (with_reducible refine PM.GV.gtI ?_) | (with_reducible refine PM.GV.geI ?_) | (with_reducible refine PM.GV.eqI ?_) | (with_reducible refine PM.GV.neI ?_) | (with_reducible refine PM.GV.trB ?_) | (with_reducible refine PM.GV.trI ?_) | (with_reducible refine PM.GV.trN ?_) | (with_reducible refine PM.GV.intI ?_) | (with_reducible refine PM.GV.intB ?_) | (with_reducible refine PM.GV.absI ?_) | (with_reducible refine PM.GV.lenT ?_) | (with_reducible refine PM.GV.lenL ?_) | (with_reducible refine PM.GV.lenS ?_) | (with_reducible refine PM.GV.max2I ?_) | (with_reducible refine PM.GV.min2I ?_) | (with_reducible refine PM.GV.isN ?_) | (with_reducible refine PM.GV.notN ?_) | (with_reducible refine PM.GV.eqSS ?_) | (with_reducible refine PM.GV.neSS ?_) | (with_reducible refine PM.GV.eqS ?_) | (with_reducible refine PM.GV.neS ?_) | (with_reducible refine PM.GV.tupL ?_) | (with_reducible refine PM.GV.tupT ?_) | ((with_reducible refine PM.GV.modI ?_ ?_); (focus (first | assumption | omega))) | ((with_reducible refine PM.GV.fdivI ?_ ?_ ?_); (focus (first | assumption | omega)); (focus bv_omega)) | ((with_reducible refine PM.GV.mulI ?_ ?_ ?_); (focus bv_omega); (focus bv_omega)))) | ((with_reducible show PM.WA _ _ _ _ _ _); (first | refine PM.WA.cons ?_ | refine PM.WA.nil ?_)) | ((with_reducible show PM.WSS _ _ _ _ _ _); (first | refine PM.WSS.cons ?_ | refine PM.WSS.nil ?_)) | ((with_reducible show PM.SQ _ _ _); (first | refine PM.SQ.nx ?_ | refine PM.SQ.rt ?_ | refine PM.SQ.bk ?_ | refine PM.SQ.ct ?_)) | ((with_reducible show PM.WS _ _ _ _ _ _); (first | refine PM.WS.asg ?_ | refine PM.WS.ret ?_ | refine PM.WS.ite ?_ | refine PM.WS.ex ?_ | refine PM.WS.rais ?_ | refine PM.WS.seti ?_ | refine PM.WS.augA (by rfl) ?_ | refine PM.WS.augS (by rfl) ?_ | refine PM.WS.retn ?_ | refine PM.WS.pass ?_ | refine PM.WS.brk ?_ | refine PM.WS.cnt ?_ | refine PM.WS.fo ?_ | refine PM.WS.wh ?_ | refine PM.WS.tryc ?_)) | ((with_reducible show PM.TG _ _ _ _); (first | refine PM.TG.n (by rfl) ?_ | refine PM.TG.t ?_)) | ((with_reducible show PM.WT _ _ _ _ _ _); (first | refine PM.WT.cmp ?_ | refine PM.WT.and ?_ | refine PM.WT.or ?_ | refine PM.WT.not ?_ | refine PM.WT.ite ?_ | refine PM.WT.isi ?_ | refine PM.WT.pl (by rfl) ?_)) | ((with_reducible show PM.VWs _ _ _); (first | refine PM.VWs.cons ?_ | refine PM.VWs.nil ?_)) | ((with_reducible show PM.TGs _ _ _ _); (first | refine PM.TGs.cons ?_ | refine PM.TGs.nil ?_)) | refine PM.IsI.mk' ?_ | refine PM.IsB.mk' ?_ | refine PM.IsL.mk' ?_ | refine PM.P2.mk' ?_ | refine PM.IsE.mk' ?_ | refine PM.BR.T ?_ | refine PM.BR.F ?_ | refine PM.BR.n ?_ | ((with_reducible show PM.LP _ _ _ _); (first | refine PM.LP.nx ?_ | refine PM.LP.rt ?_ | refine PM.LP.ct ?_ | refine PM.LP.bk ?_)) | ((with_reducible show PM.PA _ _ _); refine PM.PA.mk (by rfl) ?_) | ((with_reducible show PM.WI _ _ _ _ _ _); (first | refine PM.WI.rng1 ?_ | refine PM.WI.rng2 ?_ | refine PM.WI.rng3 ?_ | refine PM.WI.seq ?_ | refine PM.WI.enum ?_ | refine PM.WI.zip ?_)) | ((with_reducible show PM.WO _ _ _ _ _ _); (first | refine PM.WO.no ?_ | refine PM.WO.so ?_)) | refine PM.EN.l ?_ | refine PM.EN.t ?_ | refine PM.ZP.l ?_ | refine PM.ZP.t ?_)
local macro_rules | `(tactic| bv_omega) => `(tactic| first | assumption | decide +kernel | (apply PM.SB.sz; (focus (repeat' (first | assumption | (apply PM.SB.le <;> omega) | apply PM.SB.mul | apply PM.SB.add | apply PM.SB.sub | apply PM.SB.neg))); decide))
local macro_rules | `(tactic| nofun) => `(tactic| repeat ((fail_if_success (with_reducible show PM.WSS _ (PM.Ss.cons _ _) _ _ _ _)); ac_rfl))
section
variable {Q : Cb t.G} {d : Nat} {Φ : List PM.Env} {st : Store} {K : PV → Store → Prop} {X : Nat → PV → Store → Prop}
structure OddW (v : PV) : Prop where
  ok : okvs v = true
  nn : nor v = true
  no : isRib v = false
  sh : Shw 3 240000 v
structure OddI (v : PV) : Prop where
  ok : okv v = true
  nn : nor v = true
  n6 : isInt v 0 600 = false
  n1 : isInt v 1 600 = false
  n12 : isInt v 0 (24 / 2) = false
  sh : Shw 3 240000 v
theorem i1 {i : Int} (h : -1000000 < i ∧ i < 1000000) : Shw 0 63 (.int i) := sh1 (by omega) (by omega)
def oddsW : List PV := [.non, .tup [], .lst [.int 1], .tup [.int 2], .tup [.int (-1)], .tup [.bl true], iT (List.replicate 25 [(0 : Int)]).flatten, .int 1]
theorem oddW : ∀ x ∈ oddsW, OddW x := by
  intro x hx
  simp only [oddsW, List.mem_cons, List.not_mem_nil, or_false] at hx
  rcases hx with rfl | rfl | rfl | rfl | rfl | rfl | rfl | rfl
  · exact ⟨rfl, rfl, rfl, shN.mono (by decide) (by decide)⟩
  · exact ⟨rfl, rfl, rfl, (Shw.tup (m := 0) (n := 1) (xs := []) (by simp)).mono (by decide) (by decide)⟩
  · exact ⟨rfl, rfl, rfl, (shL1 (i1 (by decide))).mono (by decide) (by decide)⟩
  · exact ⟨rfl, rfl, rfl, (shT1 (i1 (by decide))).mono (by decide) (by decide)⟩
  · exact ⟨rfl, rfl, rfl, (shT1 (i1 (by decide))).mono (by decide) (by decide)⟩
  · exact ⟨rfl, rfl, rfl, (shT1 shB).mono (by decide) (by decide)⟩
  · exact ⟨okvs_ints _, nor_iT _, by decide +kernel, (shI9 (by decide +kernel) (by decide +kernel)).mono (by decide) (by decide +kernel)⟩
  · exact ⟨rfl, rfl, rfl, (i1 (by decide)).mono (by decide) (by decide)⟩
def oddsI : List PV := [.non, .int (-1), .int 601, .bl true, .str "1"]
theorem oddI : ∀ x ∈ oddsI, OddI x := by
  intro x hx
  simp only [oddsI, List.mem_cons, List.not_mem_nil, or_false] at hx
  rcases hx with rfl | rfl | rfl | rfl | rfl
  · exact ⟨rfl, rfl, rfl, rfl, rfl, shN.mono (by decide) (by decide)⟩
  · exact ⟨rfl, rfl, rfl, rfl, rfl, (i1 (by decide)).mono (by decide) (by decide)⟩
  · exact ⟨rfl, rfl, rfl, rfl, rfl, (i1 (by decide)).mono (by decide) (by decide)⟩
  · exact ⟨rfl, rfl, rfl, rfl, rfl, shB.mono (by decide) (by decide)⟩
  · exact ⟨rfl, rfl, rfl, rfl, rfl, (Shw.str (by decide)).mono (by decide) (by decide)⟩
theorem rb1 : Rb [1] := ⟨by decide, by decide, by decide, by decide⟩
variable {odd : PV}
theorem lookB (o : OddW odd) (x : X 2 odd st) : WR (Q.cf (d + 4) 4 [odd] Φ st) K X := look_rib_bad o.ok o.nn o.no x
theorem nor_nr {v : PV} (h : nor v = true) : isRef v = false := by cases v <;> first | rfl | (simp [nor] at h)
theorem look_ribs_bad {x y : PV} (o : OddW odd) (h : X 2 odd st) : WR (Q.cf (d + 5) 5 [odd, x, y] Φ st) K X := by
  refine C5 ?_
  unfold f5b
  repeat ac_rfl
  exact look_rib_bad o.ok o.nn o.no (tk o.nn h)
theorem look_ribs_bad2 (o : OddI odd) (x : X 1 odd st) : WR (Q.cf (d + 5) 5 [.tup [.int 1], .tup [.int 1], odd] Φ st) K X := by
  refine C5 ?_
  unfold f5b
  repeat ac_rfl
  refine look_rib (w := [1]) rb1 ?_
  repeat ac_rfl
  refine look_rib (w := [1]) rb1 ?_
  repeat ac_rfl
  refine is_int o.ok ?_
  rw [o.n6]
  repeat ac_rfl
  exact ⟨o.nn, tk o.nn x⟩
theorem bd0 (o : OddW odd) (x : X 2 odd st) : WR (Q.cf (d + 6) 7 [odd] Φ st) K X := by
  refine C7 ?_
  unfold f7b
  repeat ac_rfl
  exact look_rib_bad o.ok o.nn o.no (tk o.nn x)
theorem bd1 (o : OddW odd) (x : X 2 odd st) : WR (Q.cf (d + 6) 8 [odd] Φ st) K X := by
  refine C8 ?_
  unfold f8b
  repeat ac_rfl
  exact look_rib_bad o.ok o.nn o.no (tk o.nn x)
theorem bd2 (o : OddW odd) (x : X 2 odd st) : WR (Q.cf (d + 6) 9 [odd] Φ st) K X := by
  refine C9 ?_
  unfold f9b
  repeat ac_rfl
  exact look_rib_bad o.ok o.nn o.no (tk o.nn x)
theorem bd3 (o : OddW odd) (x : X 2 odd st) : WR (Q.cf (d + 6) 12 [.tup [.int 1], odd] Φ st) K X := by
  refine C12 ?_
  unfold f12b
  repeat ac_rfl
  refine look_rib (w := [1]) rb1 ?_
  repeat ac_rfl
  exact look_rib_bad o.ok o.nn o.no (tk o.nn x)
theorem bd4 (o : OddW odd) (x : X 2 odd st) : WR (Q.cf (d + 6) 16 [odd, .non, .non] Φ st) K X := by
  refine C16 ?_
  unfold f16b
  repeat ac_rfl
  exact look_ribs_bad o (tk o.nn x)
theorem bd5 (o : OddW odd) (x : X 2 odd st) : WR (Q.cf (d + 6) 18 [.tup [.int 1], odd] Φ st) K X := by
  refine C18 ?_
  unfold f18b
  repeat ac_rfl
  refine look_rib (w := [1]) rb1 ?_
  repeat ac_rfl
  exact look_rib_bad o.ok o.nn o.no (tk o.nn x)
theorem bd6 (o : OddW odd) (x : X 2 odd st) : WR (Q.cf (d + 6) 19 [odd, .non] Φ st) K X := by
  refine C19 ?_
  unfold f19b
  repeat ac_rfl
  exact look_rib_bad o.ok o.nn o.no (tk o.nn x)
theorem bd7 (o : OddW odd) (x : X 2 odd st) : WR (Q.cf (d + 6) 21 [odd, .non] Φ st) K X := by
  refine C21 ?_
  unfold f21b
  repeat ac_rfl
  exact look_rib_bad o.ok o.nn o.no (tk o.nn x)
theorem bd8 (o : OddI odd) (x : X 1 odd st) : WR (Q.cf (d + 6) 16 [.tup [.int 1], .tup [.int 1], odd] Φ st) K X := by
  refine C16 ?_
  unfold f16b
  repeat ac_rfl
  exact look_ribs_bad2 o (tk o.nn x)
theorem bd9 (o : OddI odd) (x : X 1 odd st) : WR (Q.cf (d + 6) 14 [.tup [.int 1], .tup [.int 1], .int 1, odd] Φ st) K X := by
  refine C14 ?_
  unfold f14b
  repeat ac_rfl
  refine look_ribs (a := [1]) (b := [1]) (wide := 1) rb1 rb1 (by decide) ?_
  repeat ac_rfl
  refine is_int o.ok ?_
  rw [o.n6]
  repeat ac_rfl
  exact ⟨o.nn, tk o.nn x⟩
theorem bd10 (o : OddI odd) (x : X 1 odd st) : WR (Q.cf (d + 6) 21 [.tup [.int 1], odd] Φ st) K X := by
  refine C21 ?_
  unfold f21b
  repeat ac_rfl
  refine look_rib (w := [1]) rb1 ?_
  repeat ac_rfl
  refine is_int o.ok ?_
  rw [o.n6]
  repeat ac_rfl
  exact ⟨o.nn, tk o.nn x⟩
theorem bd11 (o : OddI odd) (x : X 1 odd st) : WR (Q.cf (d + 6) 20 [.tup [.int 1], odd] Φ st) K X := by
  refine C20 ?_
  unfold f20b
  repeat ac_rfl
  refine look_rib (w := [1]) rb1 ?_
  repeat ac_rfl
  refine is_int o.ok ?_
  rw [o.n1]
  repeat ac_rfl
  exact ⟨o.nn, tk o.nn x⟩
theorem bd12 (o : OddI odd) (x : X 1 odd st) : WR (Q.cf (d + 6) 11 [odd, .non] Φ st) K X := by
  refine C11 ?_
  unfold f11b
  refine WSS.cons ?_
  refine WS.fo (WI.seq ?_)
  repeat ac_rfl
  refine GV.of (a := .fix [odd, .non]) rfl ?_
  refine WL.cons ?_
  refine TG.n rfl ?_
  repeat ac_rfl
  refine is_int o.ok ?_
  rw [show ((24 : Int) / 2) = 24 / 2 from rfl, o.n12]
  repeat ac_rfl
  exact ⟨o.nn, tk o.nn x⟩
theorem bd13 (x : X 1 (.int 0) st) : WR (Q.cf (d + 6) 11 [.int 0, .int 0] Φ st) K X := by
  refine C11 ?_
  unfold f11b
  refine WSS.cons ?_
  refine WS.fo (WI.seq ?_)
  repeat ac_rfl
  refine GV.of (a := .fix [.int 0, .int 0]) rfl ?_
  refine WL.cons ?_
  refine TG.n rfl ?_
  repeat ac_rfl
  refine is_int rfl ?_
  rw [isInt_of (by decide) (by decide)]
  repeat ac_rfl
  refine WL.cons ?_
  refine TG.n rfl ?_
  repeat ac_rfl
  refine is_int rfl ?_
  rw [isInt_of (by decide) (by decide)]
  repeat ac_rfl
  refine WL.nil ?_
  repeat ac_rfl
  try (refine BR.tr (by decide) ?_)
  repeat ac_rfl
  exact ⟨rfl, tk rfl x⟩
theorem bd14 (x : X 1 (.int 0) st) : WR (Q.cf (d + 5) 19 [.tup [.int 1], .int 0] Φ st) K X := by
  refine C19 ?_
  unfold f19b
  repeat ac_rfl
  refine look_rib (w := [1]) rb1 ?_
  repeat ac_rfl
  refine is_int rfl ?_
  repeat ac_rfl
  exact ⟨rfl, tk rfl x⟩
variable {ρc : PM.Env}
theorem lk0 (ho : gv ρc 15 = some odd) (o : OddW odd) (x : X 2 odd st) : WR (Q.cl (d + 7) (L38 0) [] ρc Φ st) K X := by
  refine L38_0 ?_
  rw [ho]
  unfold l38_0b
  repeat ac_rfl
  exact bd0 o (tk o.nn x)
theorem lk1 (ho : gv ρc 15 = some odd) (o : OddW odd) (x : X 2 odd st) : WR (Q.cl (d + 7) (L38 1) [] ρc Φ st) K X := by
  refine L38_1 ?_
  rw [ho]
  unfold l38_1b
  repeat ac_rfl
  exact bd1 o (tk o.nn x)
theorem lk2 (ho : gv ρc 15 = some odd) (o : OddW odd) (x : X 2 odd st) : WR (Q.cl (d + 7) (L38 2) [] ρc Φ st) K X := by
  refine L38_2 ?_
  rw [ho]
  unfold l38_2b
  repeat ac_rfl
  exact bd2 o (tk o.nn x)
theorem lk3 (ho : gv ρc 15 = some odd) (o : OddW odd) (x : X 2 odd st) : WR (Q.cl (d + 7) (L38 3) [] ρc Φ st) K X := by
  refine L38_3 ?_
  rw [ho]
  unfold l38_3b
  repeat ac_rfl
  exact bd3 o (tk o.nn x)
theorem lk4 (ho : gv ρc 15 = some odd) (o : OddW odd) (x : X 2 odd st) : WR (Q.cl (d + 7) (L38 4) [] ρc Φ st) K X := by
  refine L38_4 ?_
  rw [ho]
  unfold l38_4b
  repeat ac_rfl
  exact bd4 o (tk o.nn x)
theorem lk5 (ho : gv ρc 15 = some odd) (o : OddW odd) (x : X 2 odd st) : WR (Q.cl (d + 7) (L38 5) [] ρc Φ st) K X := by
  refine L38_5 ?_
  rw [ho]
  unfold l38_5b
  repeat ac_rfl
  exact bd5 o (tk o.nn x)
theorem lk6 (ho : gv ρc 15 = some odd) (o : OddW odd) (x : X 2 odd st) : WR (Q.cl (d + 7) (L38 6) [] ρc Φ st) K X := by
  refine L38_6 ?_
  rw [ho]
  unfold l38_6b
  repeat ac_rfl
  exact bd6 o (tk o.nn x)
theorem lk7 (ho : gv ρc 15 = some odd) (o : OddW odd) (x : X 2 odd st) : WR (Q.cl (d + 7) (L38 7) [] ρc Φ st) K X := by
  refine L38_7 ?_
  rw [ho]
  unfold l38_7b
  repeat ac_rfl
  exact bd7 o (tk o.nn x)
theorem lk8 (ho : gv ρc 15 = some odd) (o : OddI odd) (x : X 1 odd st) : WR (Q.cl (d + 7) (L38 8) [] ρc Φ st) K X := by
  refine L38_8 ?_
  rw [ho]
  unfold l38_8b
  repeat ac_rfl
  exact bd8 o (tk o.nn x)
theorem lk9 (ho : gv ρc 15 = some odd) (o : OddI odd) (x : X 1 odd st) : WR (Q.cl (d + 7) (L38 9) [] ρc Φ st) K X := by
  refine L38_9 ?_
  rw [ho]
  unfold l38_9b
  repeat ac_rfl
  exact bd9 o (tk o.nn x)
theorem lk10 (ho : gv ρc 15 = some odd) (o : OddI odd) (x : X 1 odd st) : WR (Q.cl (d + 7) (L38 10) [] ρc Φ st) K X := by
  refine L38_10 ?_
  rw [ho]
  unfold l38_10b
  repeat ac_rfl
  exact bd10 o (tk o.nn x)
theorem lk11 (ho : gv ρc 15 = some odd) (o : OddI odd) (x : X 1 odd st) : WR (Q.cl (d + 7) (L38 11) [] ρc Φ st) K X := by
  refine L38_11 ?_
  rw [ho]
  unfold l38_11b
  repeat ac_rfl
  exact bd11 o (tk o.nn x)
theorem lk12 (ho : gv ρc 15 = some odd) (o : OddI odd) (x : X 1 odd st) : WR (Q.cl (d + 7) (L38 12) [] ρc Φ st) K X := by
  refine L38_12 ?_
  rw [ho]
  unfold l38_12b
  repeat ac_rfl
  exact bd12 o (tk o.nn x)
theorem lk13 (x : X 1 (.int 0) st) : WR (Q.cl (d + 7) (L38 13) [] ρc Φ st) K X := by
  refine L38_13 ?_
  unfold l38_13b
  repeat ac_rfl
  exact bd13 (tk rfl x)
theorem lk14 (x : X 1 (.int 0) st) : WR (Q.cl (d + 6) (L39 0) [] ρc Φ st) K X := by
  refine L39_0 ?_
  unfold l39_0b
  repeat ac_rfl
  exact bd14 (tk rfl x)
theorem phi_at {Φ : List PM.Env} {ρ : PM.Env} : (Φ ++ [ρ])[Φ.length]? = some ρ := by simp
theorem heard_round (k : K (.exc 1 (.int 0)) st) : WR (Q.cf (d + 8) 39 [] Φ st) K X := by
  refine C39 ?_
  unfold f39b
  repeat ac_rfl
  refine heard (k := 1) (v := .int 0) (ρc := []) (by simp) rfl (fun x => lk14 x) ?_
  repeat ac_rfl
  exact FK.rt0 rfl k
end
end K45
set_option Elab.async false
set_option linter.all false
set_option maxRecDepth 100000
set_option maxHeartbeats 4000000
namespace K45
open PySem PM
local macro_rules | `(tactic| ac_rfl) => `(tactic| first | ((with_reducible show PM.WE _ _ _ _ _ _); (first | refine PM.WE.v (by rfl) ?_ | refine PM.WE.k ?_ | refine PM.WE.bin ?_ | refine PM.WE.cmp ?_ | refine PM.WE.call ?_ | refine PM.WE.ix ?_ | refine PM.WE.bi ?_ | refine PM.WE.tup ?_ | refine PM.WE.lst ?_ | refine PM.WE.and ?_ | refine PM.WE.or ?_ | refine PM.WE.not ?_ | refine PM.WE.neg ?_ | refine PM.WE.ite ?_ | refine PM.WE.isi ?_ | refine PM.WE.at ?_ | refine PM.WE.chain ?_ | refine PM.WE.sl ?_ | refine PM.WE.rev ?_ | refine PM.WE.bn ?_ | refine PM.WE.mt ?_ | refine PM.WE.mut ?_ | refine PM.WE.cm ?_ | refine PM.WE.lam ?_ | refine PM.WE.dc ?_ | refine PM.WE.mkE ?_ | refine PM.WE.callv (by rfl) ?_)) | ((with_reducible show PM.VW _ _ _); refine PM.VW.nr (by rfl) ?_) | ((with_reducible show PM.GV (PM.isiV _ _) _); (first | refine PM.GV.of (a := true) (by rfl) ?_ | refine PM.GV.of (a := false) (by rfl) ?_)) | ((with_reducible show PM.GV (PM.ixV _ _) _); refine PM.GV.of (by rfl) ?_) | ((with_reducible show PM.GV _ _); (first | (with_reducible refine PM.GV.addI ?_) | (with_reducible refine PM.GV.subI ?_) | (with_reducible refine PM.GV.ltI ?_) | (with_reducible refine PM.GV.leI ?_) | (with_reducible refine PM.GV.gtI ?_) | (with_reducible refine PM.GV.geI ?_) | (with_reducible refine PM.GV.eqI ?_) | (with_reducible refine PM.GV.neI ?_) | (with_reducible refine PM.GV.trB ?_) | (with_reducible refine PM.GV.trI ?_) | (with_reducible refine PM.GV.trN ?_) | (with_reducible refine PM.GV.intI ?_) | (with_reducible refine PM.GV.intB ?_) | (with_reducible refine PM.GV.absI ?_) | (with_reducible refine PM.GV.lenT ?_) | (with_reducible refine PM.GV.lenL ?_) | (with_reducible refine PM.GV.lenS ?_) | (with_reducible refine PM.GV.max2I ?_) | (with_reducible refine PM.GV.min2I ?_) | (with_reducible refine PM.GV.isN ?_) | (with_reducible refine PM.GV.notN ?_) | (with_reducible refine PM.GV.eqSS ?_) | (with_reducible refine PM.GV.neSS ?_) | (with_reducible refine PM.GV.eqS ?_) | (with_reducible refine PM.GV.neS ?_) | (with_reducible refine PM.GV.tupL ?_) | (with_reducible refine PM.GV.tupT ?_) | ((with_reducible refine PM.GV.modI ?_ ?_); (focus (first | assumption | omega))) | ((with_reducible refine PM.GV.fdivI ?_ ?_ ?_); (focus (first | assumption | omega)); (focus bv_omega)) | ((with_reducible refine PM.GV.mulI ?_ ?_ ?_); (focus bv_omega); (focus bv_omega)))) | ((with_reducible show PM.WA _ _ _ _ _ _); (first | refine PM.WA.cons ?_ | refine PM.WA.nil ?_)) | ((with_reducible show PM.WSS _ _ _ _ _ _); (first | refine PM.WSS.cons ?_ | refine PM.WSS.nil ?_)) | ((with_reducible show PM.SQ _ _ _); (first | refine PM.SQ.nx ?_ | refine PM.SQ.rt ?_ | refine PM.SQ.bk ?_ | refine PM.SQ.ct ?_)) | ((with_reducible show PM.WS _ _ _ _ _ _); (first | refine PM.WS.asg ?_ | refine PM.WS.ret ?_ | refine PM.WS.ite ?_ | refine PM.WS.ex ?_ | refine PM.WS.rais ?_ | refine PM.WS.seti ?_ | refine PM.WS.augA (by rfl) ?_ | refine PM.WS.augS (by rfl) ?_ | refine PM.WS.retn ?_ | refine PM.WS.pass ?_ | refine PM.WS.brk ?_ | refine PM.WS.cnt ?_ | refine PM.WS.fo ?_ | refine PM.WS.wh ?_ | refine PM.WS.tryc ?_)) | ((with_reducible show PM.TG _ _ _ _); (first | refine PM.TG.n (by rfl) ?_ | refine PM.TG.t ?_)) | ((with_reducible show PM.WT _ _ _ _ _ _); (first | refine PM.WT.cmp ?_ | refine PM.WT.and ?_ | refine PM.WT.or ?_ | refine PM.WT.not ?_ | refine PM.WT.ite ?_ | refine PM.WT.isi ?_ | refine PM.WT.pl (by rfl) ?_)) | ((with_reducible show PM.VWs _ _ _); (first | refine PM.VWs.cons ?_ | refine PM.VWs.nil ?_)) | ((with_reducible show PM.TGs _ _ _ _); (first | refine PM.TGs.cons ?_ | refine PM.TGs.nil ?_)) | refine PM.IsI.mk' ?_ | refine PM.IsB.mk' ?_ | refine PM.IsL.mk' ?_ | refine PM.P2.mk' ?_ | refine PM.IsE.mk' ?_ | refine PM.BR.T ?_ | refine PM.BR.F ?_ | refine PM.BR.n ?_ | ((with_reducible show PM.LP _ _ _ _); (first | refine PM.LP.nx ?_ | refine PM.LP.rt ?_ | refine PM.LP.ct ?_ | refine PM.LP.bk ?_)) | ((with_reducible show PM.PA _ _ _); refine PM.PA.mk (by rfl) ?_) | ((with_reducible show PM.WI _ _ _ _ _ _); (first | refine PM.WI.rng1 ?_ | refine PM.WI.rng2 ?_ | refine PM.WI.rng3 ?_ | refine PM.WI.seq ?_ | refine PM.WI.enum ?_ | refine PM.WI.zip ?_)) | ((with_reducible show PM.WO _ _ _ _ _ _); (first | refine PM.WO.no ?_ | refine PM.WO.so ?_)) | refine PM.EN.l ?_ | refine PM.EN.t ?_ | refine PM.ZP.l ?_ | refine PM.ZP.t ?_)
local macro_rules | `(tactic| bv_omega) => `(tactic| first | assumption | decide +kernel | (apply PM.SB.sz; (focus (repeat' (first | assumption | (apply PM.SB.le <;> omega) | apply PM.SB.mul | apply PM.SB.add | apply PM.SB.sub | apply PM.SB.neg))); decide))
local macro_rules | `(tactic| nofun) => `(tactic| repeat ((fail_if_success (with_reducible show PM.WSS _ (PM.Ss.cons _ _) _ _ _ _)); ac_rfl))
section
variable {Q : Cb t.G} {d : Nat} {Φ : List PM.Env} {st : Store} {X : Nat → PV → Store → Prop}
abbrev cR (Q : Cb t.G) (d : Nat) (Φ : List PM.Env) (st : Store) : Cfg := ⟨Q.cf (d + 8), Q.cl (d + 8), Q.W, fun ρ => Φ ++ [ρ], Φ.length, st.length⟩
abbrev KR (Φ : List PM.Env) (st : Store) : Fl → Store → Prop := fun fl st' => FK false Φ.length st.length fl st' (fun v _ => v = .bl true)
theorem rest1 {st1 : Store} {n B : Nat} {ρ : PM.Env} (hρ : Sh n ρ) (hp : Pot st1 n B) (hB : B ≤ 100000) (hl : st.length ≤ st1.length) (hW : 100000 ≤ Q.W)
    (k : ∀ s2 ob ρ', Sh n ρ' → PotS st1 s2 n (B + 1) → WSS (cR Q d Φ st) (dropSs 12 f38b) ρ' (s2 ++ [ob]) (KR Φ st) X) :
    WSS (cR Q d Φ st) (dropSs 1 f38b) ρ st1 (KR Φ st) X := by
  obtain ⟨y1, y2, y3, y4, y5, y6, y7, y8, y9, y10, y11, y12, y13, y14, y15, y16, y17, y18, y19, rfl⟩ := hρ
  unfold f38b at k ⊢
  simp only [dropSs] at k ⊢
  refine WSS.cons ?_
  repeat ac_rfl
  refine GV.mulTI (a := [0]) (n := 25) (by decide) (by decide) ?_
  repeat ac_rfl
  refine of_ (d := d + 6) (xs := oddsW) hp (by omega) (by decide) (by decide) (by decide +kernel) fun odd ho s1 q1 => ?_
  have o := oddW odd ho
  have len1 : st.length ≤ s1.length := by rw [q1.len]; exact hl
  nofun
  refine WSS.cons ?_
  repeat ac_rfl
  refine ⟨rfl, ?_⟩
  repeat ac_rfl
  refine GV.okE ?_
  repeat ac_rfl
  refine GV.appE (by show st.length ≤ s1.length; omega) rfl (by unfold SZ; simp) ?_
  repeat ac_rfl
  refine GV.okE ?_
  repeat ac_rfl
  refine GV.appE (by show st.length ≤ s1.length; omega) rfl (by unfold SZ; simp) ?_
  repeat ac_rfl
  refine GV.okE ?_
  repeat ac_rfl
  refine GV.appE (by show st.length ≤ s1.length; omega) rfl (by unfold SZ; simp) ?_
  repeat ac_rfl
  refine GV.okE ?_
  repeat ac_rfl
  refine GV.appE (by show st.length ≤ s1.length; omega) rfl (by unfold SZ; simp) ?_
  repeat ac_rfl
  refine GV.okE ?_
  repeat ac_rfl
  refine GV.appE (by show st.length ≤ s1.length; omega) rfl (by unfold SZ; simp) ?_
  repeat ac_rfl
  refine GV.okE ?_
  repeat ac_rfl
  refine GV.appE (by show st.length ≤ s1.length; omega) rfl (by unfold SZ; simp) ?_
  repeat ac_rfl
  refine GV.okE ?_
  repeat ac_rfl
  refine GV.appE (by show st.length ≤ s1.length; omega) rfl (by unfold SZ; simp) ?_
  repeat ac_rfl
  refine GV.seqE ?_
  refine CM.dyn (g := fun _ => .exc 2 odd) lastE (show _ < Q.W by simp; omega) (fun x hx => ?_) ?_
  · simp only [List.cons_append, List.nil_append, List.mem_cons, List.not_mem_nil, or_false] at hx
    rcases hx with rfl | rfl | rfl | rfl | rfl | rfl | rfl | rfl
    · refine CE.al ?_
      repeat ac_rfl
      refine heard (k := 2) (v := odd) phi_at o.nn (fun x => lk0 rfl o x) ?_
      repeat ac_rfl
      exact ⟨rfl, rfl⟩
    · refine CE.al ?_
      repeat ac_rfl
      refine heard (k := 2) (v := odd) phi_at o.nn (fun x => lk1 rfl o x) ?_
      repeat ac_rfl
      exact ⟨rfl, rfl⟩
    · refine CE.al ?_
      repeat ac_rfl
      refine heard (k := 2) (v := odd) phi_at o.nn (fun x => lk2 rfl o x) ?_
      repeat ac_rfl
      exact ⟨rfl, rfl⟩
    · refine CE.al ?_
      repeat ac_rfl
      refine heard (k := 2) (v := odd) phi_at o.nn (fun x => lk3 rfl o x) ?_
      repeat ac_rfl
      exact ⟨rfl, rfl⟩
    · refine CE.al ?_
      repeat ac_rfl
      refine heard (k := 2) (v := odd) phi_at o.nn (fun x => lk4 rfl o x) ?_
      repeat ac_rfl
      exact ⟨rfl, rfl⟩
    · refine CE.al ?_
      repeat ac_rfl
      refine heard (k := 2) (v := odd) phi_at o.nn (fun x => lk5 rfl o x) ?_
      repeat ac_rfl
      exact ⟨rfl, rfl⟩
    · refine CE.al ?_
      repeat ac_rfl
      refine heard (k := 2) (v := odd) phi_at o.nn (fun x => lk6 rfl o x) ?_
      repeat ac_rfl
      exact ⟨rfl, rfl⟩
    · refine CE.al ?_
      repeat ac_rfl
      refine heard (k := 2) (v := odd) phi_at o.nn (fun x => lk7 rfl o x) ?_
      repeat ac_rfl
      exact ⟨rfl, rfl⟩
  repeat ac_rfl
  refine GV.of (a := .fix _) rfl ?_
  refine CM.map _ (fun _ => .exc 2 odd) (fun _ => .bl true) rfl (fun x hx => ?_) ?_
  · refine CE.al ?_
    repeat ac_rfl
    refine VW.nr (nor_nr o.nn) ?_
    repeat ac_rfl
    refine GV.repr o.sh (by decide) (by decide) ?_
    repeat ac_rfl
    refine VW.nr (nor_nr o.nn) ?_
    repeat ac_rfl
    refine GV.repr o.sh (by decide) (by decide) ?_
    repeat ac_rfl
    exact ⟨rfl, rfl⟩
  repeat ac_rfl
  refine GV.all (p := fun _ => true) ?_
  nofun
  try (refine BR.tr (all_t _) ?_)
  nofun
  exact k s1 _ _ ⟨_, _, _, _, _, _, _, _, _, _, _, _, _, _, _, _, _, _, _, rfl⟩ q1
theorem rest2 {st1 : Store} {n B : Nat} {ρ : PM.Env} (hρ : Sh n ρ) (hp : Pot st1 n B) (hB : B ≤ 100000) (hl : st.length ≤ st1.length) (hW : 100000 ≤ Q.W)
    (k : ∀ s2 ob ρ', Sh n ρ' → PotS st1 s2 n (B + 1) → WSS (cR Q d Φ st) (dropSs 20 f38b) ρ' (s2 ++ [ob]) (KR Φ st) X) :
    WSS (cR Q d Φ st) (dropSs 12 f38b) ρ st1 (KR Φ st) X := by
  obtain ⟨y1, y2, y3, y4, y5, y6, y7, y8, y9, y10, y11, y12, y13, y14, y15, y16, y17, y18, y19, rfl⟩ := hρ
  unfold f38b at k ⊢
  simp only [dropSs] at k ⊢
  refine WSS.cons ?_
  repeat ac_rfl
  refine of_ (d := d + 6) (xs := oddsI) hp (by omega) (by decide) (by decide) (by decide +kernel) fun odd ho s1 q1 => ?_
  have o := oddI odd ho
  have len1 : st.length ≤ s1.length := by rw [q1.len]; exact hl
  nofun
  refine WSS.cons ?_
  repeat ac_rfl
  refine ⟨rfl, ?_⟩
  repeat ac_rfl
  refine GV.okE ?_
  repeat ac_rfl
  refine GV.appE (by show st.length ≤ s1.length; omega) rfl (by unfold SZ; simp) ?_
  repeat ac_rfl
  refine GV.okE ?_
  repeat ac_rfl
  refine GV.appE (by show st.length ≤ s1.length; omega) rfl (by unfold SZ; simp) ?_
  repeat ac_rfl
  refine GV.okE ?_
  repeat ac_rfl
  refine GV.appE (by show st.length ≤ s1.length; omega) rfl (by unfold SZ; simp) ?_
  repeat ac_rfl
  refine GV.okE ?_
  repeat ac_rfl
  refine GV.appE (by show st.length ≤ s1.length; omega) rfl (by unfold SZ; simp) ?_
  repeat ac_rfl
  refine GV.seqE ?_
  refine CM.dyn (g := fun _ => .exc 1 odd) lastE (show _ < Q.W by simp; omega) (fun x hx => ?_) ?_
  · simp only [List.cons_append, List.nil_append, List.mem_cons, List.not_mem_nil, or_false] at hx
    rcases hx with rfl | rfl | rfl | rfl | rfl
    · refine CE.al ?_
      repeat ac_rfl
      refine heard (k := 1) (v := odd) phi_at o.nn (fun x => lk8 rfl o x) ?_
      repeat ac_rfl
      exact ⟨rfl, rfl⟩
    · refine CE.al ?_
      repeat ac_rfl
      refine heard (k := 1) (v := odd) phi_at o.nn (fun x => lk9 rfl o x) ?_
      repeat ac_rfl
      exact ⟨rfl, rfl⟩
    · refine CE.al ?_
      repeat ac_rfl
      refine heard (k := 1) (v := odd) phi_at o.nn (fun x => lk10 rfl o x) ?_
      repeat ac_rfl
      exact ⟨rfl, rfl⟩
    · refine CE.al ?_
      repeat ac_rfl
      refine heard (k := 1) (v := odd) phi_at o.nn (fun x => lk11 rfl o x) ?_
      repeat ac_rfl
      exact ⟨rfl, rfl⟩
    · refine CE.al ?_
      repeat ac_rfl
      refine heard (k := 1) (v := odd) phi_at o.nn (fun x => lk12 rfl o x) ?_
      repeat ac_rfl
      exact ⟨rfl, rfl⟩
  repeat ac_rfl
  refine GV.of (a := .fix _) rfl ?_
  refine CM.map _ (fun _ => .exc 1 odd) (fun _ => .bl true) rfl (fun x hx => ?_) ?_
  · refine CE.al ?_
    repeat ac_rfl
    refine VW.nr (nor_nr o.nn) ?_
    repeat ac_rfl
    refine GV.repr o.sh (by decide) (by decide) ?_
    repeat ac_rfl
    refine VW.nr (nor_nr o.nn) ?_
    repeat ac_rfl
    refine GV.repr o.sh (by decide) (by decide) ?_
    repeat ac_rfl
    exact ⟨rfl, rfl⟩
  repeat ac_rfl
  refine GV.all (p := fun _ => true) ?_
  nofun
  try (refine BR.tr (all_t _) ?_)
  nofun
  exact k s1 _ _ ⟨_, _, _, _, _, _, _, _, _, _, _, _, _, _, _, _, _, _, _, rfl⟩ q1
theorem rest3 {st1 : Store} {n : Nat} {ρ : PM.Env} (hρ : Sh n ρ) (hl : st.length ≤ st1.length) :
    WSS (cR Q d Φ st) (dropSs 20 f38b) ρ st1 (KR Φ st) X := by
  obtain ⟨y1, y2, y3, y4, y5, y6, y7, y8, y9, y10, y11, y12, y13, y14, y15, y16, y17, y18, y19, rfl⟩ := hρ
  unfold f38b
  simp only [dropSs]
  refine WSS.cons ?_
  repeat ac_rfl
  refine heard (k := 1) (v := .int 0) phi_at rfl (fun x => lk13 x) ?_
  repeat ac_rfl
  refine heard_round ?_
  repeat ac_rfl
  refine GV.of (a := .fix [.exc 1 (.int 0), .exc 1 (.int 0)]) rfl ?_
  refine CM.map [(), ()] (fun _ => .exc 1 (.int 0)) (fun _ => .bl true) rfl (fun x hx => ?_) ?_
  · have sh0 : Shw 0 63 (.int 0) := i1 (by decide)
    refine CE.al ?_
    repeat ac_rfl
    refine GV.repr sh0 (by decide) (by decide) ?_
    repeat ac_rfl
    have e : decide (shwS (.int 0) = ("0" : PySem.Str)) = true := by decide +kernel
    rw [e]
    exact ⟨rfl, rfl⟩
  repeat ac_rfl
  refine GV.all (p := fun _ => true) ?_
  repeat ac_rfl
  exact FK.rt rfl rfl
theorem law_right {n : Nat} (hp : Pot st n 0) (hW : 100000 ≤ Q.W) : WR (Q.cf (d + 9) 38 [.ref n] Φ st) (fun v _ => v = .bl true) NX := by
  refine C38 ?_
  show WSS (cR Q d Φ st) (dropSs 0 f38b) _ _ (KR Φ st) _
  have r := fun (ρ : PM.Env) (st1 : Store) (hρ : Sh n ρ) (ps : PotS st st1 n 800) => rest1 (Q := Q) (d := d) (Φ := Φ) (st := st) (X := fun k v st' => nor v = true ∧ NX k v (st'.take st.length)) hρ ps.pot (by decide) (by rw [ps.len]; exact Nat.le_refl _) hW fun s2 ob ρ2 h2 p2 =>
    rest2 h2 p2.pot.app (by decide) (by have := p2.len; have := ps.len; simp; omega) hW fun s3 ob3 ρ3 h3 p3 =>
    rest3 h3 (by have := p3.len; have := p2.len; have := ps.len; simp at *; omega)
  have e : dropSs 0 f38b = .cons (.fo (Tg.n 1) (It.rng1 (E.k (PV.int (8)))) lapB) (dropSs 1 f38b) := rfl
  rw [e]
  refine WSS.cons ?_
  refine WS.fo (WI.rng1 ?_)
  repeat ac_rfl
  refine ⟨⟨by decide +kernel, by decide +kernel⟩, ?_⟩
  refine WL.ix (fun k ρ st' => PotS st st' n (100 * k) ∧ Sh n ρ) ⟨PotS.refl hp, none, none, none, none, none, none, none, none, none, none, none, none, none, none, none, none, none, none, none, rfl⟩ ?_ ?_
  · rintro k hk ρ st1 ⟨ps, y1, y2, y3, y4, y5, y6, y7, y8, y9, y10, y11, y12, y13, y14, y15, y16, y17, y18, y19, rfl⟩
    rw [rangeL_len] at hk
    have hk : k < 8 := hk
    refine TG.n rfl ?_
    refine lap (d := d) ⟨_, _, _, _, _, _, _, _, _, _, _, _, _, _, _, _, _, _, _, rfl⟩ ps.pot (by omega) hW fun ρ' st' hs ps2 => ?_
    exact LP.nx ⟨(ps.trans ps2).mono (by omega), hs⟩
  · rintro ρ st1 ⟨ps, hs⟩
    rw [rangeL_len] at ps
    exact SQ.nx (r ρ st1 hs ps)
end
theorem hev (ns : List Int) (hl : ns.length ≤ 63) : ∃ W st', (PM.callB K45.t.G W 12).1 40 [.scr ns] [] [] = .ok (.bl true) st' := by
  refine ⟨100000000000000000000, ?_⟩
  let Q : Cb t.G := Cb.of t.G 100000000000000000000
  have h : WR (Q.cf (11 + 1) 40 [.scr ns] [] []) (fun v _ => v = .bl true) NX := by
    refine C40 ?_
    unfold f40b
    refine WSS.cons (WS.ret (law_W (Q := Q) (d := 10) (ns := ns) (fun h => C25 h) (fun h => C22 h) (fun {Φ st n} h => law_right (Q := Q) (d := 2) h (by decide)) (by decide) (by decide) (by unfold SB; decide) (by decide) (by unfold SB; decide) (by unfold SB; decide) (by unfold SB; decide) (by decide) (by unfold SB; decide) rfl (by simp) (by decide) fun st' => ?_))
    exact SQ.rt (FK.rt rfl rfl)
  have h : WR ((callB t.G 100000000000000000000 12).1 40 [.scr ns] [] []) (fun v _ => v = .bl true) NX := h
  cases e : (callB t.G 100000000000000000000 12).1 40 [.scr ns] [] [] with
  | ok v st' =>
    rw [e] at h
    exact ⟨st', by rw [show v = .bl true from h]⟩
  | exc k v st' => rw [e] at h; exact h.elim
  | bad => rw [e] at h; exact h.elim
end K45
set_option Elab.async false
set_option linter.all false
set_option maxRecDepth 100000
set_option maxHeartbeats 0
open PySem PySem.W PySem.Calls PyProof.Rows
theorem PySem.Challenge.cw_comesouteven_k45_whole_ribs_that_flow_on_holds : PySem.Challenge.rw_comesouteven_k45_whole_ribs_that_flow_on.Holds := by
  w_on; o_law
  refine HandSHeadRun.head_any (r := OpenLaw.row PySem.Challenge.rw_comesouteven_k45_whole_ribs_that_flow_on) (q := view (OpenLaw.row PySem.Challenge.rw_comesouteven_k45_whole_ribs_that_flow_on).prog [50]) (H := K45.hk) (ob := K45.ob) (M := 4000) (loose := K45.loose) (d := HandSHeadRun.topDef (OpenLaw.row PySem.Challenge.rw_comesouteven_k45_whole_ribs_that_flow_on).prog 50) (kwd := []) K45.ob_eq
    (by kernel_rfl) (fun s => by kernel_rfl) K45.run (by kernel_rfl) (by kernel_rfl) (by kernel_rfl) (by rfl) (by first | assumption | decide +kernel) (by decide +kernel) ⟨rfl, rfl, rfl, rfl, rfl, by decide +kernel⟩ ?hw ?hc
  case hw => w_witness2
  case hc =>
    exact PM.walk_pm (t := K45.t) (m := 5) (n := 63) (i := 40) (dd := 11) (fi := K45.fn 40) (x := "script") rfl (by decide) (by kernel_rfl) ⟨rfl, by decide, by decide⟩ (K45.fn_at (by decide)) (by kernel_rfl) (by kernel_rfl) (by rw [K45.sh_eq]; decide +kernel) K45.ec_ok K45.binds (by decide +kernel) (by kernel_rfl) fun ns hl _ => K45.hev ns hl
