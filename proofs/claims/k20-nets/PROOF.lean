import PyProof.Rows.All
import Wide.All
import OpenK.AllK
import Wide.FinOn
import PyProof.EqAt
import PyProof.EqKinds
import PyProof.TupleCall
import KE.SortData
import KE.DataCmp
import PyProof.ReprReads
import PyProof.ReprRoads
import HandS.ForMost
import HandS.ForExc
import HandS.TupAny
import HandS.Style
import HandS.TupMul
import HandS.Wide
import HandS.Deep
import HandS.IsInst
import HandS.RaiseMore
import HandS.Text
import PyProof.TwoTypesSub
import PyProof.FactsAll.bool
import PyProof.NeKinds
import KE.DataFind
import HandS.WordsExc
import HandS.Comp
import HandS.Iter
import HandS.Zip
import HandS.WordsDict
import HandS.Strs
import KE.KSortTupAny
import HandS.SetFor
import HandS.Conv
import HandS.ExcField
import KE.KExcIs
import HandS.ExcOwn
import HandS.ExcValue
import HandS.ExcSuper
import HandS.ExcInit
import HandS.FStr
import KE.KSuper
import HandS.HeadHook2
import HandS.Ends
import HandS.HeadEnd
import HandS.EndBits
import HandS.Head2
import PySem.Challenge.RW_toldroads_k20_nets
import HandS.Codes
import KE.IntTextLaws
import PyProof.ReprLen
section SEvCore
set_option Elab.async false
set_option linter.all false
set_option maxRecDepth 100000
namespace EV
open PySem

abbrev D := PyData
/-- the kinds that isinstance asks for -/
inductive Ty | int | bool | str | tuple | list | dict
  deriving DecidableEq

inductive Prim
  | add | sub | mul | fdiv | mod | pow | neg
  | eq | ne | lt | le | gt | ge | isin | notin | isnone | notnone | isC (b : Bool) | isnotC (b : Bool)
  | idx | slc | rev | opti | ostr | oseq
  | len | abs | toint | tostr | repr | sorted | sortset | lenset | list | tuple | all | any | sum | min1 | max1 | min2 | max2
  | isi (t : Ty) | split | partition | join | index | get2 | range1 | range2 | range3 | trange | lrange
  | fmt (parts : List (Option Str))

/-- what is walked -/
inductive ItK | val | range | enum | zip | items | values

inductive Tgt
  | nm (i : Nat)
  | tup (is : List Nat)

inductive Ex
  | var (i : Nat)
  | pk (i : Nat)
  | mt (i : Nat)
  | cst (d : D)
  | gl (x : Str) (d : D)
  | fnv (x : Str) (f : Nat)
  | pr (p : Prim) (as : List Ex)
  | tup (as : List Ex)
  | lst (as : List Ex)
  | dct (ks vs : List Ex)
  | not_ (a : Ex)
  | and_ (as : List Ex)
  | or_ (as : List Ex)
  | ife (c a b : Ex)
  | chain (p : Prim) (q : Prim) (a b c : Ex)
  | call (f : Nat) (as : List Ex)
  | lc (e : Ex) (t : Tgt) (k : ItK) (as : List Ex) (cs : List Ex) (own : List Nat)
  | dc (e v : Ex) (t : Tgt) (k : ItK) (as : List Ex) (cs : List Ex) (own : List Nat)
  | isx (e : Ex) (c : Nat)
  | fld (e : Ex) (cs : List Nat) (x : Nat)
  | scut (i : Nat) (lo hi : Ex)

inductive Mut | append | extend | remove | pop0 | sort
inductive Sm
  | set (i : Nat) (e : Ex)
  | setT (is : List Nat) (e : Ex)
  | setP (is : List Nat) (es : List Ex)
  | setIx (i : Nat) (k v : Ex)
  | aug (i : Nat) (p : Prim) (e : Ex)
  | ret (e : Ex)
  | retMv (i : Nat)
  | if_ (c : Ex) (a b : List Sm)
  | for_ (t : Tgt) (k : ItK) (as : List Ex) (body : List Sm)
  | while_ (c : Ex) (body : List Sm)
  | brk
  | cont
  | pass
  | expr (e : Ex)
  | mut (m : Mut) (i : Nat) (as : List Ex)
  | setPop (t : Tgt) (i : Nat) (as : List Ex)
  | raise (c : Nat) (as : List Ex)
  | raiseF (c n : Nat) (ib : Bool) (as : List Ex)
  | try_ (body : List Sm) (c : Nat) (i : Nat) (j : Nat)

structure Fn where
  np : Nat
  ns : Nat
  io : List Nat
  body : List Sm

inductive Val
  | dat (d : D)
  | exc (c : Nat) (fs : List D)
  | fn (f : Nat)
  | ol (ds : List D)
  | od (kvs : List (D × D))
  | scr (ds : List D)

abbrev Env := List (Option Val)
inductive Out (α : Type) where
  | ok (a : α) (ρ : Env)
  | exc (c : Nat) (fs : List D) (ρ : Env)
  | stuck
inductive Fl
  | nx
  | rt (v : Val)
  | bk
  | ct
inductive CRes
  | ret (v : Val) (outs : List Val)
  | exc (c : Nat) (fs : List D) (outs : List Val)
  | stuck

def Out.bind {α β : Type} (o : Out α) (f : α → Env → Out β) : Out β :=
  match o with
  | .ok a ρ => f a ρ
  | .exc c fs ρ => .exc c fs ρ
  | .stuck => .stuck
def ofO {α : Type} (o : Option α) (ρ : Env) : Out α :=
  match o with
  | some a => .ok a ρ
  | none => .stuck

/-- as data, where it stands for data -/
def Val.data : Val → Option D
  | .dat d => some d
  | .ol ds => some (.list ds)
  | .od kvs => some (.dict kvs)
  | _ => none
/-- frozen -/
def Val.frz : Val → Val
  | .ol ds => .dat (.list ds)
  | .od kvs => .dat (.dict kvs)
  | v => v
end EV
end SEvCore
section SEvSem
set_option Elab.async false
set_option linter.all false
set_option maxRecDepth 100000
namespace EV
open PySem

def fit (n : Nat) : Bool := n ≤ 16777216
def deepD : Nat := 60

inductive PR
  | dat (d : D)
  | lst (ds : List D)
  | dic (kvs : List (D × D))
def PR.val : PR → Val
  | .dat d => .dat d
  | .lst ds => .ol ds
  | .dic kvs => .od kvs

def opInt : D → Option (Option Int)
  | .none => some none
  | .int i => some (some i)
  | _ => none
def cutD (xs : List D) (lo hi : Option Int) : List D := (xs.drop (HT.sIx xs.length 0 lo)).take (HT.sIx xs.length xs.length hi - HT.sIx xs.length 0 lo)
def small64 (i : Int) : Bool := i.natAbs < 18446744073709551616
def strsOf : List D → Option (List Str)
  | [] => some []
  | .str x :: ds => (strsOf ds).map (x :: ·)
  | _ => none
def intsOf : List D → Option (List Int)
  | [] => some []
  | .int x :: ds => (intsOf ds).map (x :: ·)
  | _ => none
def boolsOf : List D → Option (List Bool)
  | [] => some []
  | .bool x :: ds => (boolsOf ds).map (x :: ·)
  | _ => none
/-- told apart by the lengths alone -/
def lenOk : D → D → Bool
  | .list a, .list b => a.length != b.length
  | .tuple a, .tuple b => a.isEmpty || b.isEmpty
  | .str _, .str _ => true
  | _, _ => false
def eqOk (a b : D) : Bool := lenOk a b || (a.canLay0 && b.canLay0 && decide (min a.depth b.depth ≤ deepD))
def inOk (x : D) (xs : List D) : Bool := x.canLay0 && PyData.canLayAll0 xs && decide (x.depth ≤ deepD)
def cmpOk (a b : D) : Bool := a.canLay0 && b.canLay0 && PySem.W.alike a b && (match a with | .none => false | _ => true) && decide (min a.depth b.depth ≤ deepD)
def isTupC : D → Bool
  | .tuple (_ :: _) => true
  | _ => false
def notTN : D → Bool
  | .tuple _ => false
  | .none => false
  | _ => true
/-- may be sorted -/
def allAlike (xs : List D) : Bool := PyData.canLayAll0 xs && (xs.all fun x => xs.all fun y => PySem.W.alike x y) && (xs.all isTupC || xs.all notTN) && decide (PyData.depthAll xs ≤ deepD)
def tyB (t : Ty) (d : D) : Bool :=
  match t, d with
  | .int, .int _ => true
  | .int, .bool _ => true
  | .bool, .bool _ => true
  | .str, .str _ => true
  | .tuple, .tuple _ => true
  | .list, .list _ => true
  | .dict, .dict _ => true
  | _, _ => false
def rangeL (a b : Int) : List D := (List.range (b - a).toNat).map fun (k : Nat) => .int (a + k)
def fmtD (parts : List (Option Str)) (ds : List D) : Option Str :=
  match parts, ds with
  | [], [] => some ⟨#[]⟩
  | some x :: ps, ds => (fmtD ps ds).map (x ++ ·)
  | none :: ps, .str x :: ds => (fmtD ps ds).map (x ++ ·)
  | none :: ps, .int i :: ds => if i.natAbs.log2 < 1920 then (fmtD ps ds).map (toString i ++ ·) else none
  | _, _ => none
/-- insertion into an ascending list, ahead of equal ones -/
def insD (x : D) : List D → List D
  | [] => [x]
  | y :: ys => if PySem.W.dataLt y x then y :: insD x ys else x :: y :: ys
def sortD : List D → List D
  | [] => []
  | x :: xs => insD x (sortD xs)
def isinD (x : D) (xs : List D) : Bool := xs.any fun z => PyData.eqv z x
def idxD (x : D) : List D → Option Nat
  | [] => none
  | y :: ys => if PyData.eqv y x then some 0 else (idxD x ys).map (· + 1)
def uniqD : List D → List D
  | [] => []
  | x :: xs => x :: (uniqD xs).filter fun y => !PyData.eqv y x

def pAdd (as : List D) : Option PR :=
  match as with
  | [.int a, .int b] => some (.dat (.int (a + b)))
  | [.str a, .str b] => if fit (a.length + b.length) then some (.dat (.str (a ++ b))) else none
  | [.tuple a, .tuple b] => if fit (a.length + b.length) then some (.dat (.tuple (a ++ b))) else none
  | [.list a, .list b] => if fit (a.length + b.length) then some (.lst (a ++ b)) else none
  | [.bool a, .int b] => some (.dat (.int ((if a then 1 else 0) + b)))
  | _ => none
def pSub (as : List D) : Option PR :=
  match as with
  | [.bool a, .int b] => some (.dat (.int ((if a then 1 else 0) - b)))
  | [.int a, .bool b] => some (.dat (.int (a - (if b then 1 else 0))))
  | [.int a, .int b] => some (.dat (.int (a - b)))
  | _ => none
def pTostr (as : List D) : Option PR :=
  match as with
  | [.int i] => if i.natAbs.log2 < 1920 then some (.dat (.str (toString i))) else none
  | [.str z] => some (.dat (.str z))
  | _ => none
def pMul (as : List D) : Option PR :=
  match as with
  | [.int a, .int b] => if small64 a || small64 b then some (.dat (.int (a * b))) else none
  | [.tuple a, .int k] => if 2 ≤ k && k ≤ 1000 && decide (0 < a.length) && decide (a.length ≤ 1000) then some (.dat (.tuple (List.replicate k.toNat a).flatten)) else none
  | [.list a, .int k] => if -9223372036854775808 ≤ k && k < 9223372036854775808 && fit (a.length * k.toNat) then some (.lst (List.replicate k.toNat a).flatten) else none
  | _ => none
def pFdiv (as : List D) : Option PR :=
  match as with
  | [.int a, .int b] => if 0 < b && small64 b then some (.dat (.int (a / b))) else none
  | _ => none
def pMod (as : List D) : Option PR :=
  match as with
  | [.int a, .int b] => if 0 < b then some (.dat (.int (a % b))) else none
  | _ => none
def pPow (as : List D) : Option PR :=
  match as with
  | [.int a, .int b] => if 0 ≤ b && b ≤ 1000000 && small64 a then some (.dat (.int (a ^ b.toNat))) else none
  | _ => none
def pNeg (as : List D) : Option PR :=
  match as with
  | [.int a] => some (.dat (.int (-a)))
  | _ => none
def pEq (as : List D) : Option PR :=
  match as with
  | [a, b] => if eqOk a b then some (.dat (.bool (PyData.eqv a b))) else none
  | _ => none
def pNe (as : List D) : Option PR :=
  match as with
  | [a, b] => if eqOk a b then some (.dat (.bool (!PyData.eqv a b))) else none
  | _ => none
def pLt (as : List D) : Option PR :=
  match as with
  | [a, b] => if cmpOk a b then some (.dat (.bool (PySem.W.dataLt a b))) else none
  | _ => none
def pGt (as : List D) : Option PR :=
  match as with
  | [a, b] => if cmpOk a b then some (.dat (.bool (PySem.W.dataLt b a))) else none
  | _ => none
def pLe (as : List D) : Option PR :=
  match as with
  | [a, b] => if cmpOk a b then some (.dat (.bool (!PySem.W.dataLt b a))) else none
  | _ => none
def pGe (as : List D) : Option PR :=
  match as with
  | [a, b] => if cmpOk a b then some (.dat (.bool (!PySem.W.dataLt a b))) else none
  | _ => none
def pIsin (as : List D) : Option PR :=
  match as with
  | [.str a, .str b] => some (.dat (.bool (!(Builtin.Str.occurrences b a 0 b.length 1).isEmpty)))
  | [x, .list xs] => if inOk x xs then some (.dat (.bool (isinD x xs))) else none
  | [x, .tuple xs] => if inOk x xs then some (.dat (.bool (isinD x xs))) else none
  | _ => none
def pNotin (as : List D) : Option PR :=
  match as with
  | [.str a, .str b] => some (.dat (.bool (!(!(Builtin.Str.occurrences b a 0 b.length 1).isEmpty))))
  | [x, .list xs] => if inOk x xs then some (.dat (.bool (!isinD x xs))) else none
  | [x, .tuple xs] => if inOk x xs then some (.dat (.bool (!isinD x xs))) else none
  | _ => none
def isNonD : D → Bool
  | .none => true
  | _ => false
def pIsnone (as : List D) : Option PR :=
  match as with
  | [d] => some (.dat (.bool (isNonD d)))
  | _ => none
def pNotnone (as : List D) : Option PR :=
  match as with
  | [d] => some (.dat (.bool (!isNonD d)))
  | _ => none
def pIsC (b : Bool) (as : List D) : Option PR :=
  match as with
  | [.bool c] => some (.dat (.bool (c == b)))
  | _ => none
def pIsnotC (b : Bool) (as : List D) : Option PR :=
  match as with
  | [.bool c] => some (.dat (.bool (!(c == b))))
  | _ => none
def pIdx (as : List D) : Option PR :=
  match as with
  | [.list xs, .int i] => (L2.atI xs i).map .dat
  | [.tuple xs, .int i] => (L2.atI xs i).map .dat
  | [.str z, .int i] => if fit z.length then (L2.atI z.cps.toList i).map fun c => .dat (.str ⟨#[c]⟩) else none
  | _ => none
def pSlc (as : List D) : Option PR :=
  match as with
  | [.list xs, lo, hi] => match opInt lo, opInt hi with | some l, some h => some (.lst (cutD xs l h)) | _, _ => none
  | [.tuple xs, lo, hi] => match opInt lo, opInt hi with | some l, some h => some (.dat (.tuple (cutD xs l h))) | _, _ => none
  | [.str z, lo, hi] => match opInt lo, opInt hi with | some l, some h => if fit z.length then some (.dat (.str (L2.cutS z l h))) else none | _, _ => none
  | _ => none
def pOpti (as : List D) : Option PR :=
  match as with
  | [.int i] => some (.dat (.int i))
  | _ => none
def pOstr (as : List D) : Option PR :=
  match as with
  | [.str z] => some (.dat (.str z))
  | _ => none
def pOseq (as : List D) : Option PR :=
  match as with
  | [.list xs] => some (.dat (.list xs))
  | [.tuple xs] => some (.dat (.tuple xs))
  | _ => none
def pRev (as : List D) : Option PR :=
  match as with
  | [.list xs] => some (.lst xs.reverse)
  | [.tuple xs] => some (.dat (.tuple xs.reverse))
  | _ => none
def pLen (as : List D) : Option PR :=
  match as with
  | [.list xs] => some (.dat (.int xs.length))
  | [.tuple xs] => some (.dat (.int xs.length))
  | [.str z] => if fit z.length then some (.dat (.int z.length)) else none
  | [.dict kvs] => some (.dat (.int kvs.length))
  | _ => none
def pAbs (as : List D) : Option PR :=
  match as with
  | [.int i] => some (.dat (.int (if i < 0 then -i else i)))
  | _ => none
def pToint (as : List D) : Option PR :=
  match as with
  | [.int i] => some (.dat (.int i))
  | [.bool b] => some (.dat (.int (if b then 1 else 0)))
  | [.str z] => if z.length ≤ 640 then (intText? z).map fun n => .dat (.int n) else none
  | _ => none
def pRepr (as : List D) : Option PR :=
  match as with
  | [d] => if d.showable && decide (d.depth ≤ deepD) && fit d.shown.length then some (.dat (.str d.shown)) else none
  | _ => none
def pSorted (as : List D) : Option PR :=
  match as with
  | [.list xs] => if allAlike xs then some (.lst (sortD xs)) else none
  | [.tuple xs] => if allAlike xs then some (.lst (sortD xs)) else none
  | _ => none
/-- into a strictly ascending list -/
def insI (x : Int) : List Int → List Int
  | [] => [x]
  | y :: l => if x < y then x :: y :: l else if x = y then y :: l else y :: insI x l
def ssI : List Int → List Int
  | [] => []
  | n :: ns => insI n (ssI ns)
def pSortset (as : List D) : Option PR :=
  match as with
  | [.list xs] => (intsOf xs).bind fun ns => if ns.length < 60 then some (.lst ((ssI ns).map .int)) else none
  | _ => none
def pList (as : List D) : Option PR :=
  match as with
  | [.list xs] => some (.lst xs)
  | [.tuple xs] => some (.lst xs)
  | _ => none
def pTuple (as : List D) : Option PR :=
  match as with
  | [.list xs] => some (.dat (.tuple xs))
  | [.tuple xs] => some (.dat (.tuple xs))
  | _ => none
def pAll (as : List D) : Option PR :=
  match as with
  | [.list xs] => (boolsOf xs).map fun bs => .dat (.bool (bs.all id))
  | _ => none
def pAny (as : List D) : Option PR :=
  match as with
  | [.list xs] => (boolsOf xs).map fun bs => .dat (.bool (bs.any id))
  | _ => none
def pSum (as : List D) : Option PR :=
  match as with
  | [.list xs] => (intsOf xs).map fun ns => .dat (.int ns.sum)
  | _ => none
def pMin2 (as : List D) : Option PR :=
  match as with
  | [.int a, .int b] => some (.dat (.int (if b < a then b else a)))
  | _ => none
def pMax2 (as : List D) : Option PR :=
  match as with
  | [.int a, .int b] => some (.dat (.int (if b > a then b else a)))
  | _ => none
def pIsi (t : Ty) (as : List D) : Option PR :=
  match as with
  | [d] => some (.dat (.bool (tyB t d)))
  | _ => none
def pSplit (as : List D) : Option PR :=
  match as with
  | [.str a, .str b] => if !(b.length == 0) && fit (a.length + 2) then some (.lst ((Txt.split a b).map .str)) else none
  | _ => none
def pPartition (as : List D) : Option PR :=
  match as with
  | [.str a, .str b] => if !(b.length == 0) && fit a.length then some (.dat (.tuple [.str (Txt.partition a b).1, .str (Txt.partition a b).2.1, .str (Txt.partition a b).2.2])) else none
  | _ => none
def pRange1 (as : List D) : Option PR :=
  match as with
  | [.int n] => if fit n.toNat then some (.lst (rangeL 0 n)) else none
  | _ => none
def pRange2 (as : List D) : Option PR :=
  match as with
  | [.int a, .int b] => if fit (b - a).toNat && small64 a && small64 b then some (.lst (rangeL a b)) else none
  | _ => none
def small62a (i : Int) : Bool := i.natAbs < 4611686018427387904
def rgArgs (as : List D) : Option (Int × Int) :=
  match as with
  | [.int n] => if small62a n && fit n.toNat then some (0, n) else none
  | [.int a, .int b] => if small62a a && small62a b && fit (b - a).toNat then some (a, b) else none
  | _ => none
def pTrange (as : List D) : Option PR := (rgArgs as).map fun p => .dat (.tuple (rangeL p.1 p.2))
def pLrange (as : List D) : Option PR := (rgArgs as).map fun p => .lst (rangeL p.1 p.2)
def pIndex (as : List D) : Option PR :=
  match as with
  | [.list xs, x] => if inOk x xs then (idxD x xs).map fun (k : Nat) => PR.dat (.int (k : Int)) else none
  | [.tuple xs, x] => if inOk x xs then (idxD x xs).map fun (k : Nat) => PR.dat (.int (k : Int)) else none
  | _ => none
def pFmt (ps : List (Option Str)) (as : List D) : Option PR :=
  match as with
  | ds => (fmtD ps ds).bind fun z => if fit z.length then some (.dat (.str z)) else none
def psem (p : Prim) (as : List D) : Option PR :=
  match p with
  | .add => pAdd as
  | .sub => pSub as
  | .tostr => pTostr as
  | .mul => pMul as
  | .fdiv => pFdiv as
  | .mod => pMod as
  | .pow => pPow as
  | .neg => pNeg as
  | .eq => pEq as
  | .ne => pNe as
  | .lt => pLt as
  | .gt => pGt as
  | .le => pLe as
  | .ge => pGe as
  | .isin => pIsin as
  | .notin => pNotin as
  | .isnone => pIsnone as
  | .notnone => pNotnone as
  | .isC b => pIsC b as
  | .isnotC b => pIsnotC b as
  | .idx => pIdx as
  | .slc => pSlc as
  | .rev => pRev as
  | .opti => pOpti as
  | .ostr => pOstr as
  | .oseq => pOseq as
  | .len => pLen as
  | .abs => pAbs as
  | .toint => pToint as
  | .repr => pRepr as
  | .sorted => pSorted as
  | .sortset => pSortset as
  | .list => pList as
  | .tuple => pTuple as
  | .all => pAll as
  | .any => pAny as
  | .sum => pSum as
  | .min2 => pMin2 as
  | .max2 => pMax2 as
  | .isi t => pIsi t as
  | .split => pSplit as
  | .partition => pPartition as
  | .range1 => pRange1 as
  | .range2 => pRange2 as
  | .index => pIndex as
  | .trange => pTrange as
  | .lrange => pLrange as
  | .fmt ps => pFmt ps as
  | _ => none

/-- what a loop walks, as data -/
def small62 (i : Int) : Bool := i.natAbs < 4611686018427387904
def iVal (as : List D) : Option (List D) :=
  match as with
  | [.list xs] => some xs
  | [.tuple xs] => some xs
  | [.str z] => some (z.cps.toList.map fun c => .str ⟨#[c]⟩)
  | _ => none
def iRange (as : List D) : Option (List D) :=
  match as with
  | [.int n] => if small62 n && decide (n ≤ 16777216) then some (rangeL 0 n) else none
  | [.int a, .int b] => if small62 a && small62 b && fit (b - a).toNat then some (rangeL a b) else none
  | _ => none
def iEnum (as : List D) : Option (List D) :=
  match as with
  | [.list xs] => some (xs.zipIdx.map fun p => .tuple [.int p.2, p.1])
  | _ => none
def iZip (as : List D) : Option (List D) :=
  match as with
  | [.list xs, .list ys] => some ((xs.zip ys).map fun p => .tuple [p.1, p.2])
  | [.tuple xs, .tuple ys] => some ((xs.zip ys).map fun p => .tuple [p.1, p.2])
  | _ => none
def itSem (k : ItK) (as : List D) : Option (List D) :=
  match k with
  | .val => iVal as
  | .range => iRange as
  | .enum => iEnum as
  | .zip => iZip as
  | _ => none

def setTup : List Nat → List D → Env → Option Env
  | [], [], ρ => some ρ
  | i :: is, d :: ds, ρ => setTup is ds (ρ.set i (some (.dat d)))
  | _, _, _ => none
def setTs (is : List Nat) (ds : List D) (ρ : Env) : Option Env :=
  match ds with
  | [.tuple xs] => setTup is xs ρ
  | _ => none
def setTgt (t : Tgt) (d : D) (ρ : Env) : Option Env :=
  match t, d with
  | .nm i, d => some (ρ.set i (some (.dat d)))
  | .tup is, .tuple ds => setTup is ds ρ
  | _, _ => none
def setVals : List Nat → List Val → Env → Option Env
  | [], [], ρ => some ρ
  | i :: is, v :: vs, ρ => setVals is vs (ρ.set i (some v))
  | _, _, _ => none

variable {α : Type}
/-- the evaluator's parts, by fuel -/
structure Rec where
  e : Ex → Env → Out Val
  s : Sm → Env → Out Fl
def Rec.bot : Rec := ⟨fun _ _ => .stuck, fun _ _ => .stuck⟩

def peek (ρ : Env) (i : Nat) : Option D :=
  match ρ[i]? with
  | some (some v) => v.data
  | _ => none
section
variable (cls : Nat → Nat → Bool) (cl : Nat → List Val → CRes) (r : Rec)

/-- arguments as data, from the left; those that are looked at in place are read last -/
def evDs : List Ex → Env → Out (List D)
  | [], ρ => .ok [] ρ
  | .pk i :: es, ρ => match peek ρ i with
    | some _ => (evDs es ρ).bind fun ds ρ => (match peek ρ i with
      | some d => .ok (d :: ds) ρ
      | none => .stuck)
    | none => .stuck
  | e :: es, ρ => (r.e e ρ).bind fun v ρ => match v.data with
    | some d => (evDs es ρ).bind fun ds ρ => .ok (d :: ds) ρ
    | none => .stuck
def noPk : List Ex → Bool
  | [] => true
  | .pk _ :: _ => false
  | _ :: es => noPk es
def prOut (p : Prim) (ds : List D) (ρ : Env) : Out Val := ofO ((psem p ds).map PR.val) ρ
def boolR (v : Val) (ρ : Env) : Out Bool :=
  match v with
  | .dat (.bool b) => .ok b ρ
  | _ => .stuck
/-- an expression that gives True or False -/
def evT (e : Ex) (ρ : Env) : Out Bool := (r.e e ρ).bind boolR
/-- arguments as values -/
def evVs : List Ex → Env → Out (List Val)
  | [], ρ => .ok [] ρ
  | e :: es, ρ => (r.e e ρ).bind fun v ρ => (evVs es ρ).bind fun vs ρ => .ok (v :: vs) ρ
/-- a call's arguments: frozen, or handed on to be changed -/
def evAs : List Ex → Env → Out (List Val)
  | [], ρ => .ok [] ρ
  | .mt i :: es, ρ => match ρ[i]? with
    | some (some _) => (evAs es ρ).bind fun vs ρ => (match ρ[i]? with
      | some (some v) => .ok (v :: vs) ρ
      | _ => .stuck)
    | _ => .stuck
  | e :: es, ρ => (r.e e ρ).bind fun v ρ => (evAs es ρ).bind fun vs ρ => .ok (v.frz :: vs) ρ
def backAs : List Ex → List Val → Env → Option Env
  | [], [], ρ => some ρ
  | .mt i :: es, v :: vs, ρ => backAs es vs (ρ.set i (some v))
  | .mt _ :: _, [], _ => none
  | [], _ :: _, _ => none
  | _ :: es, vs, ρ => backAs es vs ρ
def evTs (cs : List Ex) (ρ : Env) : Out Bool :=
  match cs with
  | [] => .ok true ρ
  | c :: cs => (evT r c ρ).bind fun b ρ => cond b (evTs cs ρ) (.ok false ρ)
def lcLoop (step : D → Env → Out (Option D)) : List D → Env → Out (List D)
  | [], ρ => .ok [] ρ
  | x :: xs, ρ => (step x ρ).bind fun y ρ => (lcLoop step xs ρ).bind fun ys ρ => .ok (match y with | some y => y :: ys | none => ys) ρ
def wipeE (ρ : Env) (own : List Nat) : Env := own.foldl (fun ρ i => ρ.set i none) ρ
def backE (ρ0 ρ : Env) (own : List Nat) : Env := own.foldl (fun ρ i => ρ.set i (ρ0[i]?.getD none)) ρ
def lcStep (t : Tgt) (cs : List Ex) (k : Env → Out D) (own : List Nat) (x : D) (ρ : Env) : Out (Option D) :=
  (ofO (setTgt t x (wipeE ρ own)) ρ).bind fun ρ _ => (evTs r cs ρ).bind fun b ρ => cond b ((k ρ).bind fun d ρ => .ok (some d) ρ) (.ok none ρ)
def fitO (xs : List D) : Option Unit := if fit xs.length then some () else none
def noExc {α : Type} (o : Out α) : Out α := match o with | .ok a ρ => .ok a ρ | _ => .stuck
def evAnd : List Ex → Env → Out Val
  | [], _ => .stuck
  | [e], ρ => r.e e ρ
  | e :: es, ρ => (evT r e ρ).bind fun b ρ => cond b (evAnd es ρ) (.ok (.dat (.bool false)) ρ)
def evOr : List Ex → Env → Out Val
  | [], _ => .stuck
  | [e], ρ => r.e e ρ
  | e :: es, ρ => (evT r e ρ).bind fun b ρ => cond b (.ok (.dat (.bool true)) ρ) (evOr es ρ)
def keyOk : D → Bool
  | .int _ => true
  | .str _ => true
  | _ => false
def putD (k v : D) : List (D × D) → List (D × D)
  | [] => [(k, v)]
  | p :: r => if PyData.eqv p.1 k then (p.1, v) :: r else p :: putD k v r
/-- the keys and values of a display, one behind the other -/
def mixE : List Ex → List Ex → List Ex
  | k :: ks, v :: vs => k :: v :: mixE ks vs
  | _, _ => []
def mixD : List D → List (D × D) → Option (List (D × D))
  | [], acc => some acc
  | k :: v :: ds, acc => if keyOk k then mixD ds (putD k v acc) else none
  | _, _ => none
def afterCall (es : List Ex) (c : CRes) (ρ : Env) : Out Val :=
  match c with
  | .ret v outs => (match backAs es outs ρ with | some ρ => .ok v ρ | none => .stuck)
  | .exc c fs outs => (match backAs es outs ρ with | some ρ => .exc c fs ρ | none => .stuck)
  | .stuck => .stuck

/-- what is walked -/
def evI (k : ItK) (as : List Ex) (ρ : Env) : Out (List D) := (evDs r as ρ).bind fun ds ρ => ofO (itSem k ds) ρ
def sndInt : List D → Option Int
  | [_, .int n] => some n
  | _ => none
def evChain (p q : Prim) (a b c : Ex) (ρ : Env) : Out Bool :=
  (evDs r [a, b] ρ).bind fun ds ρ => ((prOut p ds ρ).bind boolR).bind fun k ρ => cond k
    ((ofO (sndInt ds) ρ).bind fun y ρ => (evDs r [c] ρ).bind fun cs ρ => (prOut q (.int y :: cs) ρ).bind boolR) (.ok false ρ)
/-- a slot whose value is read as a value: what it owned is frozen -/
def frzAt (ρ : Env) (i : Nat) (v : Val) : Env :=
  match v with
  | .ol ds => ρ.set i (some (.dat (.list ds)))
  | .od kvs => ρ.set i (some (.dat (.dict kvs)))
  | _ => ρ
def fldOf (cs : List Nat) (v : Val) (x : Nat) : Option D :=
  match v with
  | .exc c fs => if cs.contains c then fs[x]? else none
  | _ => none
def smallD : D → Bool
  | .int i => decide (i.natAbs.log2 < 1920)
  | _ => false
/-- what an error's class takes: so many values, perhaps ints that are written into its text -/
def iniOk (n : Nat) (ib : Bool) (ds : List D) : Option Unit :=
  if ds.length == n && (!ib || ds.all smallD) then some () else none
def isxOf (c : Nat) (v : Val) : Option Bool :=
  match v with
  | .exc c' _ => some (cls c' c)
  | .dat .none => some false
  | _ => none
def varOf (v : Val) : Val := v.frz
def stepE (e : Ex) (ρ : Env) : Out Val :=
  match e with
  | .var i => (match ρ[i]? with
    | some (some v) => .ok v.frz (frzAt ρ i v)
    | _ => .stuck)
  | .pk _ => .stuck
  | .mt _ => .stuck
  | .cst d => .ok (.dat d) ρ
  | .gl _ d => .ok (.dat d) ρ
  | .fnv _ f => .ok (.fn f) ρ
  | .pr p as => (evDs r as ρ).bind (prOut p)
  | .tup as => (evDs r as ρ).bind fun ds ρ => .ok (.dat (.tuple ds)) ρ
  | .lst as => (evDs r as ρ).bind fun ds ρ => .ok (.ol ds) ρ
  | .dct ks vs => (evDs r (mixE ks vs) ρ).bind fun ds ρ => ofO ((mixD ds []).map .od) ρ
  | .not_ a => (evT r a ρ).bind fun b ρ => .ok (.dat (.bool (!b))) ρ
  | .and_ as => evAnd r as ρ
  | .or_ as => evOr r as ρ
  | .ife c a b => (evT r c ρ).bind fun k ρ => cond k (r.e a ρ) (r.e b ρ)
  | .chain p q a b c => (evChain r p q a b c ρ).bind fun k ρ => .ok (.dat (.bool k)) ρ
  | .call f as => (evAs r as ρ).bind fun vs ρ => afterCall as (cl f vs) ρ
  | .lc e t k as cs own => (evI r k as ρ).bind fun xs ρ => (ofO (fitO xs) ρ).bind fun _ ρ =>
      noExc ((lcLoop (lcStep r t cs (fun ρ => (r.e e ρ).bind fun v ρ => ofO v.data ρ) own) xs ρ).bind fun ys ρ' => .ok (.ol ys) (backE ρ ρ' own))
  | .dc e v t k as cs own => (evI r k as ρ).bind fun xs ρ =>
      noExc ((lcLoop (lcStep r t cs (fun ρ => (evDs r [e, v] ρ).bind fun ds ρ => .ok (.tuple ds) ρ) own) xs ρ).bind fun ys ρ' => .ok (.od (ys.foldl (fun kvs p => match p with | .tuple [k, v] => putD k v kvs | _ => kvs) [])) (backE ρ ρ' own))
  | .isx e c => (r.e e ρ).bind fun v ρ => ofO ((isxOf cls c v).map fun b => .dat (.bool b)) ρ
  | .fld e cs x => (r.e e ρ).bind fun v ρ => ofO ((fldOf cs v x).map .dat) ρ
  | .scut i lo hi => (match ρ[i]?, lo, hi with
    | some (some (.scr ds)), .cst l, .cst h => prOut .slc [.list ds, l, h] ρ
    | _, _, _ => .stuck)

def evSs : List Sm → Env → Out Fl
  | [], ρ => .ok .nx ρ
  | s :: ss, ρ => (r.s s ρ).bind fun f ρ => match f with
    | .nx => evSs ss ρ
    | f => .ok f ρ
def forLoop (step : D → Env → Out Fl) : List D → Env → Out Fl
  | [], ρ => .ok .nx ρ
  | x :: xs, ρ => (step x ρ).bind fun f ρ => match f with
    | .nx => forLoop step xs ρ
    | .ct => forLoop step xs ρ
    | .bk => .ok .nx ρ
    | .rt v => .ok (.rt v) ρ
def delD (x : D) : List D → Option (List D)
  | [] => none
  | y :: ys => if PyData.eqv y x then some ys else (delD x ys).map (y :: ·)
def mAppend (xs as : List D) : Option (List D) :=
  match as with
  | [d] => if fit (xs.length + 1) then some (xs ++ [d]) else none
  | _ => none
def mExtend (xs as : List D) : Option (List D) :=
  match as with
  | [.list ys] => if fit (xs.length + ys.length) then some (xs ++ ys) else none
  | _ => none
def mRemove (xs as : List D) : Option (List D) :=
  match as with
  | [d] => if inOk d xs then delD d xs else none
  | _ => none
def mSort (xs as : List D) : Option (List D) :=
  match as with
  | [] => if allAlike xs then some (sortD xs) else none
  | _ => none
def msem (m : Mut) (xs : List D) (as : List D) : Option (List D) :=
  match m with
  | .append => mAppend xs as
  | .extend => mExtend xs as
  | .remove => mRemove xs as
  | .sort => mSort xs as
  | .pop0 => none
def frzOut : Val → Val := Val.frz

/-- a list of one's own stands there -/
def olAt (ρ : Env) (i : Nat) : Option Unit :=
  match ρ[i]? with
  | some (some (.ol _)) => some ()
  | _ => none
def mutSem (m : Mut) (w : Option Val) (ds : List D) : Option (List D) :=
  match w with
  | some (.ol xs) => msem m xs ds
  | _ => none
/-- xs[k] = v, d[k] = v: the first of ks is the list or the dict itself -/
def ixSem (w : Option Val) (ks : List D) (v : D) : Option Val :=
  match w, ks with
  | some (.ol xs), [_, .int n] => (L2.ixN xs.length n).map fun j => .ol (xs.set j v)
  | _, _ => none
def augSem (p : Prim) (ds : List D) : Option D :=
  match p, ds with
  | .add, [.int a, .int b] => some (.int (a + b))
  | .sub, [.int a, .int b] => some (.int (a - b))
  | .add, [.str a, .str b] => if fit (a.length + b.length) then some (.str (a ++ b)) else none
  | _, _ => none
def stepS (s : Sm) (ρ : Env) : Out Fl :=
  match s with
  | .set i e => (r.e e ρ).bind fun v ρ => .ok .nx (ρ.set i (some v))
  | .setT is e => (evDs r [e] ρ).bind fun ds ρ => (ofO (setTs is ds ρ) ρ).bind fun ρ _ => .ok .nx ρ
  | .setP is es => (evVs r es ρ).bind fun vs ρ => (ofO (setVals is vs ρ) ρ).bind fun ρ _ => .ok .nx ρ
  | .setIx i k v => (r.e v ρ).bind fun v ρ => (ofO v.data ρ).bind fun v ρ => (evDs r [.pk i, k] ρ).bind fun ds ρ => (ofO (ixSem (ρ[i]?.getD none) ds v) ρ).bind fun w ρ => .ok .nx (ρ.set i (some w))
  | .aug i p e => (evDs r [.pk i, e] ρ).bind fun ds ρ => (ofO (augSem p ds) ρ).bind fun v ρ => .ok .nx (ρ.set i (some (.dat v)))
  | .ret e => (r.e e ρ).bind fun v ρ => .ok (.rt v) ρ
  | .retMv i => (match ρ[i]? with | some (some v) => .ok (.rt v) (ρ.set i none) | _ => .stuck)
  | .if_ c a b => (evT r c ρ).bind fun k ρ => cond k (evSs r a ρ) (evSs r b ρ)
  | .for_ t k as body => (evI r k as ρ).bind fun xs ρ =>
      forLoop (fun x ρ => (ofO (setTgt t x ρ) ρ).bind fun ρ _ => evSs r body ρ) xs ρ
  | .while_ c body => (evT r c ρ).bind fun k ρ => cond k
      ((evSs r body ρ).bind fun f ρ => (match f with
      | .nx => r.s (.while_ c body) ρ
      | .ct => r.s (.while_ c body) ρ
      | .bk => .ok .nx ρ
      | .rt v => .ok (.rt v) ρ)) (.ok .nx ρ)
  | .brk => .ok .bk ρ
  | .cont => .ok .ct ρ
  | .pass => .ok .nx ρ
  | .expr e => (r.e e ρ).bind fun _ ρ => .ok .nx ρ
  | .mut m i as => (ofO (olAt ρ i) ρ).bind fun _ ρ => (evDs r as ρ).bind fun ds ρ => (ofO (mutSem m (ρ[i]?.getD none) ds) ρ).bind fun ys ρ => .ok .nx (ρ.set i (some (.ol ys)))
  | .setPop t i as => .stuck
  | .raise c as => (evDs r as ρ).bind fun ds ρ => .exc c ds ρ
  | .raiseF c n ib as => (evDs r as ρ).bind fun ds ρ => (ofO (iniOk n ib ds) ρ).bind fun _ ρ => .exc c ds.reverse ρ
  | .try_ body c i j => (match evSs r body ρ with
    | .exc c' fs ρ => if cls c' c then .ok .nx ((ρ.set i none).set j (some (.exc c' fs))) else .exc c' fs ρ
    | o => o)
end

/-- the evaluator by fuel -/
def evF (cls : Nat → Nat → Bool) (cl : Nat → List Val → CRes) : Nat → Rec
  | 0 => .bot
  | n + 1 => ⟨fun e ρ => stepE cls cl (evF cls cl n) e ρ, fun s ρ => stepS cls (evF cls cl n) s ρ⟩
def outsOf (io : List Nat) (ρ : Env) : Option (List Val) := io.mapM fun i => match ρ[i]? with | some (some v) => some v | _ => none
def FUEL : Nat := 100000
/-- a call, by levels -/
def evL (cls : Nat → Nat → Bool) (tbl : List Fn) : Nat → Nat → List Val → CRes
  | 0, _, _ => .stuck
  | l + 1, f, vs => match tbl[f]? with
    | none => .stuck
    | some fn => if vs.length = fn.np then
        match evSs (evF cls (evL cls tbl l) FUEL) fn.body (vs.map some ++ List.replicate (fn.ns - fn.np) none) with
        | .ok (.rt v) ρ => (match outsOf fn.io ρ with | some o => .ret v o | none => .stuck)
        | .ok .nx ρ => (match outsOf fn.io ρ with | some o => .ret (.dat .none) o | none => .stuck)
        | .exc c fs ρ => (match outsOf fn.io ρ with | some o => .exc c fs o | none => .stuck)
        | _ => .stuck
      else .stuck
end EV
end SEvSem
section SSnd1
set_option Elab.async false
set_option linter.all false
set_option maxRecDepth 100000
namespace EV
open PySem PySem.Spec PyProof.Rows L2

/-- where the text's things stand -/
structure Wd where
  K : PySem.W.Frag
  cA : Nat → Addr
  fA : Nat → Addr
  fN : Nat → List Str

def keyD : Key → D
  | .inl i => .int i
  | .inr x => .str x

/-- a tuple's object: it has no dict of its own -/
def TupO (o : Obj) : Prop := o.cls = .type "tuple" ∧ o.dict = none
mutual
/-- u stands for the data d; lists and dicts in it lie in Z: they are not changed any more -/
inductive RepD (K : PySem.W.Frag) (H : Hp) (Z : Addr → Prop) : V → D → Prop
  | non : RepD K H Z .non .none
  | bl (b : Bool) : RepD K H Z (.bl b) (.bool b)
  | int (i : Int) : RepD K H Z (.int i) (.int i)
  | str (x : Str) : RepD K H Z (.str x) (.str x)
  | lst {a : Addr} {us : List V} {ds : List D} : H a = some (.lst us) → Z a → RepDs K H Z us ds → RepD K H Z (.ref a) (.list ds)
  | tup {a : Addr} {o : Obj} {us : List V} {ds : List D} : H a = some (.frz o (.tup us)) → TupO o → RepDs K H Z us ds → RepD K H Z (.ref a) (.tuple ds)
  | dct {a : Addr} {kvs : List (Key × V)} {ds : List (D × D)} : H a = some (.dK kvs) → Z a → ds.map (·.1) = kvs.map (fun p => keyD p.1) → RepDs K H Z (kvs.map (·.2)) (ds.map (·.2)) → RepD K H Z (.ref a) (.dict ds)
inductive RepDs (K : PySem.W.Frag) (H : Hp) (Z : Addr → Prop) : List V → List D → Prop
  | nil : RepDs K H Z [] []
  | cons {u : V} {us : List V} {d : D} {ds : List D} : RepD K H Z u d → RepDs K H Z us ds → RepDs K H Z (u :: us) (d :: ds)
end

section
variable {K : PySem.W.Frag} {H H' : Hp} {Z Z' : Addr → Prop}
/-- what data leans on stays -/
structure Stay (H H' : Hp) (Z Z' : Addr → Prop) : Prop where
  z : ∀ a, Z a → Z' a
  k : ∀ a o, H a = some o → Z a → H' a = some o
  t : ∀ a us, H a = some (.tup us) → H' a = some (.tup us)
  f : ∀ a o u, H a = some (.frz o u) → H' a = some (.frz o u)
theorem Stay.sqT {a : Addr} {us : List V} (s : Stay H H' Z Z') (h : SqT K H a us) : SqT K H' a us := by
  rcases h with (h | ⟨o, h⟩) | h
  · exact .inl (.inl (s.t _ _ h))
  · exact .inl (.inr ⟨o, s.f _ _ _ h⟩)
  · exact .inr h
mutual
theorem RepD.stay (s : Stay H H' Z Z') : ∀ {u : V} {d : D}, RepD K H Z u d → RepD K H' Z' u d
  | _, _, .non => .non
  | _, _, .bl b => .bl b
  | _, _, .int i => .int i
  | _, _, .str x => .str x
  | _, _, .lst h z r => .lst (s.k _ _ h z) (s.z _ z) (RepDs.stay s r)
  | _, _, .tup h ho r => .tup (s.f _ _ _ h) ho (RepDs.stay s r)
  | _, _, .dct h z e r => .dct (s.k _ _ h z) (s.z _ z) e (RepDs.stay s r)
theorem RepDs.stay (s : Stay H H' Z Z') : ∀ {us : List V} {ds : List D}, RepDs K H Z us ds → RepDs K H' Z' us ds
  | _, _, .nil => .nil
  | _, _, .cons r rs => .cons (RepD.stay s r) (RepDs.stay s rs)
end
theorem RepDs.length {us : List V} {ds : List D} (h : RepDs K H Z us ds) : us.length = ds.length := by
  induction us generalizing ds with
  | nil => cases h; rfl
  | cons u us ih => cases h with | cons r rs => simp [ih rs]
theorem RepDs.get {us : List V} {ds : List D} (h : RepDs K H Z us ds) {i : Nat} {d : D} (e : ds[i]? = some d) : ∃ u, us[i]? = some u ∧ RepD K H Z u d := by
  induction us generalizing ds i with
  | nil => cases h; simp at e
  | cons u us ih => cases h with
    | cons r rs => cases i with
      | zero => simp at e; subst e; exact ⟨u, rfl, r⟩
      | succ i => simpa using ih rs (by simpa using e)
theorem RepDs.getV {us : List V} {ds : List D} (h : RepDs K H Z us ds) {i : Nat} {u : V} (e : us[i]? = some u) : ∃ d, ds[i]? = some d ∧ RepD K H Z u d := by
  induction us generalizing ds i with
  | nil => cases h; simp at e
  | cons v us ih => cases h with
    | cons r rs => cases i with
      | zero => simp at e; subst e; exact ⟨_, rfl, r⟩
      | succ i => simpa using ih rs (by simpa using e)
theorem RepDs.append {us vs : List V} {ds es : List D} (h : RepDs K H Z us ds) (g : RepDs K H Z vs es) : RepDs K H Z (us ++ vs) (ds ++ es) := by
  induction us generalizing ds with
  | nil => cases h; exact g
  | cons u us ih => cases h with | cons r rs => exact .cons r (ih rs)
theorem RepDs.take {us : List V} {ds : List D} (h : RepDs K H Z us ds) (n : Nat) : RepDs K H Z (us.take n) (ds.take n) := by
  induction n generalizing us ds with
  | zero => exact .nil
  | succ n ih => cases h with
    | nil => exact .nil
    | cons r rs => exact .cons r (ih rs)
theorem RepDs.drop {us : List V} {ds : List D} (h : RepDs K H Z us ds) (n : Nat) : RepDs K H Z (us.drop n) (ds.drop n) := by
  induction n generalizing us ds with
  | zero => exact h
  | succ n ih => cases h with
    | nil => exact .nil
    | cons r rs => exact ih rs
theorem RepDs.set {us : List V} {ds : List D} (h : RepDs K H Z us ds) {u : V} {d : D} (r : RepD K H Z u d) (i : Nat) : RepDs K H Z (us.set i u) (ds.set i d) := by
  induction us generalizing ds i with
  | nil => cases h; exact .nil
  | cons v us ih => cases h with
    | cons r0 rs => cases i with
      | zero => exact .cons r rs
      | succ i => exact .cons r0 (ih rs i)
theorem RepDs.reverse {us : List V} {ds : List D} (h : RepDs K H Z us ds) : RepDs K H Z us.reverse ds.reverse := by
  induction us generalizing ds with
  | nil => cases h; exact .nil
  | cons u us ih => cases h with
    | cons r rs => rw [List.reverse_cons, List.reverse_cons]; exact (ih rs).append (.cons r .nil)
theorem RepDs.rep {us : List V} {ds : List D} (h : RepDs K H Z us ds) (k : Nat) : RepDs K H Z (List.replicate k us).flatten (List.replicate k ds).flatten := by
  induction k with
  | zero => exact .nil
  | succ k ih => rw [List.replicate_succ, List.replicate_succ, List.flatten_cons, List.flatten_cons]; exact h.append ih
/-- as the layer's data, where there is no dict in it -/
theorem RepD.sq {u : V} {d : D} (h : RepD K H Z u d) : d.canLay0 = true → Dp K H u d := by
  revert h
  refine RepD.rec (motive_1 := fun u d _ => d.canLay0 = true → Dp K H u d) (motive_2 := fun us ds _ => PyData.canLayAll0 ds = true → DpAll K H us ds) ?_ ?_ ?_ ?_ ?_ ?_ ?_ ?_ ?_
  · exact fun _ => .non
  · exact fun b _ => .bl b
  · exact fun i _ => .int i
  · exact fun x _ => .str x
  · exact fun h _ _ ih e => .lst (SqL.of h) (ih (by simpa [PyData.canLay0] using e))
  · exact fun h _ _ ih e => .tup (.inl (.inr ⟨_, h⟩)) (ih (by simpa [PyData.canLay0] using e))
  · intro a kvs ds h z e _ ih q; simp [PyData.canLay0] at q
  · exact fun _ => .nil
  · intro u us d ds _ _ ih1 ih2 e
    have e' : d.canLay0 = true ∧ PyData.canLayAll0 ds = true := by simpa [PyData.canLayAll0] using e
    exact .cons (ih1 e'.1) (ih2 e'.2)
end

/-- an error: its class, its fields -/
def ExcR (W : Wd) (H : Hp) (Z : Addr → Prop) (c : Nat) (fs : List D) (cls : Value) (d : Option Addr) : Prop :=
  cls = .ref (W.cA c) ∧ ((fs = [] ∧ d = none) ∨ ∃ (dx : Addr) (us : List V), d = some dx ∧ H dx = some (.xd ((W.fN c).zip us)) ∧ us.length = (W.fN c).length ∧ RepDs W.K H Z us fs)
/-- an error as a value -/
def RepX (W : Wd) (H : Hp) (Z : Addr → Prop) (u : V) (c : Nat) (fs : List D) : Prop :=
  ∃ (a : Addr) (φ : Heap → Prop) (cls : Value) (d : Option Addr), u = .ref a ∧ H a = some (.ext φ) ∧ (∀ h, φ h → ∃ o vs, h.get? a = some o ∧ o.cls = cls ∧ o.dict = d ∧ o.data = .fields vs) ∧ ExcR W H Z c fs cls d

/-- the script's list: known, or one of the text's own objects -/
def SqZ (K : PySem.W.Frag) (H : Hp) (a : Addr) (us : List V) : Prop := (∃ o, H a = some (.frz o (.lst us))) ∨ SqL K (fun _ => none) a us
theorem SqZ.sqL {K : PySem.W.Frag} {H : Hp} {a : Addr} {us : List V} (h : SqZ K H a us) : SqL K H a us := by
  rcases h with ⟨o, h⟩ | h
  · exact .inl (.inr ⟨o, h⟩)
  · rcases h with h | h
    · rcases h with h | ⟨_, h⟩ <;> cases h
    · exact .inr h
theorem SqZ.stay {K : PySem.W.Frag} {H H' : Hp} {Z Z' : Addr → Prop} {a : Addr} {us : List V} (h : SqZ K H a us) (s : Stay H H' Z Z') : SqZ K H' a us := h.imp (fun ⟨o, h⟩ => ⟨o, s.f _ _ _ h⟩) id
inductive RepV (W : Wd) (H : Hp) (Z : Addr → Prop) : V → Val → List Addr → Prop
  | dat {u : V} {d : D} : RepD W.K H Z u d → RepV W H Z u (.dat d) []
  | exc {u : V} {c : Nat} {fs : List D} : RepX W H Z u c fs → RepV W H Z u (.exc c fs) []
  | fn (f : Nat) : RepV W H Z (.ref (W.fA f)) (.fn f) []
  | scr {a : Addr} {us : List V} {ds : List D} : SqZ W.K H a us → RepDs W.K H Z us ds → RepV W H Z (.ref a) (.scr ds) []
  | ol {a : Addr} {us : List V} {ds : List D} : H a = some (.lst us) → ¬ Z a → RepDs W.K H Z us ds → RepV W H Z (.ref a) (.ol ds) [a]
  | od {a : Addr} {kvs : List (Key × V)} {ds : List (D × D)} : H a = some (.dK kvs) → ¬ Z a → ds.map (·.1) = kvs.map (fun p => keyD p.1) → RepDs W.K H Z (kvs.map (·.2)) (ds.map (·.2)) → RepV W H Z (.ref a) (.od ds) [a]

/-- from one state to a later one; O: what may be changed -/
structure Ext (H H' : Hp) (Z Z' : Addr → Prop) (O O' : Addr → Prop) : Prop where
  pres : ∀ a o, H a = some o → ¬ O a → H' a = some o
  zm : ∀ a, Z a → Z' a
  zf : ∀ a, Z' a → Z a ∨ H a = none ∨ O a
  keep : ∀ a, H' a = none → H a = none
  ofr : ∀ a, O' a → H a = none ∨ O a
  zt : ∀ a, Z' a → H' a ≠ none
/-- what is owned is a list or a dict that is not frozen -/
def Own (H : Hp) (Z O : Addr → Prop) : Prop := ∀ a, O a → ¬ Z a ∧ ((∃ us, H a = some (.lst us)) ∨ ∃ kvs, H a = some (.dK kvs))
section
variable {W : Wd} {H H1 H2 H' : Hp} {Z Z1 Z2 Z' O O1 O2 O' : Addr → Prop}
theorem Ext.refl (H : Hp) (Z O : Addr → Prop) (zt : ∀ a, Z a → H a ≠ none) : Ext H H Z Z O O := ⟨fun _ _ h _ => h, fun _ h => h, fun _ h => .inl h, fun _ h => h, fun _ h => .inr h, zt⟩
theorem Ext.trans (a : Ext H H1 Z Z1 O O1) (b : Ext H1 H2 Z1 Z2 O1 O2) : Ext H H2 Z Z2 O O2 where
  pres := fun x o h n => b.pres x o (a.pres x o h n) fun q => by
    rcases a.ofr x q with z | z
    · rw [h] at z; cases z
    · exact n z
  zm := fun x h => b.zm x (a.zm x h)
  zf := fun x h => by
    rcases b.zf x h with z | z | z
    · exact a.zf x z
    · exact .inr (.inl (a.keep x z))
    · rcases a.ofr x z with y | y
      · exact .inr (.inl y)
      · exact .inr (.inr y)
  keep := fun x h => a.keep x (b.keep x h)
  ofr := fun x h => by
    rcases b.ofr x h with z | z
    · exact .inl (a.keep x z)
    · exact a.ofr x z
  zt := b.zt
theorem Ext.stay (e : Ext H H' Z Z' O O') (w : Own H Z O) : Stay H H' Z Z' where
  z := e.zm
  k := fun a o h z => e.pres a o h fun q => (w a q).1 z
  t := fun a us h => e.pres a _ h fun q => by
    rcases (w a q).2 with ⟨_, z⟩ | ⟨_, z⟩ <;> rw [h] at z <;> cases z
  f := fun a o u h => e.pres a _ h fun q => by
    rcases (w a q).2 with ⟨_, z⟩ | ⟨_, z⟩ <;> rw [h] at z <;> cases z
theorem ExcR.ext {c : Nat} {fs : List D} {cls : Value} {d : Option Addr} (x : ExcR W H Z c fs cls d) (e : Ext H H' Z Z' O O') (w : Own H Z O) : ExcR W H' Z' c fs cls d := by
  obtain ⟨h1, h⟩ := x
  refine ⟨h1, ?_⟩
  rcases h with h | ⟨dx, us, h2, h3, h4, h5⟩
  · exact .inl h
  · refine .inr ⟨dx, us, h2, e.pres _ _ h3 fun q => ?_, h4, h5.stay (e.stay w)⟩
    rcases (w dx q).2 with ⟨_, z⟩ | ⟨_, z⟩ <;> rw [h3] at z <;> cases z
theorem RepX.ext {u : V} {c : Nat} {fs : List D} (x : RepX W H Z u c fs) (e : Ext H H' Z Z' O O') (w : Own H Z O) : RepX W H' Z' u c fs := by
  obtain ⟨a, φ, cls, d, h1, h2, h3, h4⟩ := x
  refine ⟨a, φ, cls, d, h1, e.pres _ _ h2 fun q => ?_, h3, h4.ext e w⟩
  rcases (w a q).2 with ⟨_, z⟩ | ⟨_, z⟩ <;> rw [h2] at z <;> cases z
/-- a value stays, if what it owns is not changed -/
theorem RepV.ext {u : V} {v : Val} {F : List Addr} (x : RepV W H Z u v F) (e : Ext H H' Z Z' O O') (w : Own H Z O) (n : ∀ a ∈ F, ¬ O a) : RepV W H' Z' u v F := by
  have nz : ∀ {a : Addr} {o : HO}, a ∈ F → H a = some o → ¬ Z a → ¬ Z' a := fun {a o} m h z q => by
    rcases e.zf a q with y | y | y
    · exact z y
    · rw [h] at y; cases y
    · exact n a m y
  cases x with
  | dat r => exact .dat (r.stay (e.stay w))
  | exc r => exact .exc (r.ext e w)
  | fn f => exact .fn f
  | scr h r => exact .scr (h.stay (e.stay w)) (r.stay (e.stay w))
  | ol h z r => exact .ol (e.pres _ _ h (n _ (List.mem_singleton.mpr rfl))) (nz (List.mem_singleton.mpr rfl) h z) (r.stay (e.stay w))
  | od h z q r => exact .od (e.pres _ _ h (n _ (List.mem_singleton.mpr rfl))) (nz (List.mem_singleton.mpr rfl) h z) q (r.stay (e.stay w))
/-- what a value owns -/
theorem RepV.own {u : V} {v : Val} {F : List Addr} (x : RepV W H Z u v F) : Own H Z (· ∈ F) := by
  intro a m
  cases x with
  | dat r => cases m
  | exc r => cases m
  | fn f => cases m
  | scr h r => cases m
  | ol h z r => cases List.mem_singleton.mp m; exact ⟨z, .inl ⟨_, h⟩⟩
  | od h z q r => cases List.mem_singleton.mp m; exact ⟨z, .inr ⟨_, h⟩⟩
end

/-- the slots hold the env's values; Fs i: what slot i owns -/
structure RelE (W : Wd) (H : Hp) (Z : Addr → Prop) (σ : L2.St) (ρ : Env) (Fs : Nat → List Addr) : Prop where
  len : σ.length = ρ.length
  val : ∀ i v, ρ[i]? = some (some v) → ∃ u, σ[i]? = some (some u) ∧ RepV W H Z u v (Fs i)
  nov : ∀ i, (∀ v, ρ[i]? ≠ some (some v)) → Fs i = []
  dis : ∀ i j a, a ∈ Fs i → a ∈ Fs j → i = j
  zok : ∀ a, Z a → H a ≠ none
abbrev Ow (Fs : Nat → List Addr) : Addr → Prop := fun a => ∃ i, a ∈ Fs i
section
variable {W : Wd} {H H' : Hp} {Z Z' O O' : Addr → Prop} {σ : L2.St} {ρ : Env} {Fs Fs' : Nat → List Addr}
theorem RelE.own (R : RelE W H Z σ ρ Fs) : Own H Z (Ow Fs) := fun a ⟨i, h⟩ => by
  by_cases q : ∃ v, ρ[i]? = some (some v)
  · obtain ⟨v, q⟩ := q
    obtain ⟨u, _, r⟩ := R.val i v q
    exact r.own a h
  · rw [R.nov i fun v z => q ⟨v, z⟩] at h; cases h
theorem RelE.ext (R : RelE W H Z σ ρ Fs) (e : Ext H H' Z Z' O O') (w : Own H Z O) (n : ∀ a, Ow Fs a → ¬ O a) : RelE W H' Z' σ ρ Fs :=
  ⟨R.len, fun i v q => let ⟨u, h, r⟩ := R.val i v q; ⟨u, h, r.ext e w fun a m => n a ⟨i, m⟩⟩, R.nov, R.dis, e.zt⟩
end
end EV
end SSnd1
section SSnd2
set_option Elab.async false
set_option linter.all false
set_option maxRecDepth 100000
namespace EV
open PySem PySem.Spec PyProof.Rows L2

/-! ### what an expression, a test, a statement can be shown to do, at its best -/
def BE (X : Cx) (e : Expr) : TE := fun σ H Q => ∀ pins s, Inv X pins σ H s → wpAny (model X.prog X.w) X.A (eval e X.env) (EP X pins σ Q) X.xe s
theorem BE.pe {X : Cx} {e : Expr} : PE X e (BE X e) := ⟨fun pins s _ _ _ I h => h pins s I⟩
theorem BE.of {X : Cx} {e : Expr} {t : TE} (h : PE X e t) {σ : L2.St} {H : Hp} {Q : VK} (q : t σ H Q) : BE X e σ H Q := fun pins s I => h.run pins s σ H Q I q
def BT (X : Cx) (e : Expr) : TT := fun σ H Q => ∀ pins s, Inv X pins σ H s → wpAny (model X.prog X.w) X.A (isTrue e X.env (eval e X.env)) (TP X pins σ Q) X.xe s
theorem BT.pt {X : Cx} {e : Expr} : PT X e (BT X e) := ⟨fun pins s _ _ _ I h => h pins s I⟩
theorem BT.of {X : Cx} {e : Expr} {t : TT} (h : PT X e t) {σ : L2.St} {H : Hp} {Q : Bool → Hp → Prop} (q : t σ H Q) : BT X e σ H Q := fun pins s I => h.run pins s σ H Q I q
def BS (X : Cx) (st : Stmt) : TS := fun D σ H => ∀ pins s, Inv X pins σ H s → wpAny (model X.prog X.w) X.A (exec st X.env) (SP X pins D) X.xe s
theorem BS.ps {X : Cx} {e : Stmt} : PS X e (BS X e) := ⟨fun pins s _ _ _ I h => h pins s I⟩
theorem BS.of {X : Cx} {e : Stmt} {t : TS} (h : PS X e t) {σ : L2.St} {H : Hp} {D : Ends} (q : t D σ H) : BS X e D σ H := fun pins s I => h.run pins s σ H D I q
def BSs (X : Cx) (st : List Stmt) : TS := fun D σ H => ∀ pins s, Inv X pins σ H s → wpAny (model X.prog X.w) X.A (execs st X.env) (SP X pins D) X.xe s
theorem BSs.pss {X : Cx} {e : List Stmt} : PSs X e (BSs X e) := ⟨fun pins s _ _ _ I h => h pins s I⟩
theorem BSs.of {X : Cx} {e : List Stmt} {t : TS} (h : PSs X e t) {σ : L2.St} {H : Hp} {D : Ends} (q : t D σ H) : BSs X e D σ H := fun pins s I => h.run pins s σ H D I q
/-- several expressions, from the left -/
def BEs (X : Cx) : List Expr → TA
  | [] => fun _ H Q => Q [] H
  | e :: es => fun σ H Q => BE X e σ H fun u H1 => BEs X es σ H1 fun us H2 => Q (u :: us) H2

/-- arguments of a rule that reads: a list or a dict may be owned by a slot -/
inductive ArgR (W : Wd) (H : Hp) (Z : Addr → Prop) : V → D → Prop
  | dat {u : V} {d : D} : RepD W.K H Z u d → ArgR W H Z u d
  | ol {a : Addr} {us : List V} {ds : List D} : H a = some (.lst us) → RepDs W.K H Z us ds → ArgR W H Z (.ref a) (.list ds)
  | od {a : Addr} {kvs : List (Key × V)} {ds : List (D × D)} : H a = some (.dK kvs) → ds.map (·.1) = kvs.map (fun p => keyD p.1) → RepDs W.K H Z (kvs.map (·.2)) (ds.map (·.2)) → ArgR W H Z (.ref a) (.dict ds)
inductive ArgRs (W : Wd) (H : Hp) (Z : Addr → Prop) : List V → List D → Prop
  | nil : ArgRs W H Z [] []
  | cons {u : V} {us : List V} {d : D} {ds : List D} : ArgR W H Z u d → ArgRs W H Z us ds → ArgRs W H Z (u :: us) (d :: ds)

/-- a later state -/
structure Nxt (W : Wd) (H : Hp) (Z : Addr → Prop) (Fs : Nat → List Addr) (σ : L2.St) (ρ : Env) (H' : Hp) (Z' : Addr → Prop) (Fs' : Nat → List Addr) : Prop where
  e : Ext H H' Z Z' (Ow Fs) (Ow Fs')
  r : RelE W H' Z' σ ρ Fs'
/-- a value beside the slots -/
structure NV (W : Wd) (H : Hp) (Fs : Nat → List Addr) (H' : Hp) (Z' : Addr → Prop) (Fs' : Nat → List Addr) (u : V) (v : Val) (F : List Addr) : Prop where
  v : RepV W H' Z' u v F
  d : ∀ a ∈ F, ¬ Ow Fs' a
  o : ∀ a ∈ F, H a = none ∨ Ow Fs a
abbrev zor (Z : Addr → Prop) (F : List Addr) : Addr → Prop := fun a => Z a ∨ a ∈ F
section
variable {W : Wd} {H H1 H' : Hp} {Z Z1 Z' : Addr → Prop} {σ σ1 : L2.St} {ρ ρ1 ρ' : Env} {Fs Fs1 Fs' : Nat → List Addr} {u : V} {v : Val} {F : List Addr} {d : D}
theorem Nxt.refl (R : RelE W H Z σ ρ Fs) : Nxt W H Z Fs σ ρ H Z Fs := ⟨Ext.refl _ _ _ R.zok, R⟩
theorem Nxt.trans (a : Nxt W H Z Fs σ1 ρ1 H1 Z1 Fs1) (b : Nxt W H1 Z1 Fs1 σ ρ H' Z' Fs') : Nxt W H Z Fs σ ρ H' Z' Fs' := ⟨a.e.trans b.e, b.r⟩
theorem NV.trans (a : Nxt W H Z Fs σ1 ρ1 H1 Z1 Fs1) (b : NV W H1 Fs1 H' Z' Fs' u v F) : NV W H Fs H' Z' Fs' u v F := ⟨b.v, b.d, fun x m => by
  rcases b.o x m with q | q
  · exact .inl (a.e.keep x q)
  · exact a.e.ofr x q⟩
theorem stay_or (Z : Addr → Prop) (F : List Addr) (H : Hp) : Stay H H Z (zor Z F) := ⟨fun _ h => .inl h, fun _ _ h _ => h, fun _ _ h => h, fun _ _ _ h => h⟩
theorem RepD.to (h : RepD W.K H Z u d) : RepV W H Z u (.dat d) [] := .dat h
/-- frozen: as data -/
theorem RepV.froze (h : RepV W H Z u v F) (e : v.data = some d) : RepD W.K H (zor Z F) u d := by
  cases h with
  | dat r => cases e; exact r.stay (stay_or _ _ _)
  | exc r => cases e
  | fn f => cases e
  | scr h r => cases e
  | ol h z r => cases e; exact .lst h (.inr (List.mem_singleton.mpr rfl)) (r.stay (stay_or _ _ _))
  | od h z q r => cases e; exact .dct h (.inr (List.mem_singleton.mpr rfl)) q (r.stay (stay_or _ _ _))
theorem RepV.argR (h : RepV W H Z u v F) (e : v.data = some d) : ArgR W H Z u d := by
  cases h with
  | dat r => cases e; exact .dat r
  | exc r => cases e
  | fn f => cases e
  | scr h r => cases e
  | ol h z r => cases e; exact .ol h r
  | od h z q r => cases e; exact .od h q r
/-- what a temporary owns is frozen -/
theorem RelE.frz (R : RelE W H Z σ ρ Fs) (n : ∀ a ∈ F, ¬ Ow Fs a) (hF : ∀ a ∈ F, H a ≠ none) : RelE W H (zor Z F) σ ρ Fs := by
  refine ⟨R.len, fun i v q => ?_, R.nov, R.dis, fun a h => h.elim (R.zok a) (hF a)⟩
  obtain ⟨u, h1, r⟩ := R.val i v q
  refine ⟨u, h1, ?_⟩
  have nz : ∀ {a}, a ∈ Fs i → ¬ Z a → ¬ zor Z F a := fun {a} m z q => q.elim z fun m' => n a m' ⟨i, m⟩
  generalize hF : Fs i = G at r nz
  cases r with
  | dat r => exact .dat (r.stay (stay_or _ _ _))
  | exc r =>
    obtain ⟨a, φ, cls, d, h1, h2, h3, h4, h5⟩ := r
    refine .exc ⟨a, φ, cls, d, h1, h2, h3, h4, ?_⟩
    rcases h5 with h5 | ⟨dx, us, g1, g2, g3, g4⟩
    · exact .inl h5
    · exact .inr ⟨dx, us, g1, g2, g3, g4.stay (stay_or _ _ _)⟩
  | fn f => exact .fn f
  | scr h r => exact .scr h (r.stay (stay_or _ _ _))
  | ol h z r => exact .ol h (nz (List.mem_singleton.mpr rfl) z) (r.stay (stay_or _ _ _))
  | od h z q' r => exact .od h (nz (List.mem_singleton.mpr rfl) z) q' (r.stay (stay_or _ _ _))
theorem own_ne {O : Addr → Prop} (w : Own H Z O) : ∀ a, O a → H a ≠ none := fun a h q => by
  rcases (w a h).2 with ⟨_, y⟩ | ⟨_, y⟩ <;> rw [q] at y <;> cases y
theorem Nxt.frz (a : Nxt W H Z Fs σ ρ H' Z' Fs') (b : NV W H Fs H' Z' Fs' u v F) : Nxt W H Z Fs σ ρ H' (zor Z' F) Fs' := by
  have R2 := a.r.frz b.d (own_ne b.v.own)
  refine ⟨⟨a.e.pres, fun x h => .inl (a.e.zm x h), fun x h => ?_, a.e.keep, a.e.ofr, R2.zok⟩, R2⟩
  rcases h with h | h
  · exact a.e.zf x h
  · exact .inr (b.o x h)
theorem Nxt.stay (a : Nxt W H Z Fs σ ρ H' Z' Fs') (R : RelE W H Z σ1 ρ1 Fs) : Stay H H' Z Z' := a.e.stay R.own
end

/-! ### sound expressions -/
/-- what is kept of a way that raises -/
def Exd (W : Wd) (Wx : WX) (H : Hp) (Z : Addr → Prop) (Fs : Nat → List Addr) (σ : L2.St) {α : Type} (o : Out α) : Prop :=
  ∀ c fs ρ', o = .exc c fs ρ' → ∀ cls d H' Z' Fs', Nxt W H Z Fs σ ρ' H' Z' Fs' → ExcR W H' Z' c fs cls d → Wx cls d σ H'
def SndE (W : Wd) (X : Cx) (Wx : WX) (e : Expr) (f : Env → Out Val) : Prop :=
  ∀ (Z : Addr → Prop) (σ : L2.St) (H : Hp) (ρ : Env) (Fs : Nat → List Addr) (Q : VK), RelE W H Z σ ρ Fs → f ρ ≠ .stuck →
    (∀ v ρ', f ρ = .ok v ρ' → ∀ u H' Z' Fs' F, Nxt W H Z Fs σ ρ' H' Z' Fs' → NV W H Fs H' Z' Fs' u v F → Q u H') → Exd W Wx H Z Fs σ (f ρ) → BE X e σ H Q
/-- the name in slot i -/
structure VarOk (X : Cx) (i : Nat) (x : Str) : Prop where
  at_ : X.N[i]? = some x
  vis : Vis X.env.scope x
  nd : (x == ("__debug__" : Str)) = false
  nc : (x == ("__classdict__" : Str)) = false
theorem BE.var {X : Cx} {i : Nat} {x : Str} {pos : Pos} (v : VarOk X i x) {σ : L2.St} {H : Hp} {Q : VK} {u : V} (e : σ[i]? = some (some u)) (q : Q u H) : BE X (.Name x pos) σ H Q :=
  BE.of (pe_var v.at_ v.vis v.nd v.nc) ⟨u, e, q⟩
/-- an argument and its part in the IR -/
def ArgS (W : Wd) (X : Cx) (Wx : WX) (r : Rec) (e : Expr) : Ex → Prop
  | .pk i => ∃ x pos, e = .Name x pos ∧ VarOk X i x
  | e' => SndE W X Wx e (r.e e')
def ArgSs (W : Wd) (X : Cx) (Wx : WX) (r : Rec) : List Expr → List Ex → Prop
  | [], [] => True
  | e :: es, e' :: es' => ArgS W X Wx r e e' ∧ ArgSs W X Wx r es es'
  | _, _ => False

theorem Out.bind_ns {α β : Type} {o : Out α} {f : α → Env → Out β} (h : o.bind f ≠ .stuck) : o ≠ .stuck := by
  intro e; rw [e] at h; exact h rfl
section
variable {W : Wd} {X : Cx} {Wx : WX} {r : Rec}
theorem argS_of {e : Expr} {e' : Ex} (h : ∀ i, e' ≠ .pk i) (s : ArgS W X Wx r e e') : SndE W X Wx e (r.e e') := by
  cases e' with
  | pk i => exact absurd rfl (h i)
  | _ => exact s
theorem snd_Ds : ∀ (es : List Expr) (es' : List Ex), ArgSs W X Wx r es es' → ∀ (Z : Addr → Prop) (σ : L2.St) (H : Hp) (ρ : Env) (Fs : Nat → List Addr) (Q : List V → Hp → Prop), RelE W H Z σ ρ Fs → evDs r es' ρ ≠ .stuck →
    (∀ ds ρ', evDs r es' ρ = .ok ds ρ' → ∀ us H' Z' Fs', Nxt W H Z Fs σ ρ' H' Z' Fs' → ArgRs W H' Z' us ds → (noPk es' = true → RepDs W.K H' Z' us ds) → Q us H') → Exd W Wx H Z Fs σ (evDs r es' ρ) → BEs X es σ H Q := by
  intro es
  induction es with
  | nil =>
    intro es' A Z σ H ρ Fs Q R ns hk hx
    cases es' with
    | nil => exact hk [] ρ rfl [] H Z Fs (.refl R) .nil fun _ => .nil
    | cons _ _ => exact A.elim
  | cons e es ih =>
    intro es' A Z σ H ρ Fs Q R ns hk hx
    cases es' with
    | nil => exact A.elim
    | cons e' es' =>
      obtain ⟨A1, A2⟩ := A
      by_cases hp : ∃ i, e' = .pk i
      · obtain ⟨i, rfl⟩ := hp
        obtain ⟨x, pos, rfl, v⟩ := A1
        cases hp0 : peek ρ i with
        | none =>
          have e0 : evDs r (.pk i :: es') ρ = .stuck := by
            show (match peek ρ i with | some _ => _ | none => Out.stuck) = _
            rw [hp0]
          exact absurd e0 ns
        | some d0 =>
          have e1 : evDs r (.pk i :: es') ρ = (evDs r es' ρ).bind fun ds ρ => match peek ρ i with | some d => .ok (d :: ds) ρ | none => .stuck := by
            show (match peek ρ i with | some _ => _ | none => Out.stuck) = _
            simp only [hp0]
            all_goals rfl
          rw [e1] at ns hk hx
          have hns := Out.bind_ns ns
          obtain ⟨u, hu⟩ : ∃ u, σ[i]? = some (some u) := by
            unfold peek at hp0
            split at hp0
            · rename_i v' hv'
              obtain ⟨u, hu, _⟩ := R.val i v' hv'
              exact ⟨u, hu⟩
            · cases hp0
          refine BE.var v hu (ih es' A2 Z σ H ρ Fs _ R hns (fun ds ρ' q us H' Z' Fs' n a _ => ?_) fun c fs ρ' q => hx c fs ρ' (by rw [q]; rfl))
          rw [q] at ns hk
          have ns' : (match peek ρ' i with | some d => Out.ok (d :: ds) ρ' | none => .stuck) ≠ .stuck := ns
          cases hpk : peek ρ' i with
          | none => rw [hpk] at ns'; exact absurd rfl ns'
          | some d =>
            have hk' := hk (d :: ds) ρ' (by show (match peek ρ' i with | some d => Out.ok (d :: ds) ρ' | none => .stuck) = _; rw [hpk])
            refine hk' (u :: us) H' Z' Fs' n (.cons ?_ a) fun z => by cases z
            unfold peek at hpk
            split at hpk
            · rename_i v' hv'
              obtain ⟨u', hu', rv⟩ := n.r.val i v' hv'
              rw [hu] at hu'; cases hu'
              exact rv.argR hpk
            · cases hpk
      · have hne : ∀ i, e' ≠ .pk i := fun i q => hp ⟨i, q⟩
        have s := argS_of hne A1
        have e1 : evDs r (e' :: es') ρ = (r.e e' ρ).bind fun v ρ => match v.data with | some d => (evDs r es' ρ).bind fun ds ρ => .ok (d :: ds) ρ | none => .stuck := by
          cases e' <;> first | exact absurd rfl (hne _) | rfl
        rw [e1] at ns hk hx
        refine s Z σ H ρ Fs _ R (Out.bind_ns ns) (fun v ρ1 q u H1 Z1 Fs1 F n nv => ?_) fun c fs ρ' q => hx c fs ρ' (by rw [q]; rfl)
        rw [q] at ns hk hx
        have ns1 : (match v.data with | some d => (evDs r es' ρ1).bind fun ds ρ => Out.ok (d :: ds) ρ | none => .stuck) ≠ .stuck := ns
        cases hd : v.data with
        | none => rw [hd] at ns1; exact absurd rfl ns1
        | some d =>
          rw [hd] at ns1
          have n1 := n.frz nv
          have rd := nv.v.froze hd
          have e2 : ∀ {o : Out (List D)}, (Out.ok v ρ1 : Out Val).bind (fun v ρ => match v.data with | some d => (evDs r es' ρ).bind fun ds ρ => Out.ok (d :: ds) ρ | none => .stuck) = (evDs r es' ρ1).bind fun ds ρ => Out.ok (d :: ds) ρ := by
            intro o
            show (match v.data with | some d => (evDs r es' ρ1).bind fun ds ρ => Out.ok (d :: ds) ρ | none => .stuck) = _
            rw [hd]
          rw [e2 (o := .stuck)] at hk hx
          refine ih es' A2 _ σ H1 ρ1 Fs1 _ n1.r (Out.bind_ns ns1) (fun ds ρ' q2 us H' Z' Fs' n2 a a2 => ?_) fun c fs ρ' q2 cls dx H' Z' Fs' n2 x => hx c fs ρ' (by rw [q2]; rfl) cls dx H' Z' Fs' (n1.trans n2) x
          exact hk (d :: ds) ρ' (by rw [q2]; rfl) (u :: us) H' Z' Fs' (n1.trans n2) (.cons (.dat (rd.stay (n2.stay n1.r))) a) fun z => .cons (rd.stay (n2.stay n1.r)) (a2 (by cases e' <;> first | exact absurd rfl (hne _) | exact z))
end
end EV
end SSnd2
section SSnd3
set_option Elab.async false
set_option linter.all false
set_option maxRecDepth 100000
namespace EV
open PySem PySem.Spec PyProof.Rows L2

section
variable {W : Wd} {X : Cx} {Wx : WX} {r : Rec}
/-- what a new thing is: nothing that stood is changed -/
structure NewV (W : Wd) (H : Hp) (Z : Addr → Prop) (u : V) (v : Val) (H' : Hp) (Z' : Addr → Prop) : Prop where
  pres : ∀ a o, H a = some o → H' a = some o
  zm : ∀ a, Z a → Z' a
  zf : ∀ a, Z' a → Z a ∨ H a = none
  v : ∃ F, RepV W H' Z' u v F ∧ ∀ a ∈ F, H a = none
  zt : ∀ a, Z' a → H' a ≠ none
theorem NewV.keep {H H' : Hp} {Z Z' : Addr → Prop} {u : V} {v : Val} (n : NewV W H Z u v H' Z') : ∀ a, H' a = none → H a = none := fun a h => by
  cases q : H a with
  | none => rfl
  | some o => rw [n.pres a o q] at h; cases h
theorem NewV.here {H : Hp} {Z : Addr → Prop} {u : V} {d : D} (hz : ∀ a, Z a → H a ≠ none) (h : RepD W.K H Z u d) : NewV W H Z u (.dat d) H Z := ⟨fun _ _ h => h, fun _ h => h, fun _ h => .inl h, ⟨[], .dat h, fun _ m => by cases m⟩, hz⟩
theorem NewV.nxt {H H' : Hp} {Z Z' : Addr → Prop} {σ : L2.St} {ρ : Env} {Fs : Nat → List Addr} {u : V} {v : Val} (R : RelE W H Z σ ρ Fs) (n : NewV W H Z u v H' Z') :
    Nxt W H Z Fs σ ρ H' Z' Fs ∧ ∃ F, NV W H Fs H' Z' Fs u v F := by
  obtain ⟨F, rv, hF⟩ := n.v
  have e : Ext H H' Z Z' (fun _ => False) (fun _ => False) := ⟨fun a o h _ => n.pres a o h, n.zm, fun a h => (n.zf a h).elim .inl fun z => .inr (.inl z), n.keep, fun _ h => h.elim, n.zt⟩
  refine ⟨⟨⟨fun a o h _ => n.pres a o h, n.zm, fun a h => (n.zf a h).elim .inl fun z => .inr (.inl z), n.keep, fun a h => .inr h, n.zt⟩, ?_⟩, F, rv, fun a m q => ?_, fun a m => .inl (hF a m)⟩
  · exact R.ext e (fun a h => h.elim) fun a _ h => h
  · have z := hF a m
    rcases (R.own a q).2 with ⟨_, y⟩ | ⟨_, y⟩ <;> rw [z] at y <;> cases y
theorem stay_new {H H' : Hp} {Z Z' : Addr → Prop} (p : ∀ a o, H a = some o → H' a = some o) (z : ∀ a, Z a → Z' a) : Stay H H' Z Z' := ⟨z, fun a o h _ => p a o h, fun a us h => p a _ h, fun a o u h => p a _ h⟩
theorem upd_pres {H : Hp} {p : Addr} {o : HO} (n : H p = none) : ∀ a o', H a = some o' → upd H p o a = some o' := fun a o' h => by
  rw [upd_ne (ne_of_none h n)]; exact h
theorem zt_upd {H : Hp} {Z : Addr → Prop} {p : Addr} {o : HO} (n : H p = none) (hz : ∀ a, Z a → H a ≠ none) : ∀ a, Z a → upd H p o a ≠ none := fun a z q => by
  cases e : H a with
  | none => exact hz a z e
  | some o' => rw [upd_pres n a o' e] at q; cases q
/-- a new list of one's own -/
theorem NewV.list {H : Hp} {Z : Addr → Prop} {p : Addr} {us : List V} {ds : List D} (n : H p = none) (hz : ∀ a, Z a → H a ≠ none) (h : RepDs W.K H Z us ds) : NewV W H Z (.ref p) (.ol ds) (upd H p (.lst us)) Z :=
  ⟨upd_pres n, fun _ h => h, fun _ h => .inl h, ⟨[p], .ol upd_same (fun z => hz p z n) (h.stay (stay_new (upd_pres n) fun _ h => h)), fun a m => by cases List.mem_singleton.mp m; exact n⟩, zt_upd n hz⟩
theorem NewV.tup {H : Hp} {Z : Addr → Prop} {p : Addr} {o : Obj} {us : List V} {ds : List D} (n : H p = none) (ho : TupO o) (hz : ∀ a, Z a → H a ≠ none) (h : RepDs W.K H Z us ds) : NewV W H Z (.ref p) (.dat (.tuple ds)) (upd H p (.frz o (.tup us))) Z :=
  ⟨upd_pres n, fun _ h => h, fun _ h => .inl h, ⟨[], .dat (.tup upd_same ho (h.stay (stay_new (upd_pres n) fun _ h => h))), fun a m => by cases m⟩, zt_upd n hz⟩

/-- a rule p that reads its arguments: us stand for ds; what comes is new -/
def PrimR (W : Wd) (p : Prim) (rd : List V → Hp → VK → Prop) : Prop :=
  ∀ (H : Hp) (Z : Addr → Prop) (us : List V) (ds : List D) (res : PR) (Q : VK), (∀ a, Z a → H a ≠ none) → ArgRs W H Z us ds → psem p ds = some res →
    (∀ u H' Z', NewV W H Z u res.val H' Z' → Q u H') → rd us H Q
theorem BEs.mono {es : List Expr} : ∀ {σ : L2.St} {H : Hp} {Q Q' : List V → Hp → Prop}, (∀ us H, Q us H → Q' us H) → BEs X es σ H Q → BEs X es σ H Q' := by
  induction es with
  | nil => exact fun h q => h _ _ q
  | cons e es ih => exact fun h q => fun pins s I => wpAny_mono (q pins s I) (fun _ _ ⟨v, H', I', rv, q'⟩ => ⟨v, H', I', rv, ih (fun us H hq => h _ _ hq) q'⟩) fun _ _ x => x
end
end EV
end SSnd3
section SSnd4
set_option Elab.async false
set_option linter.all false
set_option maxRecDepth 100000
namespace EV
open PySem PySem.Spec PyProof.Rows L2
def updF (Fs : Nat → List Addr) (i : Nat) (F : List Addr) : Nat → List Addr := fun j => if j = i then F else Fs j
theorem updF_same {Fs : Nat → List Addr} {i : Nat} {F : List Addr} : updF Fs i F i = F := by unfold updF; rw [if_pos rfl]
theorem updF_ne {Fs : Nat → List Addr} {i j : Nat} {F : List Addr} (h : j ≠ i) : updF Fs i F j = Fs j := by unfold updF; rw [if_neg h]
section
variable {W : Wd} {X : Cx} {Wx : WX} {r : Rec}
theorem Exd.bind {α β : Type} {H H1 : Hp} {Z Z1 : Addr → Prop} {Fs Fs1 : Nat → List Addr} {σ : L2.St} {o : Out α} {f : α → Env → Out β} {a : α} {ρ1 : Env} (h : Exd W Wx H Z Fs σ (o.bind f)) (e : o = .ok a ρ1) {ρ0 : Env} (n : Nxt W H Z Fs σ ρ0 H1 Z1 Fs1) : Exd W Wx H1 Z1 Fs1 σ (f a ρ1) := by
  intro c fs ρ' q cls d H' Z' Fs' n' x
  exact h c fs ρ' (by rw [e]; exact q) cls d H' Z' Fs' (n.trans n') x
theorem Exd.fst {α β : Type} {H : Hp} {Z : Addr → Prop} {Fs : Nat → List Addr} {σ : L2.St} {o : Out α} {f : α → Env → Out β} (h : Exd W Wx H Z Fs σ (o.bind f)) : Exd W Wx H Z Fs σ o := by
  intro c fs ρ' q
  exact h c fs ρ' (by rw [q]; rfl)
theorem bind_ok {α β : Type} {o : Out α} {f : α → Env → Out β} {a : α} {ρ : Env} (e : o = .ok a ρ) : o.bind f = f a ρ := by rw [e]; rfl
theorem ofO_ns {α : Type} {o : Option α} {ρ : Env} (h : ofO o ρ ≠ .stuck) : ∃ a, o = some a ∧ ofO o ρ = .ok a ρ := by
  cases o with
  | none => exact absurd rfl h
  | some a => exact ⟨a, rfl, rfl⟩
/-- from a value behind an expression on: k is what comes -/
theorem SndE.bind {e : Expr} {f : Env → Out Val} {β : Type} {g : Val → Env → Out β} (s : SndE W X Wx e f) {Z : Addr → Prop} {σ : L2.St} {H : Hp} {ρ : Env} {Fs : Nat → List Addr} {Q : VK} (R : RelE W H Z σ ρ Fs) (ns : (f ρ).bind g ≠ .stuck) (hx : Exd W Wx H Z Fs σ ((f ρ).bind g))
    (hk : ∀ v ρ1 u H1 Z1 Fs1 F, f ρ = .ok v ρ1 → Nxt W H Z Fs σ ρ1 H1 Z1 Fs1 → NV W H Fs H1 Z1 Fs1 u v F → g v ρ1 ≠ .stuck → Exd W Wx H1 Z1 Fs1 σ (g v ρ1) → Q u H1) : BE X e σ H Q :=
  s Z σ H ρ Fs Q R (Out.bind_ns ns) (fun v ρ1 q u H1 Z1 Fs1 F n nv => hk v ρ1 u H1 Z1 Fs1 F q n nv (by rw [bind_ok q] at ns; exact ns) (hx.bind q n)) hx.fst
theorem snd_Ds_bind {es : List Expr} {es' : List Ex} {β : Type} {g : List D → Env → Out β} (A : ArgSs W X Wx r es es') {Z : Addr → Prop} {σ : L2.St} {H : Hp} {ρ : Env} {Fs : Nat → List Addr} {Q : List V → Hp → Prop} (R : RelE W H Z σ ρ Fs) (ns : (evDs r es' ρ).bind g ≠ .stuck) (hx : Exd W Wx H Z Fs σ ((evDs r es' ρ).bind g))
    (hk : ∀ ds ρ1 us H1 Z1 Fs1, evDs r es' ρ = .ok ds ρ1 → Nxt W H Z Fs σ ρ1 H1 Z1 Fs1 → ArgRs W H1 Z1 us ds → (noPk es' = true → RepDs W.K H1 Z1 us ds) → g ds ρ1 ≠ .stuck → Exd W Wx H1 Z1 Fs1 σ (g ds ρ1) → Q us H1) : BEs X es σ H Q :=
  snd_Ds es es' A Z σ H ρ Fs Q R (Out.bind_ns ns) (fun ds ρ1 q us H1 Z1 Fs1 n a a2 => hk ds ρ1 us H1 Z1 Fs1 q n a a2 (by rw [bind_ok q] at ns; exact ns) (hx.bind q n)) hx.fst

theorem snd_pr {p : Prim} {e : Expr} {es : List Expr} {es' : List Ex} {rd : List V → Hp → VK → Prop} (A : ArgSs W X Wx r es es') (P : PrimR W p rd)
    (hb : ∀ σ H Q, BEs X es σ H (fun us H1 => rd us H1 Q) → BE X e σ H Q) : SndE W X Wx e (fun ρ => (evDs r es' ρ).bind (prOut p)) := by
  intro Z σ H ρ Fs Q R ns hk hx
  refine hb σ H Q (snd_Ds_bind A R ns hx fun ds ρ1 us H1 Z1 Fs1 q n a _ ns1 _ => ?_)
  obtain ⟨v, hv, e1⟩ := ofO_ns ns1
  cases hp : psem p ds with
  | none => rw [hp] at hv; cases hv
  | some res =>
    rw [hp] at hv; cases hv
    refine P H1 Z1 us ds res Q n.r.zok a hp fun u H' Z' nv => ?_
    obtain ⟨n2, F, nv2⟩ := nv.nxt n.r
    exact hk _ ρ1 ((bind_ok q).trans e1) u H' Z' Fs1 F (n.trans n2) (NV.trans n nv2)

/-- a slot's value read as a value -/
theorem froze {Z : Addr → Prop} {σ : L2.St} {H : Hp} {ρ : Env} {Fs : Nat → List Addr} {i : Nat} {v : Val} {u : V} (R : RelE W H Z σ ρ Fs) (e : ρ[i]? = some (some v)) (hu : σ[i]? = some (some u)) (rv : RepV W H Z u v (Fs i)) :
    Nxt W H Z Fs σ (frzAt ρ i v) H (zor Z (Fs i)) (updF Fs i []) ∧ RepV W H (zor Z (Fs i)) u v.frz [] := by
  have hne : ∀ a ∈ Fs i, H a ≠ none := own_ne rv.own
  have zok : ∀ a, zor Z (Fs i) a → H a ≠ none := fun a h => h.elim (R.zok a) (hne a)
  have hi : i < ρ.length := (List.getElem?_eq_some_iff.mp e).1
  -- the frozen value
  have fv : RepV W H (zor Z (Fs i)) u v.frz [] := by
    generalize Fs i = G at rv
    cases rv with
    | dat r => exact .dat (r.stay (stay_or _ _ _))
    | exc r =>
      obtain ⟨a, φ, cls, d, h1, h2, h3, h4, h5⟩ := r
      refine .exc ⟨a, φ, cls, d, h1, h2, h3, h4, ?_⟩
      rcases h5 with h5 | ⟨dx, us, g1, g2, g3, g4⟩
      · exact .inl h5
      · exact .inr ⟨dx, us, g1, g2, g3, g4.stay (stay_or _ _ _)⟩
    | fn f => exact .fn f
    | scr h r => exact .scr h (r.stay (stay_or _ _ _))
    | ol h z r => exact .dat (.lst h (.inr (List.mem_singleton.mpr rfl)) (r.stay (stay_or _ _ _)))
    | od h z q r => exact .dat (.dct h (.inr (List.mem_singleton.mpr rfl)) q (r.stay (stay_or _ _ _)))
  -- the env: slot i holds the frozen value
  have sl : ∀ j w, (frzAt ρ i v)[j]? = some (some w) → (j = i ∧ w = v.frz) ∨ (j ≠ i ∧ ρ[j]? = some (some w)) := by
    intro j w q
    by_cases hj : j = i
    · subst hj
      left
      refine ⟨rfl, ?_⟩
      cases v with
      | ol ds => simp only [frzAt, List.getElem?_set_self hi] at q; cases q; rfl
      | od ds => simp only [frzAt, List.getElem?_set_self hi] at q; cases q; rfl
      | _ => (simp only [frzAt] at q; rw [e] at q; cases q; rfl)
    · right
      refine ⟨hj, ?_⟩
      cases v with
      | ol ds => simpa only [frzAt, List.getElem?_set_ne (Ne.symm hj)] using q
      | od ds => simpa only [frzAt, List.getElem?_set_ne (Ne.symm hj)] using q
      | _ => exact q
  have ln : (frzAt ρ i v).length = ρ.length := by cases v <;> simp [frzAt]
  have R2 : RelE W H (zor Z (Fs i)) σ (frzAt ρ i v) (updF Fs i []) := by
    refine ⟨R.len.trans ln.symm, fun j w q => ?_, fun j hj => ?_, fun j k a h1 h2 => ?_, zok⟩
    · rcases sl j w q with ⟨rfl, rfl⟩ | ⟨hj, q'⟩
      · exact ⟨u, hu, by rw [updF_same]; exact fv⟩
      · obtain ⟨u', h1, r⟩ := R.val j w q'
        refine ⟨u', h1, ?_⟩
        rw [updF_ne hj]
        have nz : ∀ {a}, a ∈ Fs j → ¬ Z a → ¬ zor Z (Fs i) a := fun {a} m z q => q.elim z fun m' => hj (R.dis j i a m m')
        generalize hF : Fs j = G at r nz
        cases r with
        | dat r => exact .dat (r.stay (stay_or _ _ _))
        | exc r =>
          obtain ⟨a, φ, cls, d, h1, h2, h3, h4, h5⟩ := r
          refine .exc ⟨a, φ, cls, d, h1, h2, h3, h4, ?_⟩
          rcases h5 with h5 | ⟨dx, us, g1, g2, g3, g4⟩
          · exact .inl h5
          · exact .inr ⟨dx, us, g1, g2, g3, g4.stay (stay_or _ _ _)⟩
        | fn f => exact .fn f
        | scr h r => exact .scr h (r.stay (stay_or _ _ _))
        | ol h z r => exact .ol h (nz (List.mem_singleton.mpr rfl) z) (r.stay (stay_or _ _ _))
        | od h z q2 r => exact .od h (nz (List.mem_singleton.mpr rfl) z) q2 (r.stay (stay_or _ _ _))
    · by_cases h : j = i
      · subst h; exact updF_same
      · rw [updF_ne h]
        refine R.nov j fun w q => hj w ?_
        cases v with
        | ol ds => simpa only [frzAt, List.getElem?_set_ne (Ne.symm h)] using q
        | od ds => simpa only [frzAt, List.getElem?_set_ne (Ne.symm h)] using q
        | _ => exact q
    · by_cases g1 : j = i
      · subst g1; rw [updF_same] at h1; cases h1
      · by_cases g2 : k = i
        · subst g2; rw [updF_same] at h2; cases h2
        · rw [updF_ne g1] at h1; rw [updF_ne g2] at h2; exact R.dis j k a h1 h2
  refine ⟨⟨⟨fun _ _ h _ => h, fun _ h => .inl h, fun a h => h.elim .inl fun m => .inr (.inr ⟨i, m⟩), fun _ h => h, fun a ⟨j, m⟩ => .inr ?_, zok⟩, R2⟩, fv⟩
  by_cases g : j = i
  · subst g; rw [updF_same] at m; cases m
  · rw [updF_ne g] at m; exact ⟨j, m⟩
theorem snd_var {cls : Nat → Nat → Bool} {cl : Nat → List Val → CRes} {i : Nat} {x : Str} {pos : Pos} (v : VarOk X i x) : SndE W X Wx (.Name x pos) (stepE cls cl r (.var i)) := by
  intro Z σ H ρ Fs Q R ns hk hx
  cases e : ρ[i]? with
  | none => exact absurd (by simp only [stepE, e]) ns
  | some w =>
    cases w with
    | none => exact absurd (by simp only [stepE, e]) ns
    | some w =>
      obtain ⟨u, hu, rv⟩ := R.val i w e
      obtain ⟨n, fv⟩ := froze R e hu rv
      exact BE.var v hu (hk w.frz (frzAt ρ i w) (by simp only [stepE, e]) u H _ _ [] n ⟨fv, fun _ m => (by cases m), fun _ m => (by cases m)⟩)
theorem snd_cst {e : Expr} {v : V} {d : D} (hp : PE X e (tC v)) (h : ∀ H Z, RepD W.K H Z v d) : SndE W X Wx e (fun ρ => .ok (.dat d) ρ) := by
  intro Z σ H ρ Fs Q R ns hk hx
  exact BE.of hp (hk _ ρ rfl v H Z Fs [] (.refl R) ⟨.dat (h H Z), fun _ m => (by cases m), fun _ m => (by cases m)⟩)
/-- an expression that gives True or False -/
theorem snd_bool {e : Expr} {e' : Ex} {β : Type} {g : Bool → Env → Out β} (s : SndE W X Wx e (r.e e')) {Z : Addr → Prop} {σ : L2.St} {H : Hp} {ρ : Env} {Fs : Nat → List Addr} {Q : VK} (R : RelE W H Z σ ρ Fs) (ns : (evT r e' ρ).bind g ≠ .stuck) (hx : Exd W Wx H Z Fs σ ((evT r e' ρ).bind g))
    (hk : ∀ b ρ1 H1 Z1 Fs1, evT r e' ρ = .ok b ρ1 → Nxt W H Z Fs σ ρ1 H1 Z1 Fs1 → g b ρ1 ≠ .stuck → Exd W Wx H1 Z1 Fs1 σ (g b ρ1) → Q (.bl b) H1) : BE X e σ H Q := by
  refine s.bind (g := boolR) R (Out.bind_ns ns) hx.fst fun v ρ1 u H1 Z1 Fs1 F q n nv ns1 hx1 => ?_
  cases v with
  | dat d =>
    cases d with
    | bool b =>
      have hv := nv.v
      have e1 : evT r e' ρ = .ok b ρ1 := bind_ok q
      cases hv with
      | dat r =>
        cases r
        exact hk b ρ1 H1 Z1 Fs1 e1 n (by rw [bind_ok e1] at ns; exact ns) (hx.bind e1 n)
    | _ => exact absurd rfl ns1
  | _ => exact absurd rfl ns1
/-- not -/
theorem snd_not {e : Expr} {e' : Ex} {pos : Pos} (s : SndE W X Wx e (r.e e')) : SndE W X Wx (.UnaryOp .Not e pos) (fun ρ => (evT r e' ρ).bind fun b ρ => .ok (.dat (.bool (!b))) ρ) := by
  intro Z σ H ρ Fs Q R ns hk hx
  refine BE.of (pe_not BE.pe) (snd_bool s R ns hx fun b ρ1 H1 Z1 Fs1 q n ns1 hx1 => ⟨b, rfl, ?_⟩)
  exact hk _ ρ1 (bind_ok q) (.bl (!b)) H1 Z1 Fs1 [] n ⟨.dat (.bl _), fun _ m => (by cases m), fun _ m => (by cases m)⟩
end
end EV
end SSnd4
section SSnd5
set_option Elab.async false
set_option linter.all false
set_option maxRecDepth 100000
namespace EV
open PySem PySem.Spec PyProof.Rows L2
def BW (X : Cx) (e : Expr) : TT := fun σ H Q => ∀ whole pins s, Inv X pins σ H s → wpAny (model X.prog X.w) X.A (isTrue e X.env whole) (TP X pins σ Q) X.xe s
theorem BW.pw {X : Cx} {e : Expr} : PW X e (BW X e) := ⟨fun wh pins s _ _ _ I h => h wh pins s I⟩
theorem BW.of {X : Cx} {e : Expr} {t : TT} (h : PW X e t) {σ : L2.St} {H : Hp} {Q : Bool → Hp → Prop} (q : t σ H Q) : BW X e σ H Q := fun wh pins s I => h.run wh pins s σ H Q I q
/-- sound tests; Bx is BT or BW -/
def SndTx (Bx : Cx → Expr → TT) (W : Wd) (X : Cx) (Wx : WX) (e : Expr) (f : Env → Out Bool) : Prop :=
  ∀ (Z : Addr → Prop) (σ : L2.St) (H : Hp) (ρ : Env) (Fs : Nat → List Addr) (Q : Bool → Hp → Prop), RelE W H Z σ ρ Fs → f ρ ≠ .stuck →
    (∀ b ρ', f ρ = .ok b ρ' → ∀ H' Z' Fs', Nxt W H Z Fs σ ρ' H' Z' Fs' → Q b H') → Exd W Wx H Z Fs σ (f ρ) → Bx X e σ H Q
abbrev SndT := SndTx BT
abbrev SndW := SndTx BW
def evAndT (r : Rec) : List Ex → Env → Out Bool
  | [], _ => .stuck
  | [e], ρ => evT r e ρ
  | e :: es, ρ => (evT r e ρ).bind fun b ρ => cond b (evAndT r es ρ) (.ok false ρ)
def evOrT (r : Rec) : List Ex → Env → Out Bool
  | [], _ => .stuck
  | [e], ρ => evT r e ρ
  | e :: es, ρ => (evT r e ρ).bind fun b ρ => cond b (.ok true ρ) (evOrT r es ρ)
theorem bind_bind {α β γ : Type} (o : Out α) (f : α → Env → Out β) (g : β → Env → Out γ) : (o.bind f).bind g = o.bind fun a ρ => (f a ρ).bind g := by
  cases o <;> rfl
theorem evAnd_T (r : Rec) : ∀ (es : List Ex) (ρ : Env), (evAnd r es ρ).bind boolR = evAndT r es ρ
  | [], _ => rfl
  | [e], ρ => rfl
  | e :: e2 :: es, ρ => by
    show ((evT r e ρ).bind fun b ρ => cond b (evAnd r (e2 :: es) ρ) (.ok (.dat (.bool false)) ρ)).bind boolR = (evT r e ρ).bind fun b ρ => cond b (evAndT r (e2 :: es) ρ) (.ok false ρ)
    rw [bind_bind]
    congr 1
    funext b ρ1
    cases b with
    | true => exact evAnd_T r (e2 :: es) ρ1
    | false => rfl
theorem evOr_T (r : Rec) : ∀ (es : List Ex) (ρ : Env), (evOr r es ρ).bind boolR = evOrT r es ρ
  | [], _ => rfl
  | [e], ρ => rfl
  | e :: e2 :: es, ρ => by
    show ((evT r e ρ).bind fun b ρ => cond b (.ok (.dat (.bool true)) ρ) (evOr r (e2 :: es) ρ)).bind boolR = (evT r e ρ).bind fun b ρ => cond b (.ok true ρ) (evOrT r (e2 :: es) ρ)
    rw [bind_bind]
    congr 1
    funext b ρ1
    cases b with
    | true => rfl
    | false => exact evOr_T r (e2 :: es) ρ1
section
variable {W : Wd} {X : Cx} {Wx : WX} {r : Rec} {Bx : Cx → Expr → TT}
theorem SndTx.bind {e : Expr} {f : Env → Out Bool} {β : Type} {g : Bool → Env → Out β} (s : SndTx Bx W X Wx e f) {Z : Addr → Prop} {σ : L2.St} {H : Hp} {ρ : Env} {Fs : Nat → List Addr} {Q : Bool → Hp → Prop} (R : RelE W H Z σ ρ Fs) (ns : (f ρ).bind g ≠ .stuck) (hx : Exd W Wx H Z Fs σ ((f ρ).bind g))
    (hk : ∀ b ρ1 H1 Z1 Fs1, f ρ = .ok b ρ1 → Nxt W H Z Fs σ ρ1 H1 Z1 Fs1 → g b ρ1 ≠ .stuck → Exd W Wx H1 Z1 Fs1 σ (g b ρ1) → Q b H1) : Bx X e σ H Q :=
  s Z σ H ρ Fs Q R (Out.bind_ns ns) (fun b ρ1 q H1 Z1 Fs1 n => hk b ρ1 H1 Z1 Fs1 q n (by rw [bind_ok q] at ns; exact ns) (hx.bind q n)) hx.fst
def All2 {α β : Type} (p : α → β → Prop) : List α → List β → Prop
  | [], [] => True
  | a :: as, b :: bs => p a b ∧ All2 p as bs
  | _, _ => False
theorem snd_andT {pos : Pos} : ∀ (es : List Expr) (es' : List Ex), All2 (fun e e' => SndT W X Wx e (evT r e')) es es' → es ≠ [] → SndW W X Wx (.BoolOp .And es pos) (evAndT r es') := by
  intro es
  induction es with
  | nil => intro es' _ h; exact absurd rfl h
  | cons e es ih =>
    intro es' A _
    cases es' with
    | nil => exact A.elim
    | cons e' es' =>
      obtain ⟨s1, A⟩ := A
      cases es with
      | nil =>
        cases es' with
        | cons _ _ => exact A.elim
        | nil =>
          intro Z σ H ρ Fs Q R ns hk hx
          exact BW.of (pw_and1 BT.pt) (s1 Z σ H ρ Fs Q R ns hk hx)
      | cons e2 es =>
        cases es' with
        | nil => exact A.elim
        | cons e2' es' =>
          intro Z σ H ρ Fs Q R ns hk hx
          have ih' := ih (e2' :: es') A (by simp)
          refine BW.of (pw_and BT.pt BW.pw) (s1.bind (g := fun b ρ => cond b (evAndT r (e2' :: es') ρ) (.ok false ρ)) R ns hx fun b ρ1 H1 Z1 Fs1 q n ns1 hx1 => ?_)
          cases b with
          | true =>
            rw [if_pos rfl]
            refine ih' Z1 σ H1 ρ1 Fs1 Q n.r ns1 (fun b ρ' q2 H' Z' Fs' n2 => hk b ρ' ((bind_ok q).trans q2) H' Z' Fs' (n.trans n2)) hx1
          | false =>
            rw [if_neg (by decide)]
            exact hk false ρ1 (bind_ok q) H1 Z1 Fs1 n
theorem snd_orT {pos : Pos} : ∀ (es : List Expr) (es' : List Ex), All2 (fun e e' => SndT W X Wx e (evT r e')) es es' → es ≠ [] → SndW W X Wx (.BoolOp .Or es pos) (evOrT r es') := by
  intro es
  induction es with
  | nil => intro es' _ h; exact absurd rfl h
  | cons e es ih =>
    intro es' A _
    cases es' with
    | nil => exact A.elim
    | cons e' es' =>
      obtain ⟨s1, A⟩ := A
      cases es with
      | nil =>
        cases es' with
        | cons _ _ => exact A.elim
        | nil =>
          intro Z σ H ρ Fs Q R ns hk hx
          exact BW.of (pw_or1 BT.pt) (s1 Z σ H ρ Fs Q R ns hk hx)
      | cons e2 es =>
        cases es' with
        | nil => exact A.elim
        | cons e2' es' =>
          intro Z σ H ρ Fs Q R ns hk hx
          have ih' := ih (e2' :: es') A (by simp)
          refine BW.of (pw_or BT.pt BW.pw) (s1.bind (g := fun b ρ => cond b (.ok true ρ) (evOrT r (e2' :: es') ρ)) R ns hx fun b ρ1 H1 Z1 Fs1 q n ns1 hx1 => ?_)
          cases b with
          | true =>
            rw [if_pos rfl]
            exact hk true ρ1 (bind_ok q) H1 Z1 Fs1 n
          | false =>
            rw [if_neg (by decide)]
            refine ih' Z1 σ H1 ρ1 Fs1 Q n.r ns1 (fun b ρ' q2 H' Z' Fs' n2 => hk b ρ' ((bind_ok q).trans q2) H' Z' Fs' (n.trans n2)) hx1
theorem SndW.t {e : Expr} {f : Env → Out Bool} (s : SndW W X Wx e f) : SndT W X Wx e f := fun Z σ H ρ Fs Q R ns hk hx => fun pins st I => s Z σ H ρ Fs Q R ns hk hx _ pins st I
/-- as values -/
theorem snd_and {pos : Pos} : ∀ (es : List Expr) (es' : List Ex), All2 (fun e e' => SndE W X Wx e (r.e e')) es es' → es ≠ [] → SndE W X Wx (.BoolOp .And es pos) (evAnd r es') := by
  intro es
  induction es with
  | nil => intro es' _ h; exact absurd rfl h
  | cons e es ih =>
    intro es' A _
    cases es' with
    | nil => exact A.elim
    | cons e' es' =>
      obtain ⟨s1, A⟩ := A
      cases es with
      | nil =>
        cases es' with
        | cons _ _ => exact A.elim
        | nil =>
          intro Z σ H ρ Fs Q R ns hk hx
          exact BE.of (pe_one BE.pe) (s1 Z σ H ρ Fs Q R ns hk hx)
      | cons e2 es =>
        cases es' with
        | nil => exact A.elim
        | cons e2' es' =>
          intro Z σ H ρ Fs Q R ns hk hx
          have ih' := ih (e2' :: es') A (by simp)
          refine BE.of (pe_and BE.pe BE.pe) (snd_bool (g := fun b ρ => cond b (evAnd r (e2' :: es') ρ) (.ok (.dat (.bool false)) ρ)) s1 R ns hx fun b ρ1 H1 Z1 Fs1 q n ns1 hx1 => ⟨b, rfl, ?_⟩)
          cases b with
          | true =>
            rw [if_pos rfl]
            exact ih' Z1 σ H1 ρ1 Fs1 Q n.r ns1 (fun v ρ' q2 u H' Z' Fs' F n2 nv => hk v ρ' ((bind_ok q).trans q2) u H' Z' Fs' F (n.trans n2) (NV.trans n nv)) hx1
          | false =>
            rw [if_neg (by decide)]
            exact hk _ ρ1 (bind_ok q) (.bl false) H1 Z1 Fs1 [] n ⟨.dat (.bl _), fun _ m => (by cases m), fun _ m => (by cases m)⟩
theorem snd_or {pos : Pos} : ∀ (es : List Expr) (es' : List Ex), All2 (fun e e' => SndE W X Wx e (r.e e')) es es' → es ≠ [] → SndE W X Wx (.BoolOp .Or es pos) (evOr r es') := by
  intro es
  induction es with
  | nil => intro es' _ h; exact absurd rfl h
  | cons e es ih =>
    intro es' A _
    cases es' with
    | nil => exact A.elim
    | cons e' es' =>
      obtain ⟨s1, A⟩ := A
      cases es with
      | nil =>
        cases es' with
        | cons _ _ => exact A.elim
        | nil =>
          intro Z σ H ρ Fs Q R ns hk hx
          exact BE.of (pe_one BE.pe) (s1 Z σ H ρ Fs Q R ns hk hx)
      | cons e2 es =>
        cases es' with
        | nil => exact A.elim
        | cons e2' es' =>
          intro Z σ H ρ Fs Q R ns hk hx
          have ih' := ih (e2' :: es') A (by simp)
          refine BE.of (pe_or BE.pe BE.pe) (snd_bool (g := fun b ρ => cond b (Out.ok (Val.dat (PyData.bool true)) ρ) (evOr r (e2' :: es') ρ)) s1 R ns hx fun b ρ1 H1 Z1 Fs1 q n ns1 hx1 => ⟨b, rfl, ?_⟩)
          cases b with
          | true =>
            rw [if_pos rfl]
            exact hk _ ρ1 (bind_ok q) (.bl true) H1 Z1 Fs1 [] n ⟨.dat (.bl _), fun _ m => (by cases m), fun _ m => (by cases m)⟩
          | false =>
            rw [if_neg (by decide)]
            exact ih' Z1 σ H1 ρ1 Fs1 Q n.r ns1 (fun v ρ' q2 u H' Z' Fs' F n2 nv => hk v ρ' ((bind_ok q).trans q2) u H' Z' Fs' F (n.trans n2) (NV.trans n nv)) hx1
/-- a if c else b -/
theorem snd_ife {c a b : Expr} {c' a' b' : Ex} {pos : Pos} (sc : SndT W X Wx c (evT r c')) (sa : SndE W X Wx a (r.e a')) (sb : SndE W X Wx b (r.e b')) :
    SndE W X Wx (.IfExp c a b pos) (fun ρ => (evT r c' ρ).bind fun k ρ => cond k (r.e a' ρ) (r.e b' ρ)) := by
  intro Z σ H ρ Fs Q R ns hk hx
  refine BE.of (pe_ifExp BT.pt BE.pe BE.pe) (sc.bind (g := fun k ρ => cond k (r.e a' ρ) (r.e b' ρ)) R ns hx fun k ρ1 H1 Z1 Fs1 q n ns1 hx1 => ?_)
  cases k with
  | true =>
    rw [if_pos rfl]
    exact sa Z1 σ H1 ρ1 Fs1 Q n.r ns1 (fun v ρ' q2 u H' Z' Fs' F n2 nv => hk v ρ' ((bind_ok q).trans q2) u H' Z' Fs' F (n.trans n2) (NV.trans n nv)) hx1
  | false =>
    rw [if_neg (by decide)]
    exact sb Z1 σ H1 ρ1 Fs1 Q n.r ns1 (fun v ρ' q2 u H' Z' Fs' F n2 nv => hk v ρ' ((bind_ok q).trans q2) u H' Z' Fs' F (n.trans n2) (NV.trans n nv)) hx1
/-- not, as a test -/
theorem snd_notT {e : Expr} {e' : Ex} {pos : Pos} (s : SndT W X Wx e (evT r e')) : SndT W X Wx (.UnaryOp .Not e pos) (fun ρ => (evT r e' ρ).bind fun b ρ => .ok (!b) ρ) := by
  intro Z σ H ρ Fs Q R ns hk hx
  exact BT.of (pt_not BT.pt) (s.bind (g := fun b ρ => .ok (!b) ρ) R ns hx fun b ρ1 H1 Z1 Fs1 q n ns1 hx1 => hk _ ρ1 (bind_ok q) H1 Z1 Fs1 n)
/-- an expression as a test -/
theorem snd_valT {e : Expr} {e' : Ex} (s : SndE W X Wx e (r.e e')) (he : ∀ whole, isTrue e X.env whole = (do let v ← whole; standAt e.pos; holding [v] (truthy v))) : SndT W X Wx e (evT r e') := by
  intro Z σ H ρ Fs Q R ns hk hx
  have e0 : (evT r e' ρ).bind (fun b ρ => Out.ok b ρ) = evT r e' ρ := by cases evT r e' ρ <;> rfl
  exact BT.of (pt_val BE.pe he) (snd_bool (g := fun b ρ => Out.ok b ρ) s R (by rw [e0]; exact ns) (by rw [e0]; exact hx) fun b ρ1 H1 Z1 Fs1 q n ns1 hx1 => ⟨b, rfl, hk b ρ1 q H1 Z1 Fs1 n⟩)
end
end EV
end SSnd5
section SPrim1
set_option Elab.async false
set_option linter.all false
set_option maxRecDepth 100000
set_option maxHeartbeats 1000000
namespace EV
open PySem PySem.Spec PyProof.Rows L2
/-- what is known of the place where code runs -/
structure Good (W : Wd) (X : Cx) : Prop where
  K : X.K = W.K
  calm : X.calm = true
  nd : X.N.Nodup
  un : X.A.units + 180 < cLine
  hd : X.A.handled = none
  gd : X.A.guards = some []
  sm : ∃ o, X.base.get? sysModules = some o
def BOp (X : Cx) (f : Value → Value → Sem Value) : R2 := fun x y H Q => ∀ pins s σ v u, Inv X pins σ H s → RelV x v → RelV y u → wpAny (model X.prog X.w) X.A (f v u) (EP X pins σ Q) X.xe s
theorem BOp.ok {X : Cx} {f : Value → Value → Sem Value} : OpR X f (BOp X f) := fun pins s σ H x y v u Q I rx ry h => h pins s σ v u I rx ry
theorem BOp.of {X : Cx} {f : Value → Value → Sem Value} {r2 : R2} (h : OpR X f r2) {x y : V} {H : Hp} {Q : VK} (q : r2 x y H Q) : BOp X f x y H Q := fun pins s σ v u I rx ry => h pins s σ H x y v u Q I rx ry q
def BUn (X : Cx) (f : Value → Sem Value) : V → Hp → VK → Prop := fun x H Q => ∀ pins s σ v, Inv X pins σ H s → RelV x v → wpAny (model X.prog X.w) X.A (f v) (EP X pins σ Q) X.xe s
theorem BUn.ok {X : Cx} {f : Value → Sem Value} : UnR X f (BUn X f) := fun pins s σ H x v Q I rx h => h pins s σ v I rx
theorem BUn.of {X : Cx} {f : Value → Sem Value} {r : V → Hp → VK → Prop} (h : UnR X f r) {x : V} {H : Hp} {Q : VK} (q : r x H Q) : BUn X f x H Q := fun pins s σ v I rx => h pins s σ H x v Q I rx q
def BCall (X : Cx) (f : Value) : List V → Hp → VK → Prop := fun xs H Q => ∀ pins s σ us, Inv X pins σ H s → Vals xs us → wpAny (model X.prog X.w) X.A (call f us) (EP X pins σ Q) X.xe s
theorem BCall.ok {X : Cx} {f : Value} : CallR X f (BCall X f) := fun pins s σ H xs us Q I r h => h pins s σ us I r
theorem BCall.of {X : Cx} {f : Value} {r : List V → Hp → VK → Prop} (h : CallR X f r) {xs : List V} {H : Hp} {Q : VK} (q : r xs H Q) : BCall X f xs H Q := fun pins s σ us I rx => h pins s σ H xs us Q I rx q
/-- two operands -/
def rd2 (X : Cx) (f : Value → Value → Sem Value) : List V → Hp → VK → Prop := fun us H Q => ∃ x y, us = [x, y] ∧ BOp X f x y H Q
def rd1 (X : Cx) (f : Value → Sem Value) : List V → Hp → VK → Prop := fun us H Q => ∃ x, us = [x] ∧ BUn X f x H Q

section
variable {W : Wd} {X : Cx} {H : Hp} {Z : Addr → Prop} {u : V}
theorem ArgR.int {i : Int} (h : ArgR W H Z u (.int i)) : u = .int i := by cases h with | dat r => cases r; rfl
theorem ArgR.bl {b : Bool} (h : ArgR W H Z u (.bool b)) : u = .bl b := by cases h with | dat r => cases r; rfl
theorem ArgR.non (h : ArgR W H Z u .none) : u = .non := by cases h with | dat r => cases r; rfl
theorem ArgR.str {x : Str} (h : ArgR W H Z u (.str x)) : u = .str x := by cases h with | dat r => cases r; rfl
theorem ArgR.tup {ds : List D} (h : ArgR W H Z u (.tuple ds)) : ∃ a us, u = .ref a ∧ SqT W.K H a us ∧ RepDs W.K H Z us ds := by cases h with | dat r => cases r with | tup h _ rs => exact ⟨_, _, rfl, .inl (.inr ⟨_, h⟩), rs⟩
theorem ArgR.tupO {ds : List D} (h : ArgR W H Z u (.tuple ds)) : ∃ a o us, u = .ref a ∧ H a = some (.frz o (.tup us)) ∧ TupO o ∧ RepDs W.K H Z us ds := by cases h with | dat r => cases r with | tup h ho rs => exact ⟨_, _, _, rfl, h, ho, rs⟩
theorem ArgR.lst {ds : List D} (h : ArgR W H Z u (.list ds)) : ∃ a us, u = .ref a ∧ H a = some (.lst us) ∧ RepDs W.K H Z us ds := by
  cases h with
  | dat r => cases r with | lst h z rs => exact ⟨_, _, rfl, h, rs⟩
  | ol h rs => exact ⟨_, _, rfl, h, rs⟩
theorem ArgR.dct {ds : List (D × D)} (h : ArgR W H Z u (.dict ds)) : ∃ a kvs, u = .ref a ∧ H a = some (.dK kvs) ∧ ds.map (·.1) = kvs.map (fun p => keyD p.1) ∧ RepDs W.K H Z (kvs.map (·.2)) (ds.map (·.2)) := by
  cases h with
  | dat r => cases r with | dct h z e rs => exact ⟨_, _, rfl, h, e, rs⟩
  | od h e rs => exact ⟨_, _, rfl, h, e, rs⟩
theorem RepDs.dps {K : PySem.W.Frag} {us : List V} {ds : List D} (h : RepDs K H Z us ds) (e : PyData.canLayAll0 ds = true) : DpAll K H us ds := by
  induction us generalizing ds with
  | nil => cases h; exact .nil
  | cons u us ih => cases h with
    | cons r rs =>
      rename_i d ds
      have e' : d.canLay0 = true ∧ PyData.canLayAll0 ds = true := by simpa [PyData.canLayAll0] using e
      exact .cons (r.sq e'.1) (ih rs e'.2)
/-- without dicts: as the layer's data -/
theorem ArgR.dp {d : D} (h : ArgR W H Z u d) (e : d.canLay0 = true) : Dp W.K H u d := by
  cases h with
  | dat r => exact r.sq e
  | ol h rs => exact .lst (SqL.of h) (rs.dps (by simpa [PyData.canLay0] using e))
  | od h q rs => simp [PyData.canLay0] at e
theorem fit_le {n : Nat} (h : fit n = true) : n ≤ sizeLine := by rw [sizeLine_eq]; exact of_decide_eq_true h
theorem small_lt {i : Int} (h : small64 i = true) : -(2 ^ 64) < i ∧ i < 2 ^ 64 := by
  have h1 : i.natAbs < 18446744073709551616 := of_decide_eq_true h
  have e : (2 : Int) ^ 64 = 18446744073709551616 := by decide
  rw [e]; omega
theorem NewV.at {d : D} (hz : ∀ a, Z a → H a ≠ none) (h : RepD W.K H Z u d) : NewV W H Z u (PR.val (.dat d)) H Z := NewV.here hz h
end
end EV
end SPrim1
section STup
set_option Elab.async false
set_option linter.all false
set_option maxRecDepth 100000
set_option maxHeartbeats 4000000
namespace EV
open PySem PySem.Spec PyProof.Rows L2
/-! ### rules that make tuples: the new object is known -/
def tobj (ws : List Value) : Obj := { cls := .type "tuple", data := .seq ws.toArray }
theorem tobj_ok (ws : List Value) : TupO (tobj ws) := ⟨rfl, rfl⟩
abbrev TupQ (H : Hp) (Q : VK) (us : List V) : Prop := ∀ p o, H p = none → TupO o → Q (.ref p) (upd H p (.frz o (.tup us)))
section
variable {X : Cx}
theorem tup_laid {pins : List (Addr × Obj)} {σ : L2.St} {H : Hp} {s : Shared} {us : List V} {ws : List Value} {Q : VK} {t' : Nat} (I : Inv X pins σ H s) (r : Vals us ws) (hz : us.length ≤ sizeLine) (q : TupQ H Q us) :
    EP X pins σ Q (.ref s.heap.objs.size) { s with heap := s.heap.push (tobj ws), toks := t' } := by
  have hn : H s.heap.objs.size = none := I.hok.fresh (Nat.le_refl _)
  have hg : (s.heap.push (tobj ws)).get? s.heap.objs.size = some (tobj ws) := Heap.get?_push_size _ rfl
  refine ⟨V.ref s.heap.objs.size, _, I.laid (t' := t') (o := .frz (tobj ws) (.tup us)) (fun b ob e => Heap.get?_push_of_some _ e) (Nat.le_refl _) ?_, rfl, q _ _ hn (tobj_ok ws)⟩
  exact ⟨hg, hz, ws, r, IsTup.new _ _⟩
theorem parts_laid {pins : List (Addr × Obj)} {σ : L2.St} {H : Hp} {s : Shared} {Q : VK} {x y z : Str} {t u v : Tok} {k : Nat} (I : Inv X pins σ H s) (q : TupQ H Q [.str x, .str y, .str z]) :
    EP X pins σ Q (.ref s.heap.objs.size) { s with heap := s.heap.push (tobj [.str x t, .str y u, .str z v]), toks := k } :=
  tup_laid I (.cons (show RelV (.str x) _ from ⟨t, rfl⟩) (.cons (show RelV (.str y) _ from ⟨u, rfl⟩) (.cons (show RelV (.str z) _ from ⟨v, rfl⟩) .nil))) (show 3 ≤ sizeLine by rw [sizeLine_eq]; decide) q
theorem dispN {es : List Expr} {k : Nat} {pos : Pos} {t : TA} (h : PA X es t) : PE X (.Tuple es k pos) (fun σ H Q => t σ H fun us H1 => us.length ≤ sizeLine ∧ TupQ H1 Q us) := by
  refine ⟨fun pins s σ H Q I hq => wpAny_Tuple_spliced (thn (h.run pos pins s σ H _ I hq) ?_)⟩
  rintro ws s1 ⟨us, H1, I1, r, z, q⟩
  exact ⟨by rw [← r.length]; exact z, tup_laid (t' := s1.toks) I1 r z q⟩
theorem catN : OpR X (binaryOp .Add) (fun x y H Q => ∃ a b us vs, x = .ref a ∧ y = .ref b ∧ SqT X.K H a us ∧ SqT X.K H b vs ∧ us.length + vs.length ≤ sizeLine ∧ (us = [] → Q (.ref b) H) ∧ (vs = [] → Q (.ref a) H) ∧ TupQ H Q (us ++ vs)) := by
  rintro pins s σ H x y v u Q I rx ry ⟨a, b, us, vs, rfl, rfl, ha, hb, hz, q0, q1, q2⟩
  cases rx; cases ry
  obtain ⟨ws, r1, p1, _⟩ := I.tuple ha
  obtain ⟨zs, r2, p2, _⟩ := I.tuple hb
  by_cases hu : us = []
  · have e : ws = [] := r1.nil_iff.mpr hu
    rw [e] at p1
    exact cat_tup0 p1 p2 ⟨.ref b, H, I, rfl, q0 hu⟩
  · exact HT.cat_tup p1 p2 (fun e => hu (r1.nil_iff.mp e)) (fun e => ⟨.ref a, H, I, rfl, q1 (r2.nil_iff.mp e)⟩) (fun _ => tup_laid (t' := s.toks) I (r1.append r2) (by rw [List.length_append]; exact hz) q2) (by rw [← r1.length, ← r2.length]; exact hz)
theorem sliN : L2.SlR X (fun x lo hi H Q => ∃ a us, x = .ref a ∧ SqT X.K H a us ∧ (HT.sIx us.length 0 lo = 0 ∧ HT.sIx us.length us.length hi = us.length → Q (.ref a) H) ∧ TupQ H Q (cutV us lo hi)) := by
  rintro pins s σ H x v vl vu lo hi sl Q I rx hs pl pu ⟨a, us, rfl, hx, q1, q2⟩
  by_cases hw : HT.sIx us.length 0 lo = 0 ∧ HT.sIx us.length us.length hi = us.length
  · exact sl_tupA pins s σ H _ v vl vu lo hi sl Q I rx hs pl pu ⟨a, us, rfl, hx, q1, fun n => absurd hw n⟩
  · cases rx
    obtain ⟨ws, r, ht, hz⟩ := I.tuple hx
    have hl : ws.toArray.size = us.length := by rw [List.size_toArray]; exact r.length.symm
    refine ⟨"tuple", _, PyProof.Rows.slot_tuple_getitem.lookup, ht.typeIs, HT.getItem_tuple_cut ht hs pl pu (by rw [hl]; exact hw) ?_ (by rw [hl]; exact hz)⟩
    rw [hl]
    exact tup_laid (t' := s.toks) I ((r.drop (HT.sIx us.length 0 lo)).take (HT.sIx us.length us.length hi - HT.sIx us.length 0 lo)) (Nat.le_trans (cutV_length us lo hi) hz) q2
theorem ofN : CallR X (.type "tuple") (fun xs H Q => ∃ p us, xs = [.ref p] ∧ ((SqL X.K H p us ∧ TupQ H Q us) ∨ (SqT X.K H p us ∧ Q (.ref p) H))) := by
  rintro pins s σ H xs ws Q I r ⟨p, us, rfl, h⟩
  obtain ⟨u, rfl, rx⟩ := vals1 r
  cases rx
  rcases h with ⟨hq, q⟩ | ⟨hq, q⟩
  · obtain ⟨ws, r', pl, hz⟩ := I.list hq
    have hlen := r'.length
    refine call_tuple_list pl.isList (fun h' kp => ?_) (by simp only [List.size_toArray] <;> omega)
    have I1 : Inv X pins σ H { s with heap := h' } := I.kept (t' := s.toks) kp
    exact tup_laid (t' := s.toks) I1 r' hz q
  · obtain ⟨ws, r', pl, hz⟩ := I.tuple hq
    exact call_tuple_same pl ⟨.ref p, H, I, rfl, q⟩
theorem partN : MtR X "str.partition" (fun x xs H Q => ∃ a b, x = .str a ∧ xs = [.str b] ∧ (b.length == 0) = false ∧ a.length ≤ sizeLine ∧ TupQ H Q [.str (Txt.partition a b).1, .str (Txt.partition a b).2.1, .str (Txt.partition a b).2.2]) := by
  rintro pins s σ H x xs v us Q I rx rs ⟨a, b, rfl, rfl, hb, hz, h⟩
  obtain ⟨t, rfl⟩ := rx
  obtain ⟨u, rfl, r1⟩ := vals1 rs
  obtain ⟨u, rfl⟩ := r1
  refine call_meets F.slot_str_partition (typeIs_str _ _ _) F.entry_str_partition (F.args_str_partition_2 _ _) (meets_str_partition a b t u hb hz) ?_
  unfold Txt.partition at h
  revert h
  cases Builtin.Str.occurrences a b 0 a.length 1 with
  | nil => exact fun h => parts_laid I h
  | cons i r => exact fun h => parts_laid I h
/-- t * k -/
theorem mulN : OpR X (binaryOp .Mult) (fun x y H Q => ∃ a k us, x = .ref a ∧ y = .int k ∧ SqT X.K H a us ∧ us ≠ [] ∧ 2 ≤ k ∧ k ≤ 1000 ∧ us.length ≤ 1000 ∧ TupQ H Q (List.replicate k.toNat us).flatten) := by
  rintro pins s σ H x y v u Q I rx ry ⟨a, k, us, rfl, rfl, ha, hne, k1, k2, hz, q⟩
  cases rx
  obtain ⟨t, rfl⟩ := ry
  obtain ⟨ws, r, ⟨⟨cl, dd, dt, sl⟩, ho, hc, n, hd⟩, _⟩ := I.tuple ha
  dsimp only at hc hd
  subst hc; subst hd
  have hl : ws.length = us.length := r.length.symm
  have hw : ws ≠ [] := fun e => hne (r.nil_iff.mp e)
  have hi : ws.toArray.isEmpty = false := by
    cases ws with
    | nil => exact absurd rfl hw
    | cons _ _ => rfl
  have hsz : ws.toArray.size = us.length := by rw [List.size_toArray, hl]
  have hm : ((ws.toArray.size : Nat) : Int) * k ≤ 1000000 := by
    rw [hsz]
    have b1 : ((us.length : Nat) : Int) * k ≤ 1000 * k := Int.mul_le_mul_of_nonneg_right (by omega) (by omega)
    omega
  have flen : k.toNat * us.length ≤ 1000000 := Nat.mul_le_mul (by omega : k.toNat ≤ 1000) hz
  have z0 : (decide (k < -(2 ^ 63)) || decide (k ≥ 2 ^ 63)) = false := by
    rw [Bool.or_eq_false_iff]; exact ⟨decide_eq_false (by omega), decide_eq_false (by omega)⟩
  have z1 : (ws.toArray.isEmpty || k == 1) = false := by
    rw [Bool.or_eq_false_iff]; exact ⟨hi, beq_eq_false_iff_ne.mpr (by omega)⟩
  have z2 : (decide (k ≤ 0) || ws.toArray.isEmpty) = false := by
    rw [Bool.or_eq_false_iff]; exact ⟨decide_eq_false (by omega), hi⟩
  have z4 : Builtin.Tuple.tupleTooMany (((ws.toArray.size : Nat) : Int) * k) = false := by
    unfold Builtin.Tuple.tupleTooMany
    rw [sizeLine_eq]; exact decide_eq_false (by omega)
  have zs : (List.foldl (fun x1 x2 => x1 ++ x2) #[] (List.replicate k.toNat ws.toArray)).size ≤ sizeLine := by
    rw [size_rep, List.size_toArray, PyProof.Rows.lm_len_rep_flat, hl, sizeLine_eq]; omega
  have hT : s.TypeIs (.ref a) "tuple" := ⟨_, ho, rfl⟩
  have inner := call_meets (prog := X.prog) (w := X.w) (A := X.A) (E := X.xe) (s := s) (Q := EP X pins σ Q) F.slot_tuple_mul hT F.entry_tuple_mul (F.args_tuple_mul_2 _ _) (tuple_mulW a ws.toArray n dd sl k t z0 z1 z2 (by omega) z4 zs) ⟨ho, by
    rw [size_rep]
    exact tup_laid (t' := s.toks) I (r.rep k.toNat) (by rw [PyProof.Rows.lm_len_rep_flat, sizeLine_eq]; omega) q⟩
  exact wpAny_binaryOp_repeat_ref (T := "tuple") (U := "int") (by decide) ⟨_, ho, rfl⟩ (fun s' => typeIs_int s' k t) noFill_tuple_mul F.fills_int_mul F.slot_int_rmul repeat_tuple F.slot_int_index.lookup
    (call_meets F.slot_int_rmul (typeIs_int s k t) F.entry_int_rmul (F.args_int_rmul_2 _ _) (int_rmul_tuple k t a ws.toArray n dd sl) ⟨ho, rfl, ⟨_, ho, rfl⟩, inner⟩)
end
/-! ### bools that are reckoned with -/
theorem gives_add_bl (a : Bool) (b : Int) (u : Tok) : Gives (Builtin.«int.__add__» ⟨[.bool a, .int b u], []⟩) (.int ((if a = true then (1 : Int) else 0) + b)) :=
  .of_wp fun M A E s Q h => by obtain ⟨hp, g, d, tk, os⟩ := s; wp_walk; exact ⟨_, rfl, h⟩
theorem gives_sub_bl (a : Bool) (b : Int) (u : Tok) : Gives (Builtin.«int.__sub__» ⟨[.bool a, .int b u], []⟩) (.int ((if a = true then (1 : Int) else 0) - b)) :=
  .of_wp fun M A E s Q h => by obtain ⟨hp, g, d, tk, os⟩ := s; wp_walk; exact ⟨_, rfl, h⟩
theorem same_int_bool_sub : reflectedDiffers (.type "int") (.type "bool") "sub" = pure false := by
  unfold reflectedDiffers
  show (typeLookup (.type "bool") (dunderR "sub") >>= fun rb => typeLookup (.type "int") (dunderR "sub") >>= fun ra => pure (rb.isSome && rb != ra)) = pure false
  rw [typeLookup_type, typeLookup_type, builtinLookup_eq_fast]; kernel_rfl
section
variable {prog : Program} {w : World} {A : Around} {E : Value → Shared → Prop} {s : Shared} {a : Bool} {b : Int} {u : Tok} {Q : Value → Shared → Prop}
theorem add_bl_int (h : Q (.int ((if a = true then (1 : Int) else 0) + b) s.toks) { s with toks := s.toks + 1 }) : wpAny (model prog w) A (binaryOp .Add (.bool a) (.int b u)) Q E s :=
  binaryOp_left_gives (op := .Add) (T := "bool") (U := "int") (idr := "int.__radd__") (by decide) rfl (fun s' => typeIs_int s' b u) F.fills_bool_add F.fills_int_add sub_int_bool F.slot_bool_add F.slot_int_radd F.entry_int_add (F.args_int_add_2 _ _) (gives_add_bl a b u) trivial h
theorem sub_bl_int (h : Q (.int ((if a = true then (1 : Int) else 0) - b) s.toks) { s with toks := s.toks + 1 }) : wpAny (model prog w) A (binaryOp .Sub (.bool a) (.int b u)) Q E s :=
  binaryOp_left_gives (op := .Sub) (T := "bool") (U := "int") (idr := "int.__rsub__") (by decide) rfl (fun s' => typeIs_int s' b u) F.fills_bool_sub F.fills_int_sub sub_int_bool F.slot_bool_sub F.slot_int_rsub F.entry_int_sub (F.args_int_sub_2 _ _) (gives_sub_bl a b u) trivial h
theorem sub_int_bl (h : Q (.int (b - if a = true then (1 : Int) else 0) s.toks) { s with toks := s.toks + 1 }) : wpAny (model prog w) A (binaryOp .Sub (.int b u) (.bool a)) Q E s :=
  binaryOp_sub_gives (op := .Sub) (T := "int") (U := "bool") (by decide) (typeIs_int s b u) rfl F.fills_int_sub F.fills_bool_sub isSubtype_bool_int same_int_bool_sub F.slot_int_sub F.entry_int_sub (F.args_int_sub_2 _ _) (AutoIntG7.int___sub___int_bool_0 b u a) trivial h
end
end EV
end STup
section SPrim2
set_option Elab.async false
set_option linter.all false
set_option maxRecDepth 100000
set_option maxHeartbeats 2000000
namespace EV
open PySem PySem.Spec PyProof.Rows L2
section
variable {W : Wd} {X : Cx}
/-- two arguments -/
theorem args2 {H : Hp} {Z : Addr → Prop} {us : List V} {d e : D} (a : ArgRs W H Z us [d, e]) : ∃ x y, us = [x, y] ∧ ArgR W H Z x d ∧ ArgR W H Z y e := by
  cases a with | cons a1 a => cases a with | cons a2 a => cases a; exact ⟨_, _, rfl, a1, a2⟩
theorem args1 {H : Hp} {Z : Addr → Prop} {us : List V} {d : D} (a : ArgRs W H Z us [d]) : ∃ x, us = [x] ∧ ArgR W H Z x d := by
  cases a with | cons a1 a => cases a; exact ⟨_, rfl, a1⟩
theorem ite_some {α : Type} {c : Bool} {a b : α} (h : (if c = true then some a else none) = some b) : c = true ∧ a = b := by
  cases c with
  | true => exact ⟨rfl, by simpa using h⟩
  | false => cases h
theorem RepDs.nil_of {K : PySem.W.Frag} {H : Hp} {Z : Addr → Prop} {us : List V} {ds : List D} (h : RepDs K H Z us ds) (e : us = []) : ds = [] := by subst e; cases h; rfl
theorem NewV.arg {H : Hp} {Z : Addr → Prop} {u : V} {ds : List D} (hz : ∀ a, Z a → H a ≠ none) (h : ArgR W H Z u (.tuple ds)) : NewV W H Z u (PR.val (.dat (.tuple ds))) H Z := by
  cases h with | dat r => exact NewV.here hz r
theorem prim_add (G : Good W X) : PrimR W .add (rd2 X (binaryOp .Add)) := by
  intro H Z us ds res Q hz A hp hq
  have hp : pAdd ds = some res := hp
  unfold pAdd at hp
  split at hp
  · obtain ⟨x, y, rfl, h1, h2⟩ := args2 A
    cases h1.int; cases h2.int; cases hp
    exact ⟨_, _, rfl, BOp.of op_add ⟨_, _, rfl, rfl, hq _ _ _ (NewV.at hz (.int _))⟩⟩
  · obtain ⟨x, y, rfl, h1, h2⟩ := args2 A
    cases h1.str; cases h2.str
    obtain ⟨hc, rfl⟩ := ite_some hp
    exact ⟨_, _, rfl, BOp.of op_add_str ⟨_, _, rfl, rfl, fit_le hc, hq _ _ _ (NewV.at hz (.str _))⟩⟩
  · obtain ⟨x, y, rfl, h1, h2⟩ := args2 A
    obtain ⟨a, us, rfl, t1, r1⟩ := h1.tup
    obtain ⟨b, vs, rfl, t2, r2⟩ := h2.tup
    obtain ⟨hc, rfl⟩ := ite_some hp
    refine ⟨_, _, rfl, BOp.of catN ⟨_, _, us, vs, rfl, rfl, by rw [G.K]; exact t1, by rw [G.K]; exact t2, by rw [r1.length, r2.length]; exact fit_le hc, fun e => ?_, fun e => ?_, fun p o hn ho => ?_⟩⟩
    · have := r1.nil_of e; subst this
      exact hq _ _ _ (NewV.arg hz h2)
    · have := r2.nil_of e; subst this
      exact hq _ _ _ (by rw [List.append_nil]; exact NewV.arg hz h1)
    · exact hq _ _ _ (NewV.tup hn ho hz (r1.append r2))
  · obtain ⟨x, y, rfl, h1, h2⟩ := args2 A
    obtain ⟨a, us, rfl, t1, r1⟩ := h1.lst
    obtain ⟨b, vs, rfl, t2, r2⟩ := h2.lst
    obtain ⟨hc, rfl⟩ := ite_some hp
    exact ⟨_, _, rfl, BOp.of op_cat ⟨_, _, us, vs, rfl, rfl, t1, t2, by rw [r1.length, r2.length]; exact fit_le hc, fun p hn => hq _ _ _ (NewV.list hn hz (r1.append r2))⟩⟩
  · obtain ⟨x, y, rfl, h1, h2⟩ := args2 A
    cases h1.bl; cases h2.int; cases hp
    refine ⟨_, _, rfl, fun pins s σ v u I rx ry => ?_⟩
    cases (show v = Value.bool _ from rx)
    obtain ⟨t, rfl⟩ := ry
    exact add_bl_int ⟨.int _, H, I.tok _, ⟨_, rfl⟩, hq _ _ _ (NewV.at hz (.int _))⟩
  · cases hp
theorem prim_sub (G : Good W X) : PrimR W .sub (rd2 X (binaryOp .Sub)) := by
  intro H Z us ds res Q hz A hp hq
  have hp : pSub ds = some res := hp
  unfold pSub at hp
  split at hp
  · obtain ⟨x, y, rfl, h1, h2⟩ := args2 A
    cases h1.bl; cases h2.int; cases hp
    refine ⟨_, _, rfl, fun pins s σ v u I rx ry => ?_⟩
    cases (show v = Value.bool _ from rx)
    obtain ⟨t, rfl⟩ := ry
    exact sub_bl_int ⟨.int _, H, I.tok _, ⟨_, rfl⟩, hq _ _ _ (NewV.at hz (.int _))⟩
  · obtain ⟨x, y, rfl, h1, h2⟩ := args2 A
    cases h1.int; cases h2.bl; cases hp
    refine ⟨_, _, rfl, fun pins s σ v u I rx ry => ?_⟩
    cases (show u = Value.bool _ from ry)
    obtain ⟨t, rfl⟩ := rx
    exact sub_int_bl ⟨.int _, H, I.tok _, ⟨_, rfl⟩, hq _ _ _ (NewV.at hz (.int _))⟩
  · obtain ⟨x, y, rfl, h1, h2⟩ := args2 A
    cases h1.int; cases h2.int; cases hp
    exact ⟨_, _, rfl, BOp.of op_sub ⟨_, _, rfl, rfl, hq _ _ _ (NewV.at hz (.int _))⟩⟩
  · cases hp
theorem prim_mul (G : Good W X) : PrimR W .mul (rd2 X (binaryOp .Mult)) := by
  intro H Z us ds res Q hz A hp hq
  have hp : pMul ds = some res := hp
  unfold pMul at hp
  split at hp
  · obtain ⟨x, y, rfl, h1, h2⟩ := args2 A
    cases h1.int; cases h2.int
    obtain ⟨hc, rfl⟩ := ite_some hp
    refine ⟨_, _, rfl, BOp.of op_mul ⟨_, _, rfl, rfl, ?_, hq _ _ _ (NewV.at hz (.int _))⟩⟩
    rcases Bool.or_eq_true _ _ ▸ hc with h | h
    · exact .inl (small_lt h)
    · exact .inr (small_lt h)
  · obtain ⟨x, y, rfl, h1, h2⟩ := args2 A
    obtain ⟨a, us, rfl, t1, r1⟩ := h1.tup
    cases h2.int
    obtain ⟨hc, rfl⟩ := ite_some hp
    simp only [Bool.and_eq_true, decide_eq_true_eq] at hc
    obtain ⟨⟨⟨c1, c2⟩, c3⟩, c4⟩ := hc
    refine ⟨_, _, rfl, BOp.of mulN ⟨_, _, us, rfl, rfl, by rw [G.K]; exact t1, fun e => ?_, c1, c2, by rw [r1.length]; exact c4, fun p o hn ho => hq _ _ _ (NewV.tup hn ho hz (r1.rep _))⟩⟩
    have := r1.nil_of e; subst this; simp at c3
  · obtain ⟨x, y, rfl, h1, h2⟩ := args2 A
    obtain ⟨a, us, rfl, t1, r1⟩ := h1.lst
    cases h2.int
    obtain ⟨hc, rfl⟩ := ite_some hp
    simp only [Bool.and_eq_true, decide_eq_true_eq] at hc
    obtain ⟨⟨c1, c2⟩, c3⟩ := hc
    exact ⟨_, _, rfl, BOp.of op_rep ⟨_, _, us, rfl, rfl, t1, c1, c2, by rw [r1.length]; exact fit_le c3, fun p hn => hq _ _ _ (NewV.list hn hz (r1.rep _))⟩⟩
  · cases hp
theorem prim_fdiv (G : Good W X) : PrimR W .fdiv (rd2 X (binaryOp .FloorDiv)) := by
  intro H Z us ds res Q hz A hp hq
  have hp : pFdiv ds = some res := hp
  unfold pFdiv at hp
  split at hp
  · obtain ⟨x, y, rfl, h1, h2⟩ := args2 A
    cases h1.int; cases h2.int
    obtain ⟨hc, rfl⟩ := ite_some hp
    simp only [Bool.and_eq_true, decide_eq_true_eq] at hc
    exact ⟨_, _, rfl, BOp.of op_fdivW ⟨_, _, rfl, rfl, wide_div (b := 64) hc.1 (of_decide_eq_true hc.2) (by decide) (by decide), hq _ _ _ (NewV.at hz (.int _))⟩⟩
  · cases hp
theorem prim_mod (G : Good W X) : PrimR W .mod (rd2 X (binaryOp .Mod)) := by
  intro H Z us ds res Q hz A hp hq
  have hp : pMod ds = some res := hp
  unfold pMod at hp
  split at hp
  · obtain ⟨x, y, rfl, h1, h2⟩ := args2 A
    cases h1.int; cases h2.int
    split at hp
    · rename_i hc
      cases hp
      exact ⟨_, _, rfl, BOp.of op_mod ⟨_, _, rfl, rfl, hc, hq _ _ _ (NewV.at hz (.int _))⟩⟩
    · cases hp
  · cases hp
theorem prim_pow (G : Good W X) : PrimR W .pow (rd2 X (binaryOp .Pow)) := by
  intro H Z us ds res Q hz A hp hq
  have hp : pPow ds = some res := hp
  unfold pPow at hp
  split at hp
  · obtain ⟨x, y, rfl, h1, h2⟩ := args2 A
    cases h1.int; cases h2.int
    obtain ⟨hc, rfl⟩ := ite_some hp
    simp only [Bool.and_eq_true, decide_eq_true_eq] at hc
    exact ⟨_, _, rfl, BOp.of op_pow ⟨_, _, rfl, rfl, ⟨hc.1.1, hc.1.2, of_decide_eq_true hc.2⟩, hq _ _ _ (NewV.at hz (.int _))⟩⟩
  · cases hp
theorem prim_neg (G : Good W X) : PrimR W .neg (rd1 X (unaryOp .USub)) := by
  intro H Z us ds res Q hz A hp hq
  have hp : pNeg ds = some res := hp
  unfold pNeg at hp
  split at hp
  · obtain ⟨x, rfl, h1⟩ := args1 A
    cases h1.int; cases hp
    exact ⟨_, rfl, BUn.of un_neg ⟨_, rfl, hq _ _ _ (NewV.at hz (.int _))⟩⟩
  · cases hp
/-- ==, !=: by Reads -/
theorem reads_of {pins : List (Addr × Obj)} {σ : L2.St} {H : Hp} {s : Shared} {Z : Addr → Prop} {x : V} {v : Value} {d : D} (G : Good W X) (I : Inv X pins σ H s) (rx : RelV x v) (h : ArgR W H Z x d) (e : d.canLay0 = true) : ∃ as, Reads s.heap v d as :=
  Dp.reads I d x v (by rw [G.K]; exact h.dp e) rx
theorem un_of (G : Good W X) {a b : D} (h : min a.depth b.depth ≤ deepD) : X.A.units + min a.depth b.depth < cLine := by
  have := G.un
  unfold deepD at h
  omega
theorem eqvAll_len : ∀ (a b : List D), PyData.eqvAll a b = true → a.length = b.length
  | [], [], _ => rfl
  | x :: a, y :: b, h => by
    rw [PyData.eqvAll, Bool.and_eq_true] at h
    rw [List.length_cons, List.length_cons, eqvAll_len a b h.2]
  | [], _ :: _, h => by cases h
  | _ :: _, [], h => by cases h
/-- told by the lengths: the two objects -/
theorem len_both {pins : List (Addr × Obj)} {σ : L2.St} {H : Hp} {s : Shared} {Z : Addr → Prop} {x y : V} {v u : Value} {a b : D} (G : Good W X) (I : Inv X pins σ H s) (rx : RelV x v) (ry : RelV y u) (h1 : ArgR W H Z x a) (h2 : ArgR W H Z y b) (e : lenOk a b = true) :
    SeqAt.RcAt X.A s v u (PyData.eqv a b) ∧ SeqAt.RcNeAt X.A s v u (!PyData.eqv a b) := by
  have hun : X.A.units < cLine := by have := G.un; omega
  unfold lenOk at e
  split at e
  · rename_i xs ys
    obtain ⟨p, us, rfl, p1, r1⟩ := h1.lst
    obtain ⟨q, vs, rfl, q1, r2⟩ := h2.lst
    cases (show v = Value.ref _ from rx)
    cases (show u = Value.ref _ from ry)
    obtain ⟨ws, n, k1, g1, _⟩ := I.lst p1
    obtain ⟨zs, m, k2, g2, _⟩ := I.lst q1
    have hne : xs.length ≠ ys.length := by simpa using e
    have l1 := k1.length
    have l2 := k2.length
    have l3 := r1.length
    have l4 := r2.length
    have hs : (ws.toArray.size != zs.toArray.size) = true := by
      simp only [List.size_toArray, bne_iff_ne, ne_eq]; omega
    have ev : PyData.eqv (.list xs) (.list ys) = false := by
      cases h : PyData.eqv (.list xs) (.list ys) with
      | false => rfl
      | true => rw [PyData.eqv] at h; exact absurd (eqvAll_len _ _ h) hne
    rw [ev]
    exact ⟨SeqAt.RcAt.lists_lengths ⟨_, g1, rfl, _, rfl⟩ ⟨_, g2, rfl, _, rfl⟩ hs hun, SeqAt.RcNeAt.lists_lengths ⟨_, g1, rfl, _, rfl⟩ ⟨_, g2, rfl, _, rfl⟩ hs hun⟩
  · rename_i xs ys
    obtain ⟨p, us, rfl, p1, r1⟩ := h1.tup
    obtain ⟨q, vs, rfl, q1, r2⟩ := h2.tup
    cases (show v = Value.ref _ from rx)
    cases (show u = Value.ref _ from ry)
    obtain ⟨ws, k1, g1, _⟩ := I.tuple (X := X) (by rw [G.K]; exact p1)
    obtain ⟨zs, k2, g2, _⟩ := I.tuple (X := X) (by rw [G.K]; exact q1)
    have l1 := k1.length
    have l2 := k2.length
    have l3 := r1.length
    have l4 := r2.length
    have hmin : min ws.toArray.size zs.toArray.size = 0 := by
      simp only [List.size_toArray]
      rcases Bool.or_eq_true _ _ ▸ e with h | h
      · have : xs.length = 0 := by rw [List.isEmpty_iff.mp h]; rfl
        omega
      · have : ys.length = 0 := by rw [List.isEmpty_iff.mp h]; rfl
        omega
    have ev : PyData.eqv (.tuple xs) (.tuple ys) = ((List.range (min ws.toArray.size zs.toArray.size)).all (fun _ => true) && ws.toArray.size == zs.toArray.size) := by
      rw [hmin, List.range_zero, List.all_nil, Bool.true_and, PyData.eqv]
      simp only [List.size_toArray]
      rw [show ws.length = xs.length by omega, show zs.length = ys.length by omega]
      rcases Bool.or_eq_true _ _ ▸ e with h | h
      · rw [List.isEmpty_iff.mp h]
        cases ys with
        | nil => rfl
        | cons y ys => rfl
      · rw [List.isEmpty_iff.mp h]
        cases xs with
        | nil => rfl
        | cons y ys => rfl
    rw [ev]
    have he : ∀ j (h1 : j < ws.toArray.size) (h2 : j < zs.toArray.size), SeqAt.EqAt X.A.in1 s ws.toArray[j] zs.toArray[j] ((fun _ => true) j) := fun j a1 a2 => by omega
    exact ⟨SeqAt.RcAt.tuples g1 g2 hun he, SeqAt.RcNeAt.tuples g1 g2 hun he⟩
  · rename_i xs ys
    obtain rfl := h1.str
    obtain rfl := h2.str
    obtain ⟨_, rfl⟩ := rx
    obtain ⟨_, rfl⟩ := ry
    have ev : PyData.eqv (.str xs) (.str ys) = (xs == ys) := by simp [PyData.eqv]
    rw [ev]
    exact ⟨SeqAt.RcAt.str_str _ _ _ _, SeqAt.RcNeAt.str_str _ _ _ _⟩
  · cases e
theorem eq_len {pins : List (Addr × Obj)} {σ : L2.St} {H : Hp} {s : Shared} {Z : Addr → Prop} {x y : V} {v u : Value} {a b : D} {Q : VK} (G : Good W X) (I : Inv X pins σ H s) (rx : RelV x v) (ry : RelV y u) (h1 : ArgR W H Z x a) (h2 : ArgR W H Z y b) (e : lenOk a b = true)
    (hq : Q (.bl (PyData.eqv a b)) H) : wpAny (model X.prog X.w) X.A (compareOp .Eq v u) (EP X pins σ Q) X.xe s :=
  (len_both G I rx ry h1 h2 e).1 X.prog X.w X.xe _ ⟨.bl _, H, I, rfl, hq⟩
theorem ne_len {pins : List (Addr × Obj)} {σ : L2.St} {H : Hp} {s : Shared} {Z : Addr → Prop} {x y : V} {v u : Value} {a b : D} {Q : VK} (G : Good W X) (I : Inv X pins σ H s) (rx : RelV x v) (ry : RelV y u) (h1 : ArgR W H Z x a) (h2 : ArgR W H Z y b) (e : lenOk a b = true)
    (hq : Q (.bl (!PyData.eqv a b)) H) : wpAny (model X.prog X.w) X.A (compareOp .NotEq v u) (EP X pins σ Q) X.xe s :=
  (len_both G I rx ry h1 h2 e).2 X.prog X.w X.xe _ ⟨.bl _, H, I, rfl, hq⟩
theorem prim_eq (G : Good W X) : PrimR W .eq (rd2 X (compareOp .Eq)) := by
  intro H Z us ds res Q hz A hp hq
  have hp : pEq ds = some res := hp
  unfold pEq at hp
  split at hp
  · obtain ⟨x, y, rfl, h1, h2⟩ := args2 A
    obtain ⟨hc, rfl⟩ := ite_some hp
    refine ⟨_, _, rfl, fun pins s σ v u I rx ry => ?_⟩
    have q := hq _ _ _ (NewV.at hz (.bl _))
    unfold eqOk at hc
    rcases Bool.or_eq_true _ _ ▸ hc with h | h
    · exact eq_len G I rx ry h1 h2 h q
    · simp only [Bool.and_eq_true, decide_eq_true_eq] at h
      obtain ⟨as, ra⟩ := reads_of G I rx h1 h.1.1
      obtain ⟨bs, rb⟩ := reads_of G I ry h2 h.1.2
      exact SeqAt.compareEq_reads ra rb h.1.1 h.1.2 (un_of G h.2) ⟨.bl _, H, I, rfl, q⟩
  · cases hp
theorem prim_ne (G : Good W X) : PrimR W .ne (rd2 X (compareOp .NotEq)) := by
  intro H Z us ds res Q hz A hp hq
  have hp : pNe ds = some res := hp
  unfold pNe at hp
  split at hp
  · obtain ⟨x, y, rfl, h1, h2⟩ := args2 A
    obtain ⟨hc, rfl⟩ := ite_some hp
    refine ⟨_, _, rfl, fun pins s σ v u I rx ry => ?_⟩
    have q := hq _ _ _ (NewV.at hz (.bl _))
    unfold eqOk at hc
    rcases Bool.or_eq_true _ _ ▸ hc with h | h
    · exact ne_len G I rx ry h1 h2 h q
    · simp only [Bool.and_eq_true, decide_eq_true_eq] at h
      obtain ⟨as, ra⟩ := reads_of G I rx h1 h.1.1
      obtain ⟨bs, rb⟩ := reads_of G I ry h2 h.1.2
      exact SeqAt.compareNe_reads ra rb h.1.1 h.1.2 (un_of G h.2) ⟨.bl _, H, I, rfl, q⟩
  · cases hp
theorem cmp_all {op : CmpOp} {f : D → D → Bool} (G : Good W X)
    (rule : ∀ {A : Around} {E : Value → Shared → Prop} {s : Shared} {a b : Value} {da db : D} {as bs : List Addr} {Q : Value → Shared → Prop}, Reads s.heap a da as → Reads s.heap b db bs → PySem.W.alike da db = true → da ≠ .none → A.units + min da.depth db.depth < cLine → Q (.bool (f da db)) s → wpAny (model X.prog X.w) A (compareOp op a b) Q E s)
    {H : Hp} {Z : Addr → Prop} {us : List V} {a b : D} {res : PR} {Q : VK} (hz : ∀ a, Z a → H a ≠ none) (A : ArgRs W H Z us [a, b]) (hp : (if cmpOk a b = true then some (PR.dat (.bool (f a b))) else none) = some res)
    (hq : ∀ u H' Z', NewV W H Z u res.val H' Z' → Q u H') : rd2 X (compareOp op) us H Q := by
  obtain ⟨x, y, rfl, h1, h2⟩ := args2 A
  obtain ⟨hc, rfl⟩ := ite_some hp
  refine ⟨_, _, rfl, fun pins s σ v u I rx ry => ?_⟩
  unfold cmpOk at hc
  simp only [Bool.and_eq_true, decide_eq_true_eq] at hc
  obtain ⟨⟨⟨⟨l1, l2⟩, l3⟩, l4⟩, l5⟩ := hc
  obtain ⟨as, ra⟩ := reads_of G I rx h1 l1
  obtain ⟨bs, rb⟩ := reads_of G I ry h2 l2
  exact rule ra rb l3 (fun z => by rw [z] at l4; exact absurd l4 (by decide)) (un_of G l5) ⟨.bl _, H, I, rfl, hq _ _ _ (NewV.at hz (.bl _))⟩
theorem prim_lt (G : Good W X) : PrimR W .lt (rd2 X (compareOp .Lt)) := by
  intro H Z us ds res Q hz A hp hq
  have hp : pLt ds = some res := hp
  unfold pLt at hp
  split at hp
  · exact cmp_all (f := fun a b => PySem.W.dataLt a b) G (fun a b c d e f => PySem.W.lt_data a b c d e f) hz A hp hq
  · cases hp
theorem prim_gt (G : Good W X) : PrimR W .gt (rd2 X (compareOp .Gt)) := by
  intro H Z us ds res Q hz A hp hq
  have hp : pGt ds = some res := hp
  unfold pGt at hp
  split at hp
  · exact cmp_all (f := fun a b => PySem.W.dataLt b a) G (fun a b c d e f => PySem.W.gt_data a b c d e f) hz A hp hq
  · cases hp
theorem prim_le (G : Good W X) : PrimR W .le (rd2 X (compareOp .LtE)) := by
  intro H Z us ds res Q hz A hp hq
  have hp : pLe ds = some res := hp
  unfold pLe at hp
  split at hp
  · exact cmp_all (f := fun a b => !PySem.W.dataLt b a) G (fun a b c d e f => PySem.W.le_data a b c d e f) hz A hp hq
  · cases hp
theorem prim_ge (G : Good W X) : PrimR W .ge (rd2 X (compareOp .GtE)) := by
  intro H Z us ds res Q hz A hp hq
  have hp : pGe ds = some res := hp
  unfold pGe at hp
  split at hp
  · exact cmp_all (f := fun a b => !PySem.W.dataLt a b) G (fun a b c d e f => PySem.W.ge_data a b c d e f) hz A hp hq
  · cases hp
end
end EV
end SPrim2
section SSnd6
set_option Elab.async false
set_option linter.all false
set_option maxRecDepth 100000
set_option maxHeartbeats 1000000
namespace EV
open PySem PySem.Spec PyProof.Rows L2
def noStar : Expr → Bool
  | .Starred _ _ => false
  | _ => true
theorem star_of {e : Expr} {es : List Expr} {env : PySem.Env} (h : noStar e = true) : starEach (e :: es) env = (false, eval e env) :: starEach es env := by
  cases e <;> first | rfl | cases h
section
variable {W : Wd} {X : Cx} {Wx : WX} {r : Rec}
theorem BE.mono {e : Expr} {σ : L2.St} {H : Hp} {Q Q' : VK} (h : ∀ v H, Q v H → Q' v H) (q : BE X e σ H Q) : BE X e σ H Q' := fun pins s I => wpAny_mono (q pins s I) (fun _ _ ⟨v, H', I', rv, q'⟩ => ⟨v, H', I', rv, h _ _ q'⟩) fun _ _ x => x
theorem BEs.pa : ∀ (es : List Expr), es.all noStar = true → PA X es (BEs X es)
  | [], _ => ⟨pa_nil.run⟩
  | e :: es, h => by
    have h' : noStar e = true ∧ es.all noStar = true := by simpa using h
    exact ⟨(pa_cons (te := BE X e) (t := BEs X es) BE.pe (BEs.pa es h'.2) (star_of h'.1)).run⟩
theorem be2 {a b : Expr} {f : Value → Value → Sem Value} {σ : L2.St} {H : Hp} {Q : VK} (q : BEs X [a, b] σ H (fun us H1 => rd2 X f us H1 Q)) : tOp (BOp X f) (BE X a) (BE X b) σ H Q := by
  refine BE.mono (fun u H1 q1 => BE.mono (fun w H2 q2 => ?_) q1) q
  obtain ⟨x, y, e, q3⟩ := q2
  cases e
  exact q3
theorem be1 {a : Expr} {f : Value → Sem Value} {σ : L2.St} {H : Hp} {Q : VK} (q : BEs X [a] σ H (fun us H1 => rd1 X f us H1 Q)) : tUn (BUn X f) (BE X a) σ H Q := by
  refine BE.mono (fun u H1 q1 => ?_) q
  obtain ⟨x, e, q3⟩ := q1
  cases e
  exact q3
theorem snd_binop {p : Prim} {a b : Expr} {op : Operator} {pos : Pos} {es' : List Ex} (P : PrimR W p (rd2 X (binaryOp op))) (A : ArgSs W X Wx r [a, b] es') : SndE W X Wx (.BinOp a op b pos) (fun ρ => (evDs r es' ρ).bind (prOut p)) :=
  snd_pr A P fun _ _ _ q => BE.of (pe_op BOp.ok BE.pe BE.pe) (be2 q)
theorem snd_unop {p : Prim} {a : Expr} {op : UnaryOp} {pos : Pos} {es' : List Ex} (P : PrimR W p (rd1 X (unaryOp op))) (A : ArgSs W X Wx r [a] es') : SndE W X Wx (.UnaryOp op a pos) (fun ρ => (evDs r es' ρ).bind (prOut p)) :=
  snd_pr A P fun _ _ _ q => BE.of (pe_un BUn.ok BE.pe) (be1 q)
theorem snd_cmp {p : Prim} {a b : Expr} {op : CmpOp} {pos : Pos} {es' : List Ex} (P : PrimR W p (rd2 X (compareOp op))) (hm : behindInMarks op b = false) (A : ArgSs W X Wx r [a, b] es') : SndE W X Wx (.Compare a [op] [b] pos) (fun ρ => (evDs r es' ρ).bind (prOut p)) :=
  snd_pr A P fun _ _ _ q => BE.of (pe_cmpR BOp.ok BE.pe BE.pe hm) (be2 q)
theorem prOut_T {p : Prim} {ds : List D} {ρ : Env} (h : (prOut p ds ρ).bind boolR ≠ .stuck) : ∃ b, psem p ds = some (.dat (.bool b)) ∧ (prOut p ds ρ).bind boolR = .ok b ρ := by
  unfold prOut at h ⊢
  cases e : psem p ds with
  | none => rw [e] at h; exact absurd rfl h
  | some v =>
    rw [e] at h
    cases v with
    | dat d =>
      cases d with
      | bool b => exact ⟨b, rfl, rfl⟩
      | _ => exact absurd rfl h
    | _ => exact absurd rfl h
/-- a rule that gives True or False, as a test -/
theorem snd_prT {p : Prim} {e : Expr} {es : List Expr} {es' : List Ex} {rd : List V → Hp → VK → Prop} (A : ArgSs W X Wx r es es') (P : PrimR W p rd)
    (hb : ∀ σ H Q, BEs X es σ H (fun us H1 => rd us H1 fun u H2 => ∃ k, u = .bl k ∧ Q k H2) → BT X e σ H Q) : SndT W X Wx e (fun ρ => ((evDs r es' ρ).bind (prOut p)).bind boolR) := by
  intro Z σ H ρ Fs Q R ns hk hx
  have e0 : ((evDs r es' ρ).bind (prOut p)).bind boolR = (evDs r es' ρ).bind fun ds ρ => (prOut p ds ρ).bind boolR := bind_bind _ _ _
  have ns' : ((evDs r es' ρ).bind fun ds ρ => (prOut p ds ρ).bind boolR) ≠ .stuck := by rw [← e0]; exact ns
  have hx' : Exd W Wx H Z Fs σ ((evDs r es' ρ).bind fun ds ρ => (prOut p ds ρ).bind boolR) := by rw [← e0]; exact hx
  refine hb σ H Q (snd_Ds_bind A R ns' hx' fun ds ρ1 us H1 Z1 Fs1 q n a _ ns1 _ => ?_)
  obtain ⟨b, hp, e1⟩ := prOut_T ns1
  refine P H1 Z1 us ds _ _ n.r.zok a hp fun u H' Z' nv => ?_
  obtain ⟨n2, F, nv2⟩ := nv.nxt n.r
  have hv := nv2.v
  cases hv with
  | dat rd =>
    cases rd
    refine ⟨b, rfl, hk b ρ1 ?_ H' Z' Fs1 (n.trans n2)⟩
    show ((evDs r es' ρ).bind (prOut p)).bind boolR = _
    rw [e0, bind_ok q]
    exact e1
theorem snd_cmpT {p : Prim} {a b : Expr} {op : CmpOp} {pos : Pos} {es' : List Ex} (P : PrimR W p (rd2 X (compareOp op))) (hm : behindInMarks op b = false) (A : ArgSs W X Wx r [a, b] es') : SndT W X Wx (.Compare a [op] [b] pos) (fun ρ => ((evDs r es' ρ).bind (prOut p)).bind boolR) :=
  snd_prT A P fun _ _ _ q => BT.of (pt_cmpR BOp.ok BE.pe BE.pe hm) (be2 q)
/-- a tuple, a list of written items -/
theorem snd_tup {es : List Expr} {es' : List Ex} {k : Nat} {pos : Pos} (A : ArgSs W X Wx r es es') (hs : es.all noStar = true) (hp : noPk es' = true) (hl : es.length ≤ 1000) : SndE W X Wx (.Tuple es k pos) (fun ρ => (evDs r es' ρ).bind fun ds ρ => .ok (.dat (.tuple ds)) ρ) := by
  intro Z σ H ρ Fs Q R ns hk hx
  refine BE.of (dispN (BEs.pa es hs)) ?_
  show BEs X es σ H _
  have len : ∀ {es : List Expr} {Q : List V → Hp → Prop} {σ : L2.St} {H : Hp}, BEs X es σ H (fun us H1 => us.length = es.length → Q us H1) → BEs X es σ H Q := by
    intro es
    induction es with
    | nil => exact fun q => q rfl
    | cons e es ih => exact fun q => BE.mono (fun u H1 q1 => ih (BEs.mono (fun us H2 q2 z => q2 (by rw [List.length_cons, List.length_cons, z])) q1)) q
  refine len (snd_Ds_bind A R ns hx fun ds ρ1 us H1 Z1 Fs1 q n a a2 ns1 _ => fun hlen => ⟨by rw [hlen, sizeLine_eq]; omega, fun p o hn ho => ?_⟩)
  obtain ⟨n2, F, nv2⟩ := (NewV.tup hn ho n.r.zok (a2 hp)).nxt n.r
  exact hk _ ρ1 (bind_ok q) _ _ _ _ F (n.trans n2) (NV.trans n nv2)
theorem snd_lst {es : List Expr} {es' : List Ex} {pos : Pos} (A : ArgSs W X Wx r es es') (hs : es.all noStar = true) (hp : noPk es' = true) (hl : es.length ≤ 1000) : SndE W X Wx (.List es pos) (fun ρ => (evDs r es' ρ).bind fun ds ρ => .ok (.ol ds) ρ) := by
  intro Z σ H ρ Fs Q R ns hk hx
  refine BE.of (pe_lst (BEs.pa es hs)) ?_
  show BEs X es σ H _
  have len : ∀ {es : List Expr} {Q : List V → Hp → Prop} {σ : L2.St} {H : Hp}, BEs X es σ H (fun us H1 => us.length = es.length → Q us H1) → BEs X es σ H Q := by
    intro es
    induction es with
    | nil => exact fun q => q rfl
    | cons e es ih => exact fun q => BE.mono (fun u H1 q1 => ih (BEs.mono (fun us H2 q2 z => q2 (by rw [List.length_cons, List.length_cons, z])) q1)) q
  refine len (snd_Ds_bind A R ns hx fun ds ρ1 us H1 Z1 Fs1 q n a a2 ns1 _ => fun hlen => ⟨by rw [hlen, sizeLine_eq]; omega, fun p hn => ?_⟩)
  obtain ⟨n2, F, nv2⟩ := (NewV.list hn n.r.zok (a2 hp)).nxt n.r
  exact hk _ ρ1 (bind_ok q) _ _ _ _ F (n.trans n2) (NV.trans n nv2)
end
end EV
end SSnd6
section SSnd7
set_option Elab.async false
set_option linter.all false
set_option maxRecDepth 100000
set_option maxHeartbeats 1000000
namespace EV
open PySem PySem.Spec PyProof.Rows L2
section
variable {W : Wd} {X : Cx} {Wx : WX} {r : Rec}
theorem evDs_len {r : Rec} : ∀ (es : List Ex) (ρ ρ1 : Env) (ds : List D), evDs r es ρ = .ok ds ρ1 → ds.length = es.length := by
  intro es
  induction es with
  | nil => intro ρ ρ1 ds h; cases h; rfl
  | cons e es ih =>
    intro ρ ρ1 ds h
    by_cases hp : ∃ i, e = .pk i
    · obtain ⟨i, rfl⟩ := hp
      unfold evDs at h
      split at h
      · cases h2 : evDs r es ρ with
        | ok ds2 ρ2 =>
          rw [h2] at h
          have h' : (match peek ρ2 i with | some d => Out.ok (d :: ds2) ρ2 | none => .stuck) = .ok ds ρ1 := h
          cases h3 : peek ρ2 i with
          | none => rw [h3] at h'; cases h'
          | some d => rw [h3] at h'; cases h'; simp [ih _ _ _ h2]
        | exc _ _ _ => rw [h2] at h; cases h
        | stuck => rw [h2] at h; cases h
      · cases h
    · have hne : ∀ i, e ≠ .pk i := fun i q => hp ⟨i, q⟩
      have e1 : evDs r (e :: es) ρ = (r.e e ρ).bind fun v ρ => match v.data with | some d => (evDs r es ρ).bind fun ds ρ => .ok (d :: ds) ρ | none => .stuck := by
        cases e <;> first | exact absurd rfl (hne _) | rfl
      rw [e1] at h
      cases h2 : r.e e ρ with
      | ok v ρ2 =>
        rw [h2] at h
        have h' : (match v.data with | some d => (evDs r es ρ2).bind fun ds ρ => Out.ok (d :: ds) ρ | none => .stuck) = .ok ds ρ1 := h
        cases h3 : v.data with
        | none => rw [h3] at h'; cases h'
        | some d =>
          rw [h3] at h'
          cases h4 : evDs r es ρ2 with
          | ok ds2 ρ3 =>
            have h'' : (evDs r es ρ2).bind (fun ds ρ => Out.ok (d :: ds) ρ) = .ok ds ρ1 := h'
            rw [h4] at h''; cases h''; simp [ih _ _ _ h4]
          | exc _ _ _ =>
            have h'' : (evDs r es ρ2).bind (fun ds ρ => Out.ok (d :: ds) ρ) = .ok ds ρ1 := h'
            rw [h4] at h''; cases h''
          | stuck =>
            have h'' : (evDs r es ρ2).bind (fun ds ρ => Out.ok (d :: ds) ρ) = .ok ds ρ1 := h'
            rw [h4] at h''; cases h''
      | exc _ _ _ => rw [h2] at h; cases h
      | stuck => rw [h2] at h; cases h
theorem chain_rd {p q : Prim} {a b c : Expr} {a' b' c' : Ex} {op op' : CmpOp} (P : PrimR W p (rd2 X (compareOp op))) (P' : PrimR W q (rd2 X (compareOp op'))) (A : ArgSs W X Wx r [a, b] [a', b']) (Ac : ArgSs W X Wx r [c] [c'])
    {Z : Addr → Prop} {σ : L2.St} {H : Hp} {ρ : Env} {Fs : Nat → List Addr} {Q : VK} (R : RelE W H Z σ ρ Fs) (ns : evChain r p q a' b' c' ρ ≠ .stuck) (hx : Exd W Wx H Z Fs σ (evChain r p q a' b' c' ρ))
    (hk : ∀ k ρ', evChain r p q a' b' c' ρ = .ok k ρ' → ∀ H' Z' Fs', Nxt W H Z Fs σ ρ' H' Z' Fs' → Q (.bl k) H') : tChain (BOp X (compareOp op)) (BOp X (compareOp op')) (BE X a) (BE X b) (BE X c) σ H Q := by
  have main : BEs X [a, b] σ H (fun us H1 => ∃ x y, us = [x, y] ∧ BOp X (compareOp op) x y H1 fun z H3 => ∃ k, z = .bl k ∧ (if k = true then BE X c σ H3 fun w' H4 => BOp X (compareOp op') y w' H4 Q else Q (.bl false) H3)) := by
    refine snd_Ds_bind A R ns hx fun ds ρ1 us H1 Z1 Fs1 q1 n1 a1 _ ns1 hx1 => ?_
    have ns2 := Out.bind_ns ns1
    obtain ⟨k, hp, e1⟩ := prOut_T ns2
    have hl := evDs_len _ _ _ _ q1
    obtain ⟨dx, dy, rfl⟩ : ∃ dx dy, ds = [dx, dy] := by
      match ds, hl with
      | [dx, dy], _ => exact ⟨dx, dy, rfl⟩
    obtain ⟨x, y, rfl, ax, ay⟩ := args2 a1
    refine ⟨x, y, rfl, ?_⟩
    have pr := P H1 Z1 [x, y] [dx, dy] _ (fun z H3 => ∃ k, z = .bl k ∧ (if k = true then BE X c σ H3 fun w' H4 => BOp X (compareOp op') y w' H4 Q else Q (.bl false) H3)) n1.r.zok (.cons ax (.cons ay .nil)) hp fun u H' Z' nv => ?_
    · obtain ⟨x', y', e, q⟩ := pr
      cases e
      exact q
    · obtain ⟨n2, F, nv2⟩ := nv.nxt n1.r
      have hv := nv2.v
      cases hv with
      | dat rd =>
        cases rd
        refine ⟨k, rfl, ?_⟩
        have N := n1.trans n2
        have e2 : evChain r p q a' b' c' ρ = cond k ((ofO (sndInt [dx, dy]) ρ1).bind fun y ρ => (evDs r [c'] ρ).bind fun cs ρ => (prOut q (.int y :: cs) ρ).bind boolR) (.ok false ρ1) := by
          unfold evChain
          rw [bind_ok q1, bind_ok e1]
        rw [e2] at ns hx
        cases k with
        | false =>
          rw [if_neg (by decide)]
          exact hk false ρ1 e2 H' Z' Fs1 N
        | true =>
          rw [if_pos rfl]
          have ns3 : ((ofO (sndInt [dx, dy]) ρ1).bind fun y ρ => (evDs r [c'] ρ).bind fun cs ρ => (prOut q (.int y :: cs) ρ).bind boolR) ≠ .stuck := ns
          obtain ⟨m, hm, em⟩ := ofO_ns (Out.bind_ns ns3)
          have hx3 : Exd W Wx H Z Fs σ ((evDs r [c'] ρ1).bind fun cs ρ => (prOut q (.int m :: cs) ρ).bind boolR) := by
            have := hx
            simp only [cond, bind_ok em] at this
            exact this
          simp only [bind_ok em] at ns3
          have e3 : evChain r p q a' b' c' ρ = (evDs r [c'] ρ1).bind fun cs ρ => (prOut q (.int m :: cs) ρ).bind boolR := by
            rw [e2]; simp only [cond, bind_ok em]
          -- y is the int m
          have hy : dy = .int m := by
            unfold sndInt at hm
            split at hm
            · rename_i h; cases h; cases hm; rfl
            · cases hm
          subst hy
          cases ay.int
          have hx4 : Exd W Wx H' Z' Fs1 σ ((evDs r [c'] ρ1).bind fun cs ρ => (prOut q (.int m :: cs) ρ).bind boolR) := fun c fs ρ' q cls d H2 Z2 Fs2 n' x => hx3 c fs ρ' q cls d H2 Z2 Fs2 (N.trans n') x
          have fin : BEs X [c] σ H' (fun us H4 => ∃ w, us = [w] ∧ BOp X (compareOp op') (.int m) w H4 Q) := by
            refine snd_Ds_bind Ac N.r ns3 hx4 fun cs ρ2 us H4 Z4 Fs4 q4 n4 a4 _ ns5 _ => ?_
            obtain ⟨k2, hp2, e5⟩ := prOut_T ns5
            have pr2 := P' H4 Z4 (.int m :: us) (.int m :: cs) _ Q n4.r.zok (.cons (.dat (.int m)) a4) hp2 fun u H5 Z5 nv5 => ?_
            · obtain ⟨x', y', e, q⟩ := pr2
              cases e
              exact ⟨_, rfl, q⟩
            · obtain ⟨n5, F5, nv5'⟩ := nv5.nxt n4.r
              have hv5 := nv5'.v
              cases hv5 with
              | dat rd5 =>
                cases rd5
                exact hk k2 ρ2 (by rw [e3, bind_ok q4]; exact e5) H5 Z5 Fs4 (N.trans (n4.trans n5))
          exact BE.mono (fun w H4 q => by obtain ⟨w', e, q'⟩ := q; cases e; exact q') fin
  refine BE.mono (fun u H1 q1 => BE.mono (fun w H2 q2 => ?_) q1) main
  obtain ⟨x, y, e, q3⟩ := q2
  cases e
  exact q3
end
end EV
end SSnd7
section SSnd8
set_option Elab.async false
set_option linter.all false
set_option maxRecDepth 100000
set_option maxHeartbeats 1000000
namespace EV
open PySem PySem.Spec PyProof.Rows L2
/-- slots that are not to be bound anew -/
def Pin (pin : List Nat) (σ σ' : L2.St) : Prop := ∀ j ∈ pin, σ'[j]? = σ[j]?
theorem Pin.refl {pin : List Nat} {σ : L2.St} : Pin pin σ σ := fun _ _ => rfl
theorem Pin.trans {pin : List Nat} {a b c : L2.St} (x : Pin pin a b) (y : Pin pin b c) : Pin pin a c := fun j h => (y j h).trans (x j h)
/-- where a flow leads -/
def FlP (W : Wd) (D : Ends) (H : Hp) (Fs : Nat → List Addr) (fl : Fl) (σ' : L2.St) (H' : Hp) (Z' : Addr → Prop) (Fs' : Nat → List Addr) : Prop :=
  match fl with
  | .nx => D.nx σ' H'
  | .bk => D.bk σ' H'
  | .ct => D.ct σ' H'
  | .rt v => ∀ u F, NV W H Fs H' Z' Fs' u v F → D.rt u H'
def ExdS (W : Wd) (Wx : WX) (pin : List Nat) (H : Hp) (Z : Addr → Prop) (Fs : Nat → List Addr) (σ : L2.St) {α : Type} (o : Out α) : Prop :=
  ∀ c fs ρ', o = .exc c fs ρ' → ∀ cls d σ' H' Z' Fs', Nxt W H Z Fs σ' ρ' H' Z' Fs' → Pin pin σ σ' → ExcR W H' Z' c fs cls d → Wx cls d σ' H'
/-- sound statements; Bx: BS of a statement, BSs of a block -/
def SndSx {τ : Type} (Bx : Cx → τ → TS) (W : Wd) (X : Cx) (Wx : WX) (pin : List Nat) (st : τ) (f : Env → Out Fl) : Prop :=
  ∀ (Z : Addr → Prop) (σ : L2.St) (H : Hp) (ρ : Env) (Fs : Nat → List Addr) (D : Ends), RelE W H Z σ ρ Fs → f ρ ≠ .stuck →
    (∀ fl ρ', f ρ = .ok fl ρ' → ∀ σ' H' Z' Fs', Nxt W H Z Fs σ' ρ' H' Z' Fs' → Pin pin σ σ' → FlP W D H Fs fl σ' H' Z' Fs') → ExdS W Wx pin H Z Fs σ (f ρ) → Bx X st D σ H
abbrev SndS := SndSx BS
abbrev SndSs := SndSx BSs
section
variable {W : Wd} {X : Cx} {Wx : WX} {r : Rec} {pin : List Nat}
theorem ExdS.e {H : Hp} {Z : Addr → Prop} {Fs : Nat → List Addr} {σ : L2.St} {α : Type} {o : Out α} (h : ExdS W Wx pin H Z Fs σ o) : Exd W Wx H Z Fs σ o := fun c fs ρ' q cls d H' Z' Fs' n x => h c fs ρ' q cls d σ H' Z' Fs' n .refl x
theorem ExdS.fst {α β : Type} {H : Hp} {Z : Addr → Prop} {Fs : Nat → List Addr} {σ : L2.St} {o : Out α} {f : α → Env → Out β} (h : ExdS W Wx pin H Z Fs σ (o.bind f)) : ExdS W Wx pin H Z Fs σ o := by
  intro c fs ρ' q
  exact h c fs ρ' (by rw [q]; rfl)
theorem ExdS.bind {α β : Type} {H H1 : Hp} {Z Z1 : Addr → Prop} {Fs Fs1 : Nat → List Addr} {σ σ1 : L2.St} {o : Out α} {f : α → Env → Out β} {a : α} {ρ1 : Env} (h : ExdS W Wx pin H Z Fs σ (o.bind f)) (e : o = .ok a ρ1) (n : Nxt W H Z Fs σ1 ρ1 H1 Z1 Fs1) (p : Pin pin σ σ1) : ExdS W Wx pin H1 Z1 Fs1 σ1 (f a ρ1) := by
  intro c fs ρ' q cls d σ' H' Z' Fs' n' p' x
  exact h c fs ρ' (by rw [e]; exact q) cls d σ' H' Z' Fs' (n.trans n') (p.trans p') x
theorem FlP.later {D : Ends} {H H1 H' : Hp} {Z Z1 Z' : Addr → Prop} {Fs Fs1 Fs' : Nat → List Addr} {fl : Fl} {σ1 σ' : L2.St} {ρ1 : Env} (n : Nxt W H Z Fs σ1 ρ1 H1 Z1 Fs1) (h : FlP W D H Fs fl σ' H' Z' Fs') : FlP W D H1 Fs1 fl σ' H' Z' Fs' := by
  cases fl with
  | nx => exact h
  | bk => exact h
  | ct => exact h
  | rt v => exact fun u F nv => h u F (NV.trans n nv)
/-- a name that is stored -/
structure SetOk (X : Cx) (i : Nat) (x : Str) : Prop where
  at_ : X.N[i]? = some x
  loc : Loc X.env.scope x
  fn : X.fn x = true ∨ X.env.scope.names.lookup x = some .local
theorem RelE.set {H : Hp} {Z : Addr → Prop} {σ : L2.St} {ρ : Env} {Fs : Nat → List Addr} {i : Nat} {u : V} {v : Val} {F : List Addr} (R : RelE W H Z σ ρ Fs) (rv : RepV W H Z u v F) (d : ∀ a ∈ F, ¬ Ow Fs a) (hi : i < ρ.length) :
    RelE W H Z (σ.set i (some u)) (ρ.set i (some v)) (updF Fs i F) := by
  have hs : i < σ.length := by rw [R.len]; exact hi
  refine ⟨by simp [R.len], fun j w q => ?_, fun j h => ?_, fun j k a h1 h2 => ?_, R.zok⟩
  · by_cases hj : j = i
    · subst hj
      rw [List.getElem?_set_self hi] at q; cases q
      exact ⟨u, by rw [List.getElem?_set_self hs], by rw [updF_same]; exact rv⟩
    · rw [List.getElem?_set_ne (Ne.symm hj)] at q
      obtain ⟨u', h1, r'⟩ := R.val j w q
      exact ⟨u', by rw [List.getElem?_set_ne (Ne.symm hj)]; exact h1, by rw [updF_ne hj]; exact r'⟩
  · by_cases hj : j = i
    · subst hj
      exact absurd (by rw [List.getElem?_set_self hi]) (h v)
    · rw [updF_ne hj]
      exact R.nov j fun w q => h w (by rw [List.getElem?_set_ne (Ne.symm hj)]; exact q)
  · by_cases g1 : j = i
    · by_cases g2 : k = i
      · rw [g1, g2]
      · subst g1; rw [updF_same] at h1; rw [updF_ne g2] at h2; exact absurd ⟨k, h2⟩ (d a h1)
    · by_cases g2 : k = i
      · subst g2; rw [updF_same] at h2; rw [updF_ne g1] at h1; exact absurd ⟨j, h1⟩ (d a h2)
      · rw [updF_ne g1] at h1; rw [updF_ne g2] at h2; exact R.dis j k a h1 h2
theorem ow_upd {Fs : Nat → List Addr} {i : Nat} {F : List Addr} {a : Addr} (h : Ow (updF Fs i F) a) : a ∈ F ∨ Ow Fs a := by
  obtain ⟨j, m⟩ := h
  by_cases g : j = i
  · subst g; rw [updF_same] at m; exact .inl m
  · rw [updF_ne g] at m; exact .inr ⟨j, m⟩
/-- a state with a value, stored -/
theorem Nxt.set' {H H1 : Hp} {Z Z1 : Addr → Prop} {σ : L2.St} {ρ1 : Env} {Fs Fs1 : Nat → List Addr} {i : Nat} {u : V} {v : Val} {F : List Addr} (n : Nxt W H Z Fs σ ρ1 H1 Z1 Fs1) (nv : NV W H Fs H1 Z1 Fs1 u v F) (hi : i < ρ1.length) :
    Nxt W H Z Fs (σ.set i (some u)) (ρ1.set i (some v)) H1 Z1 (updF Fs1 i F) :=
  ⟨⟨n.e.pres, n.e.zm, n.e.zf, n.e.keep, fun a h => (ow_upd h).elim (nv.o a) (n.e.ofr a), n.e.zt⟩, n.r.set nv.v nv.d hi⟩
theorem Nxt.set {H H1 : Hp} {Z Z1 : Addr → Prop} {σ : L2.St} {ρ1 : Env} {Fs Fs1 : Nat → List Addr} {u : V} {v : Val} {F : List Addr} (n : Nxt W H Z Fs σ ρ1 H1 Z1 Fs1) (nv : NV W H Fs H1 Z1 Fs1 u v F) (i : Nat) :
    ∃ Fs', Nxt W H Z Fs (σ.set i (some u)) (ρ1.set i (some v)) H1 Z1 Fs' := by
  by_cases hi : i < ρ1.length
  · exact ⟨_, n.set' nv hi⟩
  · refine ⟨Fs1, ?_⟩
    have h1 : ρ1.length ≤ i := by omega
    have h2 : σ.length ≤ i := by rw [n.r.len]; exact h1
    rw [List.set_eq_of_length_le h1, List.set_eq_of_length_le h2]
    exact n
theorem pin_set {σ : L2.St} {i : Nat} {u : Option V} (h : i ∉ pin) : Pin pin σ (σ.set i u) := fun j m => by
  rw [List.getElem?_set_ne fun e => h (by rw [e]; exact m)]
/-- x = e -/
theorem snd_set {e : Expr} {e' : Ex} {i : Nat} {x : Str} {pos pos' : Pos} (hN : X.N.Nodup) (so : SetOk X i x) (hp : i ∉ pin) (hs : swapsWith e (some (.Name x pos')) pos.line X.env = pure false) (s : SndE W X Wx e (r.e e')) :
    SndS W X Wx pin (.Assign [.Name x pos'] e pos) (fun ρ => (r.e e' ρ).bind fun v ρ => .ok .nx (ρ.set i (some v))) := by
  intro Z σ H ρ Fs D R ns hk hx
  refine BS.of (ps_set hN so.at_ so.loc BE.pe hs so.fn) ?_
  refine s.bind R ns hx.e fun v ρ1 u H1 Z1 Fs1 F q n nv ns1 _ => ?_
  obtain ⟨Fs', n'⟩ := n.set nv i
  exact hk .nx _ (bind_ok q) _ H1 Z1 _ n' (pin_set hp)
/-- return e -/
theorem snd_ret {e : Expr} {e' : Ex} {pos : Pos} (s : SndE W X Wx e (r.e e')) : SndS W X Wx pin (.Return (some e) pos) (fun ρ => (r.e e' ρ).bind fun v ρ => .ok (.rt v) ρ) := by
  intro Z σ H ρ Fs D R ns hk hx
  refine BS.of (ps_ret BE.pe) ?_
  exact s.bind R ns hx.e fun v ρ1 u H1 Z1 Fs1 F q n nv ns1 _ => hk (.rt v) ρ1 (bind_ok q) σ H1 Z1 Fs1 n .refl u F nv
/-- an expression alone -/
theorem snd_expr {e : Expr} {e' : Ex} {pos : Pos} (hs : swapsWith e none pos.line X.env = pure false) (s : SndE W X Wx e (r.e e')) : SndS W X Wx pin (.Expr e pos) (fun ρ => (r.e e' ρ).bind fun _ ρ => .ok .nx ρ) := by
  intro Z σ H ρ Fs D R ns hk hx
  refine BS.of (ps_expr BE.pe hs) ?_
  exact s.bind R ns hx.e fun v ρ1 u H1 Z1 Fs1 F q n nv ns1 _ => hk .nx ρ1 (bind_ok q) σ H1 Z1 Fs1 n .refl
/-- blocks -/
theorem snd_nil : SndSs W X Wx pin [] (evSs r []) := by
  intro Z σ H ρ Fs D R ns hk hx
  exact BSs.of pss_nil (hk .nx ρ rfl σ H Z Fs (.refl R) .refl)
theorem snd_cons {st : Stmt} {sts : List Stmt} {s' : Sm} {ss' : List Sm} (s1 : SndS W X Wx pin st (r.s s')) (s2 : SndSs W X Wx pin sts (evSs r ss')) : SndSs W X Wx pin (st :: sts) (evSs r (s' :: ss')) := by
  intro Z σ H ρ Fs D R ns hk hx
  have e0 : evSs r (s' :: ss') ρ = (r.s s' ρ).bind fun f ρ => match f with | .nx => evSs r ss' ρ | f => .ok f ρ := rfl
  rw [e0] at ns hk hx
  refine BSs.of (pss_cons BS.ps BSs.pss) ?_
  refine s1 Z σ H ρ Fs _ R (Out.bind_ns ns) (fun fl ρ1 q σ1 H1 Z1 Fs1 n p => ?_) hx.fst
  rw [bind_ok q] at ns hk
  have hx1 := hx.bind q n p
  cases fl with
  | nx =>
    refine s2 Z1 σ1 H1 ρ1 Fs1 D n.r ns (fun fl ρ' q2 σ' H' Z' Fs' n2 p2 => ?_) hx1
    exact (hk fl ρ' q2 σ' H' Z' Fs' (n.trans n2) (p.trans p2)).later n
  | bk => exact hk .bk ρ1 rfl σ1 H1 Z1 Fs1 n p
  | ct => exact hk .ct ρ1 rfl σ1 H1 Z1 Fs1 n p
  | rt v => exact hk (.rt v) ρ1 rfl σ1 H1 Z1 Fs1 n p
/-- if -/
theorem snd_if {c : Expr} {c' : Ex} {a b : List Stmt} {a' b' : List Sm} {pos : Pos} (sc : SndT W X Wx c (evT r c')) (sa : SndSs W X Wx pin a (evSs r a')) (sb : SndSs W X Wx pin b (evSs r b')) :
    SndS W X Wx pin (.If c a b pos) (fun ρ => (evT r c' ρ).bind fun k ρ => cond k (evSs r a' ρ) (evSs r b' ρ)) := by
  intro Z σ H ρ Fs D R ns hk hx
  refine BS.of (ps_if BT.pt BSs.pss BSs.pss) ?_
  refine sc.bind (g := fun k ρ => cond k (evSs r a' ρ) (evSs r b' ρ)) R ns hx.e fun k ρ1 H1 Z1 Fs1 q n ns1 _ => ?_
  have hx1 := hx.bind q n .refl
  cases k with
  | true =>
    rw [if_pos rfl]
    exact sa Z1 σ H1 ρ1 Fs1 D n.r ns1 (fun fl ρ' q2 σ' H' Z' Fs' n2 p2 => (hk fl ρ' ((bind_ok q).trans q2) σ' H' Z' Fs' (n.trans n2) p2).later n) hx1
  | false =>
    rw [if_neg (by decide)]
    exact sb Z1 σ H1 ρ1 Fs1 D n.r ns1 (fun fl ρ' q2 σ' H' Z' Fs' n2 p2 => (hk fl ρ' ((bind_ok q).trans q2) σ' H' Z' Fs' (n.trans n2) p2).later n) hx1
theorem snd_pass {pos : Pos} : SndS W X Wx pin (.Pass pos) (fun ρ => .ok .nx ρ) := fun Z σ H ρ Fs D R ns hk hx => BS.of ps_pass (hk .nx ρ rfl σ H Z Fs (.refl R) .refl)
theorem snd_brk {pos : Pos} : SndS W X Wx pin (.Break pos) (fun ρ => .ok .bk ρ) := fun Z σ H ρ Fs D R ns hk hx => BS.of ps_break (hk .bk ρ rfl σ H Z Fs (.refl R) .refl)
theorem snd_cont {pos : Pos} : SndS W X Wx pin (.Continue pos) (fun ρ => .ok .ct ρ) := fun Z σ H ρ Fs D R ns hk hx => BS.of ps_continue (hk .ct ρ rfl σ H Z Fs (.refl R) .refl)
end
end EV
end SSnd8
section SSnd9
set_option Elab.async false
set_option linter.all false
set_option maxRecDepth 100000
set_option maxHeartbeats 1000000
namespace EV
open PySem PySem.Spec PyProof.Rows L2
/-- targets -/
def BG (X : Cx) (tg : Expr) : TG := fun v σ H Q => ∀ pins s u, Inv X pins σ H s → RelV v u → wpAny (model X.prog X.w) X.A (assign tg X.env u) (fun _ s' => ∃ σ' H', Inv X pins σ' H' s' ∧ Q σ' H') X.xe s
theorem BG.pg {X : Cx} {tg : Expr} : PG X tg (BG X tg) := ⟨fun pins s σ H v u Q I r h => h pins s u I r⟩
theorem BG.of {X : Cx} {tg : Expr} {g : TG} (h : PG X tg g) {v : V} {σ : L2.St} {H : Hp} {Q : L2.St → Hp → Prop} (q : g v σ H Q) : BG X tg v σ H Q := fun pins s u I r => h.run pins s σ H v u Q I r q
/-- what is walked over: data, or (pr) a pair that is taken apart at once -/
inductive RepI (pr : Bool) (W : Wd) (H : Hp) (Z : Addr → Prop) : V → D → Prop
  | dat {u : V} {d : D} : RepD W.K H Z u d → RepI pr W H Z u d
  | pair {a : Addr} {us : List V} {ds : List D} : pr = true → SqT W.K H a us → RepDs W.K H Z us ds → RepI pr W H Z (.ref a) (.tuple ds)
structure NewI (pr : Bool) (W : Wd) (H : Hp) (Z : Addr → Prop) (u : V) (d : D) (H' : Hp) (Z' : Addr → Prop) : Prop where
  pres : ∀ a o, H a = some o → H' a = some o
  zm : ∀ a, Z a → Z' a
  zf : ∀ a, Z' a → Z a ∨ H a = none
  r : RepI pr W H' Z' u d
  zt : ∀ a, Z' a → H' a ≠ none
def SndG (pr : Bool) (W : Wd) (X : Cx) (pin : List Nat) (tg : Expr) (t : Tgt) : Prop :=
  ∀ (Z : Addr → Prop) (σ : L2.St) (H : Hp) (ρ : Env) (Fs : Nat → List Addr) (u : V) (d : D) (ρ' : Env) (Q : L2.St → Hp → Prop), RelE W H Z σ ρ Fs → RepI pr W H Z u d → setTgt t d ρ = some ρ' →
    (∀ σ' Fs', Nxt W H Z Fs σ' ρ' H Z Fs' → Pin pin σ σ' → Q σ' H) → BG X tg u σ H Q
/-- the names of a tuple target -/
def TgNames (X : Cx) (pin : List Nat) : List Expr → List Nat → Prop
  | [], [] => True
  | e :: es, i :: is => (∃ x p, e = .Name x p ∧ SetOk X i x ∧ i ∉ pin) ∧ TgNames X pin es is
  | _, _ => False
section
variable {W : Wd} {X : Cx} {Wx : WX} {r : Rec} {pin : List Nat} {pr : Bool}
theorem NewI.nxt {H H' : Hp} {Z Z' : Addr → Prop} {σ : L2.St} {ρ : Env} {Fs : Nat → List Addr} {u : V} {d : D} (R : RelE W H Z σ ρ Fs) (n : NewI pr W H Z u d H' Z') : Nxt W H Z Fs σ ρ H' Z' Fs := by
  have kp : ∀ a, H' a = none → H a = none := fun a h => by
    cases q : H a with
    | none => rfl
    | some o => rw [n.pres a o q] at h; cases h
  have e : Ext H H' Z Z' (fun _ => False) (fun _ => False) := ⟨fun a o h _ => n.pres a o h, n.zm, fun a h => (n.zf a h).elim .inl fun z => .inr (.inl z), kp, fun _ h => h.elim, n.zt⟩
  exact ⟨⟨fun a o h _ => n.pres a o h, n.zm, fun a h => (n.zf a h).elim .inl fun z => .inr (.inl z), kp, fun a h => .inr h, n.zt⟩, R.ext e (fun a h => h.elim) fun a _ h => h⟩
theorem NewV.toI {H H' : Hp} {Z Z' : Addr → Prop} {u : V} {d : D} (n : NewV W H Z u (.dat d) H' Z') : NewI pr W H Z u d H' Z' := by
  obtain ⟨F, rv, _⟩ := n.v
  cases rv with
  | dat r => exact ⟨n.pres, n.zm, n.zf, .dat r, n.zt⟩
theorem nv_dat {H : Hp} {Z : Addr → Prop} {Fs Fs' : Nat → List Addr} {u : V} {d : D} (h : RepD W.K H Z u d) : NV W H Fs H Z Fs' u (.dat d) [] := ⟨.dat h, fun _ m => (by cases m), fun _ m => (by cases m)⟩
theorem snd_nm {i : Nat} {x : Str} {pos : Pos} (hN : X.N.Nodup) (so : SetOk X i x) (hp : i ∉ pin) : SndG false W X pin (.Name x pos) (.nm i) := by
  intro Z σ H ρ Fs u d ρ' Q R rd e hq
  have rd : RepD W.K H Z u d := by
    cases rd with
    | dat r => exact r
    | pair h _ _ => cases h
  cases e
  refine BG.of (pg_name hN so.at_ so.loc so.fn) ?_
  obtain ⟨Fs', n⟩ := (Nxt.refl R).set (nv_dat (Fs := Fs) (Fs' := Fs) rd) i
  exact hq _ Fs' n (pin_set hp)
theorem names_len (env : PySem.Env) : ∀ (es : List Expr) (is : List Nat), TgNames X pin es is → (assignEach es env).length = is.length ∧ (assignEach es env).findIdx? (·.1) = none
  | [], [], _ => ⟨rfl, rfl⟩
  | e :: es, i :: is, h => by
    obtain ⟨⟨x, p, rfl, _⟩, h⟩ := h
    obtain ⟨h1, h2⟩ := names_len env es is h
    have e0 : assignEach (.Name x p :: es) env = (false, assign (.Name x p) env) :: assignEach es env := rfl
    rw [e0]
    refine ⟨by simp [h1], ?_⟩
    rw [List.findIdx?_cons]
    simp [h2]
  | [], _ :: _, h => h.elim
  | _ :: _, [], h => h.elim
def BGs (X : Cx) (es : List Expr) : TGs := fun vs σ H Q => ∀ pins s us, Inv X pins σ H s → Vals vs us → wpAny (model X.prog X.w) X.A (assignInOrder ((assignEach es X.env).map (·.2)) us) (fun _ s' => ∃ σ' H', Inv X pins σ' H' s' ∧ Q σ' H') X.xe s
theorem BGs.pg {X : Cx} {es : List Expr} : PGs X es (BGs X es) := ⟨fun pins s σ H v u Q I r h => h pins s u I r⟩
theorem snd_names (hN : X.N.Nodup) : ∀ (es : List Expr) (is : List Nat), TgNames X pin es is → ∀ (Z : Addr → Prop) (σ : L2.St) (H : Hp) (ρ : Env) (Fs : Nat → List Addr) (us : List V) (ds : List D) (ρ' : Env) (Q : L2.St → Hp → Prop), RelE W H Z σ ρ Fs → RepDs W.K H Z us ds → setTup is ds ρ = some ρ' →
    (∀ σ' Fs', Nxt W H Z Fs σ' ρ' H Z Fs' → Pin pin σ σ' → Q σ' H) → BGs X es us σ H Q
  | [], [], _, Z, σ, H, ρ, Fs, us, ds, ρ', Q, R, rs, e, hq => by
    cases ds with
    | nil => cases e; cases rs; exact fun pins s us I r => pgs_nil.run pins s σ H [] us Q I r ⟨rfl, hq σ Fs (.refl R) .refl⟩
    | cons _ _ => cases e
  | ex :: es, i :: is, h, Z, σ, H, ρ, Fs, us, ds, ρ', Q, R, rs, e, hq => by
    obtain ⟨⟨x, p, rfl, so, hp⟩, h⟩ := h
    cases rs with
    | nil => cases e
    | cons rd rs =>
      rename_i u us d ds
      have e' : setTup is ds (ρ.set i (some (.dat d))) = some ρ' := e
      intro pins s vs I rv
      refine (pgs_cons (e := .Name x p) (es := es) (BG.pg (X := X)) BGs.pg).run pins s σ H _ vs Q I rv ⟨u, us, rfl, ?_⟩
      refine snd_nm (W := W) hN so hp Z σ H ρ Fs u d _ _ R (.dat rd) rfl fun σ1 Fs1 n1 p1 => ?_
      exact snd_names hN es is h Z σ1 H _ Fs1 us ds ρ' Q n1.r rs e' fun σ' Fs' n2 p2 => hq σ' Fs' (n1.trans n2) (p1.trans p2)
  | [], _ :: _, h, _, _, _, _, _, _, _, _, _, _, _, _, _ => h.elim
  | _ :: _, [], h, _, _, _, _, _, _, _, _, _, _, _, _, _ => h.elim
theorem snd_tgt {es : List Expr} {is : List Nat} {k : Nat} {pos : Pos} (eK : X.K = W.K) (hc : X.calm = true) (hN : X.N.Nodup) (h : TgNames X pin es is) : SndG pr W X pin (.Tuple es k pos) (.tup is) := by
  intro Z σ H ρ Fs u d ρ' Q R rd e hq
  cases d with
  | tuple ds =>
    obtain ⟨a, us, rfl, ht, rs⟩ : ∃ a us, u = .ref a ∧ SqT W.K H a us ∧ RepDs W.K H Z us ds := by
      cases rd with
      | dat rd => cases rd with | tup h0 _ rs => exact ⟨_, _, rfl, .inl (.inr ⟨_, h0⟩), rs⟩
      | pair _ ht rs => exact ⟨_, _, rfl, ht, rs⟩
    · clear rd
      obtain ⟨l1, l2⟩ := names_len X.env es is h
      have hl : ∀ (is : List Nat) (ds : List D) (ρ ρ' : Env), setTup is ds ρ = some ρ' → ds.length = is.length := by
        intro is
        induction is with
        | nil => intro ds ρ ρ' e; cases ds with
          | nil => rfl
          | cons _ _ => cases e
        | cons i is ih => intro ds ρ ρ' e; cases ds with
          | nil => cases e
          | cons d ds => have := ih ds _ _ (show setTup is ds (ρ.set i (some (.dat d))) = some ρ' from e); simp [this]
      refine BG.of (pg_tup hc BGs.pg l1 l2) ⟨_, _, rfl, by rw [eK]; exact ht, by rw [rs.length]; exact hl is ds ρ ρ' e, ?_⟩
      exact snd_names hN es is h Z σ H ρ Fs _ ds ρ' Q R rs e hq
  | _ => cases e

/-! ### what is walked -/
structure ItOk (pr : Bool) (W : Wd) (H1 : Hp) (Z1 : Addr → Prop) (J : It) (xs : List D) : Prop where
  go : ∀ i H Z, Stay H1 H Z1 Z → i < xs.length → J.go i H
  stop : ∀ H Z, Stay H1 H Z1 Z → J.stop xs.length H
  yld : ∀ i H Z x H' d, Stay H1 H Z1 Z → (∀ a, Z a → H a ≠ none) → xs[i]? = some d → J.yld i H x H' → ∃ Z', NewI pr W H Z x d H' Z'
def SndI (pr : Bool) (W : Wd) (X : Cx) (Wx : WX) (tg iter : Expr) (f : Env → Out (List D)) : Prop :=
  ∃ wi : TI, PI X tg iter wi ∧ ∀ (Z : Addr → Prop) (σ : L2.St) (H : Hp) (ρ : Env) (Fs : Nat → List Addr) (R : It → Hp → Prop), RelE W H Z σ ρ Fs → f ρ ≠ .stuck →
    (∀ xs ρ', f ρ = .ok xs ρ' → ∀ J H' Z' Fs', Nxt W H Z Fs σ ρ' H' Z' Fs' → ItOk pr W H' Z' J xs → R J H') → Exd W Wx H Z Fs σ (f ρ) → wi σ H R
/-- the turns of a for -/
theorem for_turns {J : It} {step : D → Env → Out Fl} {g : TG} {tb : TS} {D0 : Ends} (xs : List D) {H0 H1 : Hp} {Z0 Z1 : Addr → Prop} {σ0 σ1 : L2.St} {ρ1 : Env} {Fs0 Fs1 : Nat → List Addr} (n1 : Nxt W H0 Z0 Fs0 σ1 ρ1 H1 Z1 Fs1) (p1 : Pin pin σ0 σ1) (it : ItOk pr W H1 Z1 J xs) (ns : forLoop step xs ρ1 ≠ .stuck)
    (hk : ∀ fl ρ', forLoop step xs ρ1 = .ok fl ρ' → ∀ σ' H' Z' Fs', Nxt W H0 Z0 Fs0 σ' ρ' H' Z' Fs' → Pin pin σ0 σ' → FlP W D0 H0 Fs0 fl σ' H' Z' Fs') (hx : ExdS W Wx pin H0 Z0 Fs0 σ0 (forLoop step xs ρ1))
    (turn : ∀ (x : V) (d : D) (Z : Addr → Prop) (σ : L2.St) (H : Hp) (ρ : Env) (Fs : Nat → List Addr) (D : Ends), RelE W H Z σ ρ Fs → RepI pr W H Z x d → step d ρ ≠ .stuck →
      (∀ fl ρ', step d ρ = .ok fl ρ' → ∀ σ' H' Z' Fs', Nxt W H Z Fs σ' ρ' H' Z' Fs' → Pin pin σ σ' → FlP W D H Fs fl σ' H' Z' Fs') → ExdS W Wx pin H Z Fs σ (step d ρ) → g x σ H fun σ2 H2 => tb D σ2 H2) :
    ∃ W : Nat → Nat → L2.St → Hp → Prop, (∃ m, W 0 m σ1 H1) ∧ ∀ i m σ H, W i m σ H →
      (J.stop i H ∧ D0.nx σ H) ∨ (J.go i H ∧ ∃ N : L2.St → Hp → Prop, (∀ σ' H', N σ' H' → ∃ m', m' < m ∧ W (i + 1) m' σ' H') ∧ ∀ x H', J.yld i H x H' → g x σ H' fun σ2 H2 => tb { D0 with nx := N, ct := N, bk := D0.nx } σ2 H2) := by
  -- the state at turn i
  let Pv : Nat → L2.St → Hp → Prop := fun i σ H => ∃ Z ρ Fs, Nxt W H0 Z0 Fs0 σ ρ H Z Fs ∧ Pin pin σ0 σ ∧ Stay H1 H Z1 Z ∧ forLoop step (xs.drop i) ρ = forLoop step xs ρ1
  refine ⟨fun i m σ H => m = xs.length - i ∧ i ≤ xs.length ∧ Pv i σ H, ⟨_, rfl, Nat.zero_le _, Z1, ρ1, Fs1, n1, p1, ⟨fun _ h => h, fun _ _ h _ => h, fun _ _ h => h, fun _ _ _ h => h⟩, by simp⟩, ?_⟩
  rintro i m σ H ⟨rfl, hi, Z, ρ, Fs, n, p, st, e⟩
  by_cases hlt : i < xs.length
  · refine .inr ⟨it.go i H Z st hlt, Pv (i + 1), fun σ' H' p' => ⟨xs.length - (i + 1), by omega, rfl, hlt, p'⟩, fun x H' y => ?_⟩
    have hx0 : xs[i]? = some xs[i] := by simp [hlt]
    obtain ⟨Z', nv⟩ := it.yld i H Z x H' _ st n.r.zok hx0 y
    have n2 := nv.nxt n.r
    have rd := nv.r
    have N := n.trans n2
    have st2 : Stay H1 H' Z1 Z' := ⟨fun a h => nv.zm a (st.z a h), fun a o h z => nv.pres a o (st.k a o h z), fun a us h => nv.pres a _ (st.t a us h), fun a o u h => nv.pres a _ (st.f a o u h)⟩
    have e1 : forLoop step (xs.drop i) ρ = (step xs[i] ρ).bind fun f ρ => match f with | .nx => forLoop step (xs.drop (i + 1)) ρ | .ct => forLoop step (xs.drop (i + 1)) ρ | .bk => .ok .nx ρ | .rt v => .ok (.rt v) ρ := by
      rw [List.drop_eq_getElem_cons hlt]; rfl
    rw [e1] at e
    refine turn x xs[i] Z' σ H' ρ Fs _ N.r rd (fun z => ns (by rw [← e, z]; rfl)) (fun fl ρ2 q σ2 H2 Z2 Fs2 n3 p3 => ?_) fun c fs ρ2 q cls d σ2 H2 Z2 Fs2 n3 p3 x => ?_
    · rw [bind_ok q] at e
      have N3 := N.trans n3
      have st3 : Stay H1 H2 Z1 Z2 := by
        have s3 := n3.e.stay N.r.own
        exact ⟨fun a h => s3.z a (st2.z a h), fun a o h z => s3.k a o (st2.k a o h z) (st2.z a z), fun a us h => s3.t a us (st2.t a us h), fun a o u h => s3.f a o u (st2.f a o u h)⟩
      cases fl with
      | nx => exact ⟨Z2, ρ2, Fs2, N3, p.trans p3, st3, e⟩
      | ct => exact ⟨Z2, ρ2, Fs2, N3, p.trans p3, st3, e⟩
      | bk => exact hk .nx ρ2 e.symm σ2 H2 Z2 Fs2 N3 (p.trans p3)
      | rt v => exact fun u F nv => hk (.rt v) ρ2 e.symm σ2 H2 Z2 Fs2 N3 (p.trans p3) u F (NV.trans N nv)
    · exact hx c fs ρ2 (by rw [← e, q]; rfl) cls d σ2 H2 Z2 Fs2 (N.trans n3) (p.trans p3) x
  · have e2 : i = xs.length := by omega
    subst e2
    refine .inl ⟨it.stop H Z st, ?_⟩
    rw [List.drop_length] at e
    exact hk .nx ρ e.symm σ H Z Fs n p
/-- for -/
theorem snd_for {tg iter : Expr} {t : Tgt} {k : ItK} {as : List Ex} {body : List Stmt} {body' : List Sm} {pos : Pos} (po : PassesOwn (model X.prog X.w) X.A X.env X.xe) (hc : X.calm = true) (hfs : ∀ x, foldedSetIterable iter X.env x = pure x)
    (si : SndI pr W X Wx tg iter (evI r k as)) (sg : SndG pr W X pin tg t) (sb : SndSs W X Wx pin body (evSs r body')) :
    SndS W X Wx pin (.For tg iter body [] pos) (fun ρ => (evI r k as ρ).bind fun xs ρ => forLoop (fun x ρ => (ofO (setTgt t x ρ) ρ).bind fun ρ _ => evSs r body' ρ) xs ρ) := by
  intro Z σ H ρ Fs D R ns hk hx
  obtain ⟨wi, hi, hw⟩ := si
  refine BS.of (ps_for po hc hi BG.pg BSs.pss hfs) ?_
  refine hw Z σ H ρ Fs _ R (Out.bind_ns ns) (fun xs ρ1 q J H1 Z1 Fs1 n1 it => ?_) hx.fst.e
  have ns1 : forLoop (fun x ρ => (ofO (setTgt t x ρ) ρ).bind fun ρ _ => evSs r body' ρ) xs ρ1 ≠ .stuck := fun z => ns ((bind_ok q).trans z)
  refine for_turns (pin := pin) (Wx := Wx) xs n1 .refl it ns1 (fun fl ρ' q2 => hk fl ρ' ((bind_ok q).trans q2)) (fun c fs ρ' q2 => hx c fs ρ' ((bind_ok q).trans q2)) ?_
  intro x d Z σ H ρ Fs D R rd ns hk hx
  obtain ⟨ρ2, e2, e3⟩ := ofO_ns (Out.bind_ns ns)
  refine sg Z σ H ρ Fs x d ρ2 _ R rd e2 fun σ2 Fs2 n2 p2 => ?_
  have e4 : ((ofO (setTgt t d ρ) ρ).bind fun ρ _ => evSs r body' ρ) = evSs r body' ρ2 := by rw [e2]; rfl
  exact sb Z σ2 H ρ2 Fs2 D n2.r (fun z => ns (e4.trans z)) (fun fl ρ' q σ' H' Z' Fs' n p => (hk fl ρ' (e4.trans q) σ' H' Z' Fs' (n2.trans n) (p2.trans p)).later n2) fun c fs ρ' q cls d σ' H' Z' Fs' n p x => hx c fs ρ' (e4.trans q) cls d σ' H' Z' Fs' (n2.trans n) (p2.trans p) x
end
end EV
end SSnd9
section SSnd10
set_option Elab.async false
set_option linter.all false
set_option maxRecDepth 100000
set_option maxHeartbeats 1000000
namespace EV
open PySem PySem.Spec PyProof.Rows L2
/-! ### several values beside the slots -/
inductive NVs (W : Wd) (H' : Hp) (Z' : Addr → Prop) (Fs' : Nat → List Addr) : List V → List Val → List Addr → Prop
  | nil : NVs W H' Z' Fs' [] [] []
  | cons {u : V} {us : List V} {v : Val} {vs : List Val} {F G : List Addr} : RepV W H' Z' u v F → (∀ a ∈ F, ¬ Ow Fs' a) → (∀ a ∈ F, a ∉ G) → NVs W H' Z' Fs' us vs G → NVs W H' Z' Fs' (u :: us) (v :: vs) (F ++ G)
def AllE (W : Wd) (X : Cx) (Wx : WX) (r : Rec) (es : List Expr) (es' : List Ex) : Prop := All2 (fun e e' => SndE W X Wx e (r.e e')) es es'
section
variable {W : Wd} {X : Cx} {Wx : WX} {r : Rec} {pin : List Nat}
theorem snd_Vs : ∀ (es : List Expr) (es' : List Ex), AllE W X Wx r es es' → ∀ (Z : Addr → Prop) (σ : L2.St) (H : Hp) (ρ : Env) (Fs : Nat → List Addr) (Q : List V → Hp → Prop), RelE W H Z σ ρ Fs → evVs r es' ρ ≠ .stuck →
    (∀ vs ρ', evVs r es' ρ = .ok vs ρ' → ∀ us H' Z' Fs' F, Nxt W H Z Fs σ ρ' H' Z' Fs' → NVs W H' Z' Fs' us vs F → (∀ a ∈ F, H a = none ∨ Ow Fs a) → Q us H') → Exd W Wx H Z Fs σ (evVs r es' ρ) → BEs X es σ H Q := by
  intro es
  induction es with
  | nil =>
    intro es' A Z σ H ρ Fs Q R ns hk hx
    cases es' with
    | nil => exact hk [] ρ rfl [] H Z Fs [] (.refl R) .nil fun _ m => (by cases m)
    | cons _ _ => exact A.elim
  | cons e es ih =>
    intro es' A Z σ H ρ Fs Q R ns hk hx
    cases es' with
    | nil => exact A.elim
    | cons e' es' =>
      obtain ⟨A1, A2⟩ := A
      refine SndE.bind (f := r.e e') (g := fun v ρ => (evVs r es' ρ).bind fun vs ρ => .ok (v :: vs) ρ) A1 R ns hx fun v ρ1 u H1 Z1 Fs1 F q n nv ns1 hx1 => ?_
      refine ih es' A2 Z1 σ H1 ρ1 Fs1 _ n.r (Out.bind_ns ns1) (fun vs ρ' q2 us H' Z' Fs' G n2 nvs ho => ?_) hx1.fst
      have dF : ∀ a ∈ F, ¬ Ow Fs1 a := nv.d
      have rv := nv.v.ext n2.e n.r.own dF
      refine hk (v :: vs) ρ' ((bind_ok q).trans (bind_ok q2)) (u :: us) H' Z' Fs' (F ++ G) (n.trans n2) (.cons rv (fun a m q => ?_) (fun a m q => ?_) nvs) fun a m => ?_
      · rcases n2.e.ofr a q with h | h
        · exact own_ne nv.v.own a m h
        · exact dF a m h
      · rcases ho a q with h | h
        · exact own_ne nv.v.own a m h
        · exact dF a m h
      · rcases List.mem_append.mp m with m | m
        · exact nv.o a m
        · rcases ho a m with h | h
          · exact .inl (n.e.keep a h)
          · exact n.e.ofr a h
/-- values stored, one after another -/
def setVs : List Nat → List V → L2.St → L2.St
  | i :: is, u :: us, σ => setVs is us (σ.set i (some u))
  | _, _, σ => σ
theorem NVs.upd {H : Hp} {Z : Addr → Prop} {Fs : Nat → List Addr} {us : List V} {vs : List Val} {G : List Addr} (h : NVs W H Z Fs us vs G) {i : Nat} {F : List Addr} (d : ∀ a ∈ F, a ∉ G) : NVs W H Z (updF Fs i F) us vs G := by
  induction h with
  | nil => exact .nil
  | cons rv h1 h2 h3 ih =>
    refine .cons rv (fun a m q => ?_) h2 (ih fun a m q => d a m (List.mem_append.mpr (.inr q)))
    rcases ow_upd q with h | h
    · exact d a h (List.mem_append.mpr (.inl m))
    · exact h1 a m h
theorem set_all (is : List Nat) : ∀ (us : List V) (vs : List Val) {H H1 : Hp} {Z Z1 : Addr → Prop} {σ : L2.St} {ρ1 ρ2 : Env} {Fs Fs1 : Nat → List Addr} {G : List Addr}, Nxt W H Z Fs σ ρ1 H1 Z1 Fs1 → NVs W H1 Z1 Fs1 us vs G → (∀ a ∈ G, H a = none ∨ Ow Fs a) → (∀ i ∈ is, i ∉ pin) → setVals is vs ρ1 = some ρ2 →
    ∃ Fs2, Nxt W H Z Fs (setVs is us σ) ρ2 H1 Z1 Fs2 ∧ Pin pin σ (setVs is us σ) := by
  induction is with
  | nil =>
    intro us vs H H1 Z Z1 σ ρ1 ρ2 Fs Fs1 G n nvs ho hp e
    cases vs with
    | nil => cases e; cases nvs; exact ⟨Fs1, n, .refl⟩
    | cons _ _ => cases e
  | cons i is ih =>
    intro us vs H H1 Z Z1 σ ρ1 ρ2 Fs Fs1 G n nvs ho hp e
    cases nvs with
    | nil => cases e
    | cons rv h1 h2 h3 =>
      rename_i u us v vs F G
      have e' : setVals is vs (ρ1.set i (some v)) = some ρ2 := e
      have nv : NV W H Fs H1 Z1 Fs1 u v F := ⟨rv, h1, fun a m => ho a (List.mem_append.mpr (.inl m))⟩
      by_cases hi : i < ρ1.length
      · have n' := n.set' nv hi
        obtain ⟨Fs2, n2, p2⟩ := ih us vs n' (h3.upd h2) (fun a m => ho a (List.mem_append.mpr (.inr m))) (fun j m => hp j (List.mem_cons_of_mem _ m)) e'
        exact ⟨Fs2, n2, (pin_set (hp i List.mem_cons_self)).trans p2⟩
      · have l1 : ρ1.length ≤ i := by omega
        have l2 : σ.length ≤ i := by rw [n.r.len]; exact l1
        rw [List.set_eq_of_length_le l1] at e'
        obtain ⟨Fs2, n2, p2⟩ := ih us vs n h3 (fun a m => ho a (List.mem_append.mpr (.inr m))) (fun j m => hp j (List.mem_cons_of_mem _ m)) e'
        have es : setVs (i :: is) (u :: us) σ = setVs is us σ := by show setVs is us (List.set σ i (some u)) = _; rw [List.set_eq_of_length_le l2]
        exact ⟨Fs2, by rw [es]; exact n2, by rw [es]; exact p2⟩
theorem setVals_len : ∀ (is : List Nat) (vs : List Val) (ρ ρ2 : Env), setVals is vs ρ = some ρ2 → vs.length = is.length
  | [], [], _, _, _ => rfl
  | i :: is, v :: vs, ρ, ρ2, h => by
    have := setVals_len is vs (ρ.set i (some v)) ρ2 h
    rw [List.length_cons, List.length_cons, this]
  | [], _ :: _, _, _, h => by cases h
  | _ :: _, [], _, _, h => by cases h
theorem NVs.len {H : Hp} {Z : Addr → Prop} {Fs : Nat → List Addr} {us : List V} {vs : List Val} {G : List Addr} (h : NVs W H Z Fs us vs G) : us.length = vs.length := by
  induction h with
  | nil => rfl
  | cons _ _ _ _ ih => rw [List.length_cons, List.length_cons, ih]
/-- a, b = x, y -/
theorem snd_par2 {i j : Nat} {x y : Str} {a b : Expr} {es' : List Ex} {px py pt pos : Pos} {kt k2 pt2} (hc : X.calm = true) (hN : X.N.Nodup) (hi : X.N[i]? = some x) (hj : X.N[j]? = some y) (hij : i ≠ j)
    (hx : X.env.scope.names.lookup x = some .local) (hy : X.env.scope.names.lookup y = some .local) (hs : [a, b].all noStar = true) (hp : ∀ l ∈ [i, j], l ∉ pin)
    (hw : swappedStores [.Tuple [.Name x px, .Name y py] kt pt] (.Tuple [a, b] k2 pt2) X.env = pure (some [x, y]))
    (hss : swapsWithSole [.Tuple [.Name x px, .Name y py] kt pt] (.Tuple [a, b] k2 pt2) pos.line X.env = pure false) (A : AllE W X Wx r [a, b] es') :
    SndS W X Wx pin (.Assign [.Tuple [.Name x px, .Name y py] kt pt] (.Tuple [a, b] k2 pt2) pos) (fun ρ => (evVs r es' ρ).bind fun vs ρ => (ofO (setVals [i, j] vs ρ) ρ).bind fun ρ _ => .ok .nx ρ) := by
  intro Z σ H ρ Fs D R ns hk hx'
  dsimp only at ns hk hx'
  refine BS.of (ps_par hc hN hi hj hij hx hy (BEs.pa _ hs) hw hss) ?_
  refine snd_Vs _ _ A Z σ H ρ Fs _ R (Out.bind_ns ns) (fun vs ρ1 q us H1 Z1 Fs1 G n nvs ho => ?_) hx'.fst.e
  rw [bind_ok q] at ns hk
  obtain ⟨ρ2, e2, e3⟩ := ofO_ns (Out.bind_ns ns)
  obtain ⟨Fs2, n2, p2⟩ := set_all (pin := pin) [i, j] us vs n nvs ho hp e2
  have hk' := hk .nx ρ2 (by rw [e3]; rfl) _ H1 Z1 Fs2 n2 p2
  have hl : us.length = 2 := nvs.len.trans (setVals_len _ _ _ _ e2)
  obtain ⟨u, w, rfl⟩ : ∃ u w, us = [u, w] := by
    match us, hl with
    | [u, w], _ => exact ⟨u, w, rfl⟩
  exact ⟨u, w, rfl, hk'⟩
theorem snd_par3 {i j l : Nat} {x y z : Str} {a b c : Expr} {es' : List Ex} {px py pz pt pos : Pos} {kt k2 pt2} (hc : X.calm = true) (hN : X.N.Nodup) (hi : X.N[i]? = some x) (hj : X.N[j]? = some y) (hl : X.N[l]? = some z) (hij : i ≠ j) (hil : i ≠ l) (hjl : j ≠ l)
    (hx : X.env.scope.names.lookup x = some .local) (hy : X.env.scope.names.lookup y = some .local) (hz : X.env.scope.names.lookup z = some .local) (hs : [a, b, c].all noStar = true) (hp : ∀ k ∈ [i, j, l], k ∉ pin)
    (hw : swappedStores [.Tuple [.Name x px, .Name y py, .Name z pz] kt pt] (.Tuple [a, b, c] k2 pt2) X.env = pure (some [x, y, z]))
    (hss : swapsWithSole [.Tuple [.Name x px, .Name y py, .Name z pz] kt pt] (.Tuple [a, b, c] k2 pt2) pos.line X.env = pure false) (A : AllE W X Wx r [a, b, c] es') :
    SndS W X Wx pin (.Assign [.Tuple [.Name x px, .Name y py, .Name z pz] kt pt] (.Tuple [a, b, c] k2 pt2) pos) (fun ρ => (evVs r es' ρ).bind fun vs ρ => (ofO (setVals [i, j, l] vs ρ) ρ).bind fun ρ _ => .ok .nx ρ) := by
  intro Z σ H ρ Fs D R ns hk hx'
  dsimp only at ns hk hx'
  refine BS.of (ps_par3 hc hN hi hj hl hij hil hjl hx hy hz (BEs.pa _ hs) hw hss) ?_
  refine snd_Vs _ _ A Z σ H ρ Fs _ R (Out.bind_ns ns) (fun vs ρ1 q us H1 Z1 Fs1 G n nvs ho => ?_) hx'.fst.e
  rw [bind_ok q] at ns hk
  obtain ⟨ρ2, e2, e3⟩ := ofO_ns (Out.bind_ns ns)
  obtain ⟨Fs2, n2, p2⟩ := set_all (pin := pin) [i, j, l] us vs n nvs ho hp e2
  have hk' := hk .nx ρ2 (by rw [e3]; rfl) _ H1 Z1 Fs2 n2 p2
  have hl : us.length = 3 := nvs.len.trans (setVals_len _ _ _ _ e2)
  obtain ⟨u, w, t, rfl⟩ : ∃ u w t, us = [u, w, t] := by
    match us, hl with
    | [u, w, t], _ => exact ⟨u, w, t, rfl⟩
  exact ⟨u, w, t, rfl, hk'⟩
/-- (a, b, ..) = an expression -/
theorem snd_setT {e : Expr} {e' : Ex} {es : List Expr} {is : List Nat} {k : Nat} {pt pos : Pos} (eK : X.K = W.K) (hc : X.calm = true) (hN : X.N.Nodup) (ht : TgNames X pin es is)
    (hs : swapsWithSole [.Tuple es k pt] e pos.line X.env = pure false) (hw : swappedStores [.Tuple es k pt] e X.env = pure none) (A : ArgSs W X Wx r [e] [e']) (hpk : noPk [e'] = true) :
    SndS W X Wx pin (.Assign [.Tuple es k pt] e pos) (fun ρ => (evDs r [e'] ρ).bind fun ds ρ => (ofO (setTs is ds ρ) ρ).bind fun ρ _ => .ok .nx ρ) := by
  intro Z σ H ρ Fs D R ns hk hx
  dsimp only at ns hk hx
  refine BS.of (ps_asg BE.pe BG.pg hs hw rfl) ?_
  have main : BEs X [e] σ H (fun us H1 => ∃ u, us = [u] ∧ BG X (.Tuple es k pt) u σ H1 D.nx) := by
    refine snd_Ds_bind A R ns hx.e fun ds ρ1 us H1 Z1 Fs1 q n a a2 ns1 _ => ?_
    obtain ⟨ρ2, e2, e3⟩ := ofO_ns (Out.bind_ns ns1)
    have rs := a2 hpk
    have hl := evDs_len _ _ _ _ q
    obtain ⟨d, rfl⟩ : ∃ d, ds = [d] := by
      match ds, hl with
      | [d], _ => exact ⟨d, rfl⟩
    cases rs with
    | cons rd rs =>
      cases rs
      refine ⟨_, rfl, ?_⟩
      have e2' : setTgt (.tup is) d ρ1 = some ρ2 := by
        cases d with
        | tuple xs => exact e2
        | _ => cases e2
      refine snd_tgt (pr := false) eK hc hN ht Z1 σ H1 ρ1 Fs1 _ d ρ2 _ n.r (.dat rd) e2' fun σ' Fs' n2 p2 => ?_
      exact hk .nx ρ2 (by rw [bind_ok q, bind_ok e3]) σ' H1 Z1 Fs' (n.trans n2) p2
  exact BE.mono (fun u H1 q => by obtain ⟨u', e, q'⟩ := q; cases e; exact q') main
end
end EV
end SSnd10
section SSnd11
set_option Elab.async false
set_option linter.all false
set_option maxRecDepth 100000
set_option maxHeartbeats 1000000
namespace EV
open PySem PySem.Spec PyProof.Rows L2
/-! ### what a slot owns is changed in place -/
theorem star_all {env : PySem.Env} : ∀ (es : List Expr), es.all noStar = true → (starEach es env).any (·.1) = false ∧ (starEach es env).all (fun x => !x.1) = true
  | [], _ => ⟨rfl, rfl⟩
  | e :: es, h => by
    have h' : noStar e = true ∧ es.all noStar = true := by simpa using h
    obtain ⟨a, b⟩ := star_all (env := env) es h'.2
    rw [star_of h'.1]
    simp [a, b]
theorem back_any (pos : Pos) : ∀ (ts : List (Bool × Sem Value)), (backTo pos ts).any (·.1) = ts.any (·.1) ∧ (backTo pos ts).all (fun x => !x.1) = ts.all (fun x => !x.1)
  | [] => ⟨rfl, rfl⟩
  | t :: ts => by
    obtain ⟨a, b⟩ := back_any pos ts
    have e : backTo pos (t :: ts) = (t.1, if t.1 then (do let v ← t.2; standAt pos; pure v) else t.2) :: backTo pos ts := rfl
    rw [e]
    simp [a, b]
theorem few_of {env : PySem.Env} {pos : Pos} {es : List Expr} (h : es.all noStar = true) (hl : es.length < 30) : ((backTo pos (starEach es env)).all (fun x => !x.1) && (backToKw pos (keywordEach [] env)).all (fun x => x.1.isSome)
      && decide (es.length + ([] : List Keyword).length + (if ([] : List Keyword).isEmpty then 0 else 1) < 30)) = true := by
  rw [(back_any pos _).2, (star_all es h).2]
  have e : (backToKw pos (keywordEach [] env)).all (fun x => x.1.isSome) = true := rfl
  rw [e]
  have : es.length + ([] : List Keyword).length + (if ([] : List Keyword).isEmpty then 0 else 1) = es.length := rfl
  rw [this]
  simpa using hl
section
variable {W : Wd} {X : Cx} {Wx : WX} {r : Rec} {pin : List Nat}
theorem RelE.put {H : Hp} {Z : Addr → Prop} {σ : L2.St} {ρ : Env} {Fs : Nat → List Addr} {i : Nat} {v v' : Val} {a : Addr} {o' : HO} (R : RelE W H Z σ ρ Fs) (e : ρ[i]? = some (some v)) (hu : σ[i]? = some (some (.ref a))) (hF : Fs i = [a]) (hn : RepV W (upd H a o') Z (.ref a) v' [a]) :
    Nxt W H Z Fs σ (ρ.set i (some v')) (upd H a o') Z Fs := by
  have ow : ∀ b, b = a → Ow Fs b := fun b q => ⟨i, by rw [hF, q]; exact List.mem_singleton.mpr rfl⟩
  have wO := R.own
  have zt : ∀ b, Z b → upd H a o' b ≠ none := fun b z => by
    by_cases q : b = a
    · rw [q, upd_same]; exact fun z => by cases z
    · rw [upd_ne q]; exact R.zok b z
  have e1 : Ext H (upd H a o') Z Z (fun b => b = a) (fun b => b = a) := ⟨fun b o h n => by rw [upd_ne n]; exact h, fun _ h => h, fun _ h => .inl h, fun b h => by
    by_cases q : b = a
    · rw [q, upd_same] at h; cases h
    · rw [upd_ne q] at h; exact h, fun _ h => .inr h, zt⟩
  have w1 : Own H Z (fun b => b = a) := fun b h => wO b (ow b h)
  have hi : i < ρ.length := (List.getElem?_eq_some_iff.mp e).1
  refine ⟨⟨fun b o h n => by rw [upd_ne fun q => n (ow b q)]; exact h, fun _ h => h, fun _ h => .inl h, e1.keep, fun _ h => .inr h, zt⟩, ?_⟩
  refine ⟨by rw [List.length_set]; exact R.len, fun j w q => ?_, fun j h => ?_, R.dis, zt⟩
  · by_cases hj : j = i
    · subst hj
      rw [List.getElem?_set_self hi] at q; cases q
      exact ⟨_, hu, by rw [hF]; exact hn⟩
    · rw [List.getElem?_set_ne (Ne.symm hj)] at q
      obtain ⟨u, h1, r'⟩ := R.val j w q
      exact ⟨u, h1, r'.ext e1 w1 fun b m q => hj (R.dis j i b m (by rw [hF, q]; exact List.mem_singleton.mpr rfl))⟩
  · by_cases hj : j = i
    · subst hj
      exact absurd (by rw [List.getElem?_set_self hi]) (h v')
    · exact R.nov j fun w q => h w (by rw [List.getElem?_set_ne (Ne.symm hj)]; exact q)
/-- the list of one's own in slot i -/
theorem RelE.ol {H : Hp} {Z : Addr → Prop} {σ : L2.St} {ρ : Env} {Fs : Nat → List Addr} {i : Nat} {xs : List D} (R : RelE W H Z σ ρ Fs) (e : ρ[i]? = some (some (.ol xs))) : ∃ a us, σ[i]? = some (some (.ref a)) ∧ H a = some (.lst us) ∧ ¬ Z a ∧ RepDs W.K H Z us xs ∧ Fs i = [a] := by
  obtain ⟨u, h1, rv⟩ := R.val i _ e
  generalize hF : Fs i = F at rv
  cases rv with
  | ol h z rs => exact ⟨_, _, h1, h, z, rs, rfl⟩
/-- .. is rewritten -/
theorem RelE.putL {H : Hp} {Z : Addr → Prop} {σ : L2.St} {ρ : Env} {Fs : Nat → List Addr} {i : Nat} {xs ys : List D} {a : Addr} {us vs : List V} (R : RelE W H Z σ ρ Fs) (e : ρ[i]? = some (some (.ol xs))) (hu : σ[i]? = some (some (.ref a))) (hF : Fs i = [a]) (ha : H a = some (.lst us)) (hz : ¬ Z a) (rs : RepDs W.K H Z vs ys) :
    Nxt W H Z Fs σ (ρ.set i (some (.ol ys))) (upd H a (.lst vs)) Z Fs := by
  refine R.put e hu hF (.ol upd_same hz (rs.stay ⟨fun _ h => h, fun b o h z => ?_, fun b us h => ?_, fun b o u h => ?_⟩))
  · rw [upd_ne fun q => hz (by rw [← q]; exact z)]; exact h
  · rw [upd_ne (ne_of h ha (by intro z; cases z))]; exact h
  · rw [upd_ne (ne_of h ha (by intro z; cases z))]; exact h
/-- arguments of which the first is looked at in place -/
theorem snd_pkDs {i : Nat} {x : Str} {p0 : Pos} {es : List Expr} {es' : List Ex} {β : Type} {g : List D → Env → Out β} (vo : VarOk X i x) (A : ArgSs W X Wx r es es') {Z : Addr → Prop} {σ : L2.St} {H : Hp} {ρ : Env} {Fs : Nat → List Addr} {Q : List V → Hp → Prop} (R : RelE W H Z σ ρ Fs) (ns : (evDs r (.pk i :: es') ρ).bind g ≠ .stuck) (hx : Exd W Wx H Z Fs σ ((evDs r (.pk i :: es') ρ).bind g))
    (hk : ∀ d ds ρ1 u us H1 Z1 Fs1, evDs r (.pk i :: es') ρ = .ok (d :: ds) ρ1 → peek ρ1 i = some d → σ[i]? = some (some u) → Nxt W H Z Fs σ ρ1 H1 Z1 Fs1 → ArgR W H1 Z1 u d → ArgRs W H1 Z1 us ds → (noPk es' = true → RepDs W.K H1 Z1 us ds) → g (d :: ds) ρ1 ≠ .stuck → Exd W Wx H1 Z1 Fs1 σ (g (d :: ds) ρ1) → Q (u :: us) H1) : BEs X (.Name x p0 :: es) σ H Q := by
  cases hp0 : peek ρ i with
  | none =>
    have e0 : evDs r (.pk i :: es') ρ = .stuck := by
      show (match peek ρ i with | some _ => _ | none => Out.stuck) = _
      rw [hp0]
    rw [e0] at ns; exact absurd rfl ns
  | some d0 =>
    have e1 : evDs r (.pk i :: es') ρ = (evDs r es' ρ).bind fun ds ρ => match peek ρ i with | some d => .ok (d :: ds) ρ | none => .stuck := by
      show (match peek ρ i with | some _ => _ | none => Out.stuck) = _
      simp only [hp0]
      all_goals rfl
    obtain ⟨u, hu⟩ : ∃ u, σ[i]? = some (some u) := by
      unfold peek at hp0
      split at hp0
      · rename_i v' hv'
        obtain ⟨u, hu, _⟩ := R.val i v' hv'
        exact ⟨u, hu⟩
      · cases hp0
    rw [e1] at ns hx
    have hns := Out.bind_ns (Out.bind_ns ns)
    refine BE.var vo hu (snd_Ds es es' A Z σ H ρ Fs _ R hns (fun ds ρ1 q us H1 Z1 Fs1 n a a2 => ?_) hx.fst.fst)
    cases hpk : peek ρ1 i with
    | none =>
      have e2 : ((evDs r es' ρ).bind fun ds ρ => match peek ρ i with | some d => Out.ok (d :: ds) ρ | none => .stuck) = .stuck := by
        rw [bind_ok q]; simp only [hpk]
      rw [e2] at ns; exact absurd rfl ns
    | some d =>
      have e2 : ((evDs r es' ρ).bind fun ds ρ => match peek ρ i with | some d => Out.ok (d :: ds) ρ | none => .stuck) = .ok (d :: ds) ρ1 := by
        rw [bind_ok q]; simp only [hpk]
      refine hk d ds ρ1 u us H1 Z1 Fs1 (e1.trans e2) hpk hu n ?_ a a2 (by rw [bind_ok e2] at ns; exact ns) (hx.bind e2 n)
      unfold peek at hpk
      split at hpk
      · rename_i v' hv'
        obtain ⟨u', hu', rv⟩ := n.r.val i v' hv'
        rw [hu] at hu'; cases hu'
        exact rv.argR hpk
      · cases hpk
/-- where the value is put: the slot's own list -/
theorem ixSem_ol {w0 : Option Val} {d0 : D} {ks : List D} {d : D} {w : Val} {xs : List D} (h0 : w0 = some (.ol xs)) (h : ixSem w0 (d0 :: ks) d = some w) : ∃ m j, ks = [.int m] ∧ ixN xs.length m = some j ∧ w = .ol (xs.set j d) := by
  subst h0
  unfold ixSem at h
  split at h
  · rename_i e1 e2
    cases e1; cases e2
    cases hj : ixN xs.length _ with
    | none => rw [hj] at h; cases h
    | some j => rw [hj] at h; cases h; exact ⟨_, j, rfl, hj, rfl⟩
  · cases h
theorem ixSem_is {w0 : Option Val} {ks : List D} {d : D} {w : Val} (h : ixSem w0 ks d = some w) : ∃ xs, w0 = some (.ol xs) := by
  unfold ixSem at h
  split at h
  · exact ⟨_, rfl⟩
  · cases h
/-- xs[k] = v -/
theorem snd_setIx {i : Nat} {x : Str} {e k : Expr} {e' k' : Ex} {p0 p1 pos : Pos} (vo : VarOk X i x) (se : SndE W X Wx e (r.e e')) (Ak : ArgSs W X Wx r [k] [k'])
    (hs : swapsWithSole [.Subscript (.Name x p0) k p1] e pos.line X.env = pure false) (hw : swappedStores [.Subscript (.Name x p0) k p1] e X.env = pure none)
    (ha : ∀ v, assign (.Subscript (.Name x p0) k p1) X.env v = (do
      let ov ← holding [v] (eval (.Name x p0) X.env)
      let iv ← holding [v, ov] (eval k X.env)
      standAt p1
      holding [v, ov, iv] (setItem ov iv v)
      release [v, ov, iv] [])) :
    SndS W X Wx pin (.Assign [.Subscript (.Name x p0) k p1] e pos) (fun ρ => (r.e e' ρ).bind fun v ρ => (ofO v.data ρ).bind fun v ρ => (evDs r [.pk i, k'] ρ).bind fun ds ρ => (ofO (ixSem (ρ[i]?.getD none) ds v) ρ).bind fun w ρ => .ok .nx (ρ.set i (some w))) := by
  intro Z σ H ρ Fs D R ns hk hx
  dsimp only at ns hk hx
  refine BS.of (ps_asg BE.pe (pg_sub BE.pe BE.pe set_list ha) hs hw rfl) ?_
  refine se.bind R ns hx.e fun v ρ1 u H1 Z1 Fs1 F q n nv ns1 hx1 => ?_
  obtain ⟨d, hd, e1⟩ := ofO_ns (Out.bind_ns ns1)
  have n1 := n.frz nv
  have rd := nv.v.froze hd
  rw [bind_ok e1] at ns1 hx1
  have hx1' : Exd W Wx H1 (zor Z1 F) Fs1 σ ((evDs r [.pk i, k'] ρ1).bind fun ds ρ => (ofO (ixSem (ρ[i]?.getD none) ds d) ρ).bind fun w ρ => Out.ok Fl.nx (ρ.set i (some w))) := by
    intro c fs ρ' q2 cls dd H' Z' Fs' n' x
    exact hx c fs ρ' (by rw [bind_ok q, bind_ok e1]; exact q2) cls dd σ H' Z' Fs' (n1.trans n') .refl x
  have main : BEs X [.Name x p0, k] σ H1 (fun us H2 => ∃ o iv, us = [o, iv] ∧ rSetL o iv u H2 (D.nx σ)) := by
    refine snd_pkDs vo Ak n1.r ns1 hx1' fun d0 ds ρ2 o us H2 Z2 Fs2 q2 hpk hu n2 ao a _ ns2 _ => ?_
    obtain ⟨w, hw', e2⟩ := ofO_ns (Out.bind_ns ns2)
    have hk' := hk .nx (ρ2.set i (some w)) (by rw [bind_ok q, bind_ok e1, bind_ok q2, bind_ok e2]) σ
    obtain ⟨xs, hi⟩ := ixSem_is hw'
    have hi2 : ρ2[i]? = some (some (.ol xs)) := by
      cases h : ρ2[i]? with
      | none => rw [h] at hi; cases hi
      | some ov => rw [h] at hi; exact congrArg some hi
    obtain ⟨m, j, rfl, hj, rfl⟩ := ixSem_ol hi hw'
    obtain ⟨al, ws, s1, s2, s3, s4, s5⟩ := n2.r.ol hi2
    rw [hu] at s1; cases s1
    obtain ⟨iv, rfl, ai⟩ := args1 a
    cases ai.int
    refine ⟨_, _, rfl, al, ws, m, j, rfl, rfl, s2, by rw [s4.length]; exact hj, ?_⟩
    exact hk' _ _ _ ((n1.trans n2).trans (n2.r.putL hi2 hu s5 s2 s3 (s4.set (rd.stay (n2.stay n1.r)) j))) .refl
  exact BE.mono (fun o H2 q1 => BE.mono (fun iv H3 q3 => by obtain ⟨o', iv', e, q4⟩ := q3; cases e; exact q4) q1) main
end
end EV
end SSnd11
section SSnd12
set_option Elab.async false
set_option linter.all false
set_option maxRecDepth 100000
set_option maxHeartbeats 1000000
namespace EV
open PySem PySem.Spec PyProof.Rows L2
def BMt (X : Cx) (id : String) : V → List V → Hp → VK → Prop := fun x xs H Q => ∀ pins s σ v us, Inv X pins σ H s → RelV x v → Vals xs us → wpAny (model X.prog X.w) X.A (call (.builtin id) (v :: us)) (EP X pins σ Q) X.xe s
theorem BMt.ok {X : Cx} {id : String} : MtR X id (BMt X id) := fun pins s σ H x xs v us Q I rx rs h => h pins s σ v us I rx rs
theorem BMt.of {X : Cx} {id : String} {r : V → List V → Hp → VK → Prop} (h : MtR X id r) {x : V} {xs : List V} {H : Hp} {Q : VK} (q : r x xs H Q) : BMt X id x xs H Q := fun pins s σ v us I rx rs => h pins s σ H x xs v us Q I rx rs q
/-- a method that rewrites a list -/
def MutR (W : Wd) (X : Cx) (m : Mut) (id : String) (fz : Bool) : Prop :=
  ∀ (H : Hp) (Z : Addr → Prop) (a : Addr) (us : List V) (xs : List D) (vs : List V) (ds ys : List D) (Q : VK), H a = some (.lst us) → RepDs W.K H Z us xs → ArgRs W H Z vs ds → (fz = true → RepDs W.K H Z vs ds) → msem m xs ds = some ys →
    (∀ vs', RepDs W.K H Z vs' ys → Q .non (upd H a (.lst vs'))) → BMt X id (.ref a) vs H Q
section
variable {W : Wd} {X : Cx} {Wx : WX} {r : Rec} {pin : List Nat}
theorem snd_mut {m : Mut} {id : String} {fz : Bool} {i : Nat} {x : Str} {e : Expr} {es : List Expr} {es' : List Ex} {p0 apos cpos pos : Pos} {name : Str} (vo : VarOk X i x) (M : MutR W X m id fz) (slot : Slot "list" name id) (hty : typeOf (.builtin id) = pure (.type "method_descriptor")) (A : ArgSs W X Wx r (e :: es) es') (hf : fz = true → noPk es' = true)
    (hst : (e :: es).all noStar = true) (hl : (e :: es).length < 30) (hline : (apos.endLine == cpos.line) = true) (hs : swapsWith (.Call (.Attribute (.Name x p0) name apos) (e :: es) [] cpos) none pos.line X.env = pure false) :
    SndS W X Wx pin (.Expr (.Call (.Attribute (.Name x p0) name apos) (e :: es) [] cpos) pos) (fun ρ => (ofO (olAt ρ i) ρ).bind fun _ ρ => (evDs r es' ρ).bind fun ds ρ => (ofO (mutSem m (ρ[i]?.getD none) ds) ρ).bind fun ys ρ => .ok .nx (ρ.set i (some (.ol ys)))) := by
  intro Z σ H ρ Fs D R ns hk hx
  dsimp only at ns hk hx
  have hst2 : noStar e = true ∧ es.all noStar = true := by simpa using hst
  obtain ⟨_, e0, e1⟩ := ofO_ns (Out.bind_ns ns)
  rw [bind_ok e1] at ns hk hx
  obtain ⟨xs0, hi0⟩ : ∃ xs0, ρ[i]? = some (some (.ol xs0)) := by
    unfold olAt at e0
    split at e0
    · exact ⟨_, by assumption⟩
    · cases e0
  obtain ⟨a, us0, hu, ha0, _, _, _⟩ := R.ol hi0
  have pe := pe_bm (X := X) (o := .Name x p0) (e := e) (es := es) (t := BEs X (e :: es)) (to := BE X (.Name x p0)) (apos := apos) (cpos := cpos) F.plainAttrs_list slot hty (BMt.ok (X := X) (id := id)) BE.pe (BEs.pa _ hst) rfl (few_of hst hl) hline (star_of hst2.1) ((back_any cpos _).1.trans (star_all es hst2.2).1)
  refine BS.of (ps_expr pe hs) ?_
  refine BE.var vo hu ⟨.inl ⟨rfl, us0, SqL.of ha0⟩, ?_⟩
  refine snd_Ds_bind A R ns hx.e fun ds ρ1 vs H1 Z1 Fs1 q n ar ar2 ns1 _ => ?_
  obtain ⟨ys, h1, e2⟩ := ofO_ns (Out.bind_ns ns1)
  obtain ⟨xs, hi⟩ : ∃ xs, ρ1[i]? = some (some (.ol xs)) := by
    unfold mutSem at h1
    split at h1
    · rename_i h
      cases h2 : ρ1[i]? with
      | none => rw [h2] at h; cases h
      | some ov => rw [h2] at h; exact ⟨_, congrArg some h⟩
    · cases h1
  rw [hi] at h1
  have hm : msem m xs ds = some ys := h1
  obtain ⟨a', us, hu', ha, hz, rs, hF⟩ := n.r.ol hi
  rw [hu] at hu'; cases hu'
  refine M H1 Z1 a us xs vs ds ys _ ha rs ar (fun z => ar2 (hf z)) hm fun vs' rs' => ?_
  exact hk .nx _ (by rw [bind_ok q, bind_ok e2]) σ _ _ _ (n.trans (n.r.putL hi hu hF ha hz rs')) .refl
theorem ite_eq {α : Type} {c : Bool} {a : Option α} {b : α} (h : (if c = true then a else none) = some b) : c = true ∧ a = some b := by
  cases c with
  | true => exact ⟨rfl, by simpa using h⟩
  | false => cases h
theorem mut_append (G : Good W X) : MutR W X .append "list.append" true := by
  intro H Z a us xs vs ds ys Q ha rs ar fr hm hq
  have hm : mAppend xs ds = some ys := hm
  unfold mAppend at hm
  split at hm
  · obtain ⟨hc, rfl⟩ := ite_some hm
    have fr := fr rfl
    cases fr with
    | cons r1 r2 =>
      cases r2
      refine BMt.of (mt_append (X := X)) ⟨a, us, _, rfl, rfl, ha, ?_, hq _ (rs.append (.cons r1 .nil))⟩
      have := fit_le hc
      rw [rs.length]; omega
  · cases hm
theorem mut_extend (G : Good W X) : MutR W X .extend "list.extend" false := by
  intro H Z a us xs vs ds ys Q ha rs ar fr hm hq
  have hm : mExtend xs ds = some ys := hm
  unfold mExtend at hm
  split at hm
  · obtain ⟨hc, rfl⟩ := ite_some hm
    obtain ⟨v, rfl, a1⟩ := args1 ar
    obtain ⟨b, zs, rfl, hb, r1⟩ := a1.lst
    exact BMt.of (mt_extend (X := X)) ⟨a, b, us, zs, rfl, rfl, ha, hb, by rw [rs.length, r1.length]; exact fit_le hc, hq _ (rs.append r1)⟩
  · cases hm
/-- the first equal one -/
theorem idxD_at (x : D) : ∀ (xs : List D) (j : Nat), idxD x xs = some j → ∃ z, xs[j]? = some z ∧ PyData.eqv z x = true ∧ ∀ m z', m < j → xs[m]? = some z' → PyData.eqv z' x = false
  | [], _, h => by cases h
  | y :: ys, j, h => by
    unfold idxD at h
    cases hy : PyData.eqv y x with
    | true =>
      rw [hy, if_pos rfl] at h; cases h
      exact ⟨y, rfl, hy, fun m z' l => absurd l (Nat.not_lt_zero m)⟩
    | false =>
      rw [hy, if_neg (by decide)] at h
      cases h2 : idxD x ys with
      | none => rw [h2] at h; cases h
      | some k =>
        rw [h2] at h
        obtain rfl : k + 1 = j := by simpa using h
        obtain ⟨z, e1, e2, e3⟩ := idxD_at x ys k h2
        refine ⟨z, by simpa using e1, e2, fun m z' l e => ?_⟩
        cases m with
        | zero => simp at e; subst e; exact hy
        | succ m => exact e3 m z' (Nat.lt_of_succ_lt_succ l) (by simpa using e)
theorem delD_at (x : D) : ∀ (xs ys : List D), delD x xs = some ys → ∃ j, idxD x xs = some j ∧ ys = xs.eraseIdx j
  | [], _, h => by cases h
  | y :: xs, ys, h => by
    unfold delD at h
    unfold idxD
    cases hy : PyData.eqv y x with
    | true => rw [hy, if_pos rfl] at h; cases h; exact ⟨0, by rw [if_pos rfl], rfl⟩
    | false =>
      rw [hy, if_neg (by decide)] at h
      cases h2 : delD x xs with
      | none => rw [h2] at h; cases h
      | some zs =>
        rw [h2] at h; cases h
        obtain ⟨j, e1, e2⟩ := delD_at x xs zs h2
        exact ⟨j + 1, by rw [if_neg (by decide), e1]; rfl, by rw [e2]; rfl⟩
theorem RepDs.erase {K : PySem.W.Frag} {H : Hp} {Z : Addr → Prop} {us : List V} {ds : List D} (h : RepDs K H Z us ds) (j : Nat) : RepDs K H Z (us.eraseIdx j) (ds.eraseIdx j) := by
  induction us generalizing ds j with
  | nil => cases h; exact .nil
  | cons u us ih => cases h with
    | cons r rs => cases j with
      | zero => exact rs
      | succ j => exact .cons r (ih rs j)
theorem vals_erase : ∀ {us : List V} {ws : List Value} (j : Nat), Vals us ws → Vals (us.eraseIdx j) (ws.eraseIdx j)
  | _, _, _, .nil => .nil
  | _, _, 0, .cons _ t => t
  | _, _, j + 1, .cons r t => .cons r (vals_erase j t)
/-- where a value stands among a sequence's items -/
theorem found_at {pins : List (Addr × Obj)} {σ : L2.St} {H : Hp} {s : Shared} {Z : Addr → Prop} {us : List V} {ws : List Value} {xs : List D} {y : V} {vy : Value} {d : D} {j : Nat} (G : Good W X) (I : Inv X pins σ H s) (r : Vals us ws) (rs : RepDs W.K H Z us xs) (ry : RelV y vy) (ay : ArgR W H Z y d) (hc : inOk d xs = true) (hj : idxD d xs = some j) :
    ∃ e : Value → Bool, ∃ hj : j < ws.toArray.size, e ws.toArray[j] = true ∧ (∀ m (hm : m < ws.toArray.size), m < j → e ws.toArray[m] = false) ∧ ∀ z, z ∈ ws.toArray → SeqAt.EqAt X.A.in1 s z vy (e z) := by
  unfold inOk at hc
  simp only [Bool.and_eq_true, decide_eq_true_eq] at hc
  obtain ⟨⟨c1, c2⟩, c3⟩ := hc
  obtain ⟨bs, r1⟩ := reads_of G I ry ay c1
  have dps : DpAll X.K H us xs := by rw [G.K]; exact rs.dps c2
  obtain ⟨as, r2⟩ := Dp.readsAll I xs _ ws dps r
  have hmap : ws.map (SeqAt.readOf s.heap) = xs := SeqAt.readsAll_map xs ws as c2 r2
  have hroom : X.A.units + 1 + min (PyData.depthAll xs) d.depth < cLine := by
    have := G.un
    unfold deepD at c3
    omega
  obtain ⟨z, e1, e2, e3⟩ := idxD_at d xs j hj
  have hln : ws.length = xs.length := SeqAt.ReadsAll.length xs ws as r2
  have at_ : ∀ (m : Nat) (hm : m < ws.toArray.size) (z' : D), xs[m]? = some z' → SeqAt.readOf s.heap ws.toArray[m] = z' := by
    intro m hm z' h
    have hml : m < ws.length := by simpa using hm
    rw [← hmap, List.getElem?_map, List.getElem?_eq_getElem hml] at h
    have q : SeqAt.readOf s.heap ws[m] = z' := Option.some.inj h
    simpa using q
  have hjl : j < ws.toArray.size := by
    obtain ⟨q, _⟩ := List.getElem?_eq_some_iff.mp e1
    rw [List.size_toArray]; omega
  refine ⟨fun u => PyData.eqv (SeqAt.readOf s.heap u) d, hjl, ?_, fun m hm l => ?_, SeqAt.items_eqAt (vs := ws.toArray) r2 r1 c2 c1 hroom⟩
  · show PyData.eqv (SeqAt.readOf s.heap ws.toArray[j]) d = true
    rw [at_ j hjl z e1]; exact e2
  · have hml : m < xs.length := by have : m < ws.length := by simpa using hm
                                   omega
    show PyData.eqv (SeqAt.readOf s.heap ws.toArray[m]) d = false
    rw [at_ m hm _ (List.getElem?_eq_getElem hml)]
    exact e3 m _ l (List.getElem?_eq_getElem hml)
theorem mut_remove (G : Good W X) : MutR W X .remove "list.remove" false := by
  intro H Z a us xs vs ds ys Q ha rs ar fr hm hq
  have hm : mRemove xs ds = some ys := hm
  unfold mRemove at hm
  split at hm
  · rename_i d
    obtain ⟨hc, hd⟩ := ite_eq hm
    obtain ⟨j, hj, rfl⟩ := delD_at _ _ _ hd
    obtain ⟨y, rfl, ay⟩ := args1 ar
    intro pins s σ v ws I rx rv
    cases (show v = Value.ref a from rx)
    obtain ⟨vy, rfl, ry⟩ := vals1 rv
    obtain ⟨zs, n, k1, g1, hz⟩ := I.lst ha
    obtain ⟨e, hj', e1, e2, e3⟩ := found_at G I k1 rs ry ay hc hj
    have hsz : zs.toArray.size ≤ sizeLine := by rw [List.size_toArray, ← k1.length]; exact hz
    have hT : s.TypeIs (.ref a) "list" := ⟨_, g1, rfl⟩
    refine call_meets F.slot_list_remove hT F.entry_list_remove (F.args_list_remove_2 _ _) (SeqAt.list_removeAt a zs.toArray n none #[] vy e j hj' e1 e2 hsz) ⟨g1, e3, ?_⟩
    have hz2 : (us.eraseIdx j).length ≤ sizeLine := Nat.le_trans (by rw [List.length_eraseIdx]; split <;> omega) hz
    refine ⟨.non, _, I.lset (its' := zs.eraseIdx j) (t' := s.toks) ha g1 ?_ (vals_erase j k1) hz2, rfl, hq _ (rs.erase j)⟩
    simp
  · cases hm
end
end EV
end SSnd12
section SCallG
set_option Elab.async false
set_option linter.all false
set_option maxRecDepth 100000
set_option maxHeartbeats 1000000
namespace EV
open PySem PySem.Spec PyProof.Rows L2
/-! ### calls of one's own defs, under known guards -/
/-- what a def promises where no guard stands on the stack -/
def FnG (P : Program) (w : World) (K : PySem.W.Frag) (mg : Str → Option Value) (base : Heap) (k : Nat) (f : Addr) (sp : Sp) : Prop :=
  ∀ (A : Around) (outer : List PySem.Env) (s : Shared) (H : Hp) (us : List Value) (vs : List V) (Q : VK) (E : XK), Room k A → A.guards = some [] → Env0 P w K mg base A outer s H → Vals vs us → sp vs H Q E →
    codeAny (model P w) A (.call (.ref f) ⟨us, []⟩) (CR (L2.CX P w) outer P w H s Q E) s
/-- its arguments bind by place -/
def BindsBy (fd : FuncData) (ps : List Str) : Prop := ∀ us : List Value, us.length = ps.length → bindArgs fd ⟨us, []⟩ = pure (ps.zip us)
theorem fnG_of {P : Program} {w : World} {K : PySem.W.Frag} {mg : Str → Option Value} {base : Heap} {x qual : Str} {st : Stmt} {f : Addr} {fd : FuncData} {N ps : List Str} {k : Nat} {sp : Sp} (F : L2.Fun K x qual st f fd) (S : FnScope N ps (defScope st)) (hb : BindsBy fd ps)
    (len : ∀ vs H Q E, sp vs H Q E → vs.length = ps.length)
    (body : ∀ (cdv : Value) (A : Around) (outer : List PySem.Env) (s : Shared) (H : Hp) (vs : List V) (Q : VK) (E : XK), Room k (A.deeper (envOfC qual (defScope st) s.heap.objs.size f cdv)) → (A.deeper (envOfC qual (defScope st) s.heap.objs.size f cdv)).guards = some [] → sp vs H Q E →
      BSs (cxOf (L2.CX P w) P w K mg base N qual (defScope st) f cdv A outer s H E) (defBody st) { nx := fun _ H' => Q .non H', rt := Q } (L2.start N vs) H) : FnG P w K mg base (k + 1) f sp := by
  obtain ⟨oc, od, kV, doc, pm, an, cdv, ct, osl, rfl, lk, hcd⟩ := F.ex
  intro A outer s H us vs Q E hr hg e0 r hsp
  have hl : us.length = ps.length := by rw [← r.length]; exact len _ _ _ _ hsp
  have stays : ∀ b o, base.get? b = some o → s.heap.get? b = some o := fun b o e => (e0.bs b o e).1
  have KX : K.In s.heap := e0.mod.kin.keeps stays
  have lim : s.heap.NoLimit := e0.mod.nolimit.keeps stays
  have kinds : ∀ y ∈ ps.zip us, (defScope st).names.lookup y.1 = some .local ∨ ((defScope st).names.lookup y.1 = some .cell ∧ ((cellsFrom (s.heap.objs.size + 1) (defScope st).names []).lookup y.1).isSome = true) := by
    rintro ⟨n, v⟩ hy
    exact (S.par n (List.of_mem_zip hy).1).imp id fun q => ⟨q, PySem.W.cellsFrom_some _ _ _ (.inl q)⟩
  refine codeAny_call_function hr.depth (KX _ _ lk) rfl S.co S.gen rfl (PySem.W.codeRec_of KX hcd) (BindsTo.of_eq (hb us hl) _ _ _ _ ?_)
  refine wpAny_newFunctionEnv_cells S.kind kinds fun env he s1 x => ?_
  subst he
  refine ⟨lim.keeps x.toInCall.keep, codeAny_func ?_⟩
  have I := inv_start (CX := L2.CX P w) (P := P) (w := w) (K := K) (mg := mg) (base := base) (N := N) (E := E) S hr.hd e0 (hl ▸ r.length) r x
  have bd := body cdv A outer s H vs Q E (hr.deeper _) hg hsp [] s1 I
  refine wpAny_mono bd (fun fl s' hs => ?_) fun _ _ z => z
  have last : ∀ {σ' : L2.St} {H' : Hp} {v : V} {u : Value}, Inv (cxOf (L2.CX P w) P w K mg base N qual (defScope st) f cdv A outer s H E) [] σ' H' s' → RelV v u → Q v H' → CE outer P w H s Q u s' :=
    fun J rv q => ⟨_, _, J.os, J.bare, J.base, J.hok, rv, q⟩
  match fl, hs with
  | .ret u, ⟨v, σ', H', J, rv, q⟩ => exact last J rv q
  | .next, ⟨σ', H', J, q⟩ => exact last (v := V.non) (u := Value.none) J rfl q
  | .brk, ⟨_, _, _, q⟩ => exact q.elim
  | .cont, ⟨_, _, _, q⟩ => exact q.elim
section
variable {X : Cx} {k : Nat} {f : Addr} {sp : Sp} {E : XK} {x : Str} {p pos : Pos} {e : Expr} {es : List Expr}
/-- an exception of a callee, where the slots hold σ -/
def PasAt (X : Cx) (σ : L2.St) (E : XK) : Prop := ∀ pins H s e s', Inv X pins σ H s → L2.CX X.prog X.w X.stack H s E e s' → X.xe e s'
theorem pas_of {Wx : WX} (tk : Takes X Wx) (σ : L2.St) : PasAt X σ (fun cls d H' => Wx cls d σ H') := fun _ _ _ e s' I c => tk e s' (XE.of_call I (fun _ _ _ h => h) c)
theorem run_G {pins : List (Addr × Obj)} {σ : L2.St} {H : Hp} {s : Shared} {Q : VK} {us : List Value} {vs : List V} (F : FnG X.prog X.w X.K X.mg X.base k f sp) (hr : Room k X.A) (hg : X.A.guards = some []) (hx : PasAt X σ E)
    (I : Inv X pins σ H s) (r : Vals vs us) (h : sp vs H Q E) : wpAny (model X.prog X.w) X.A (call (.ref f) us) (EP X pins σ Q) X.xe s := by
  refine wpAny_call (codeAny_mono (F X.A X.stack s H us vs Q E hr hg I.env0 r h) fun r s' hq => ?_)
  match r, hq with
  | .error e, hq => exact hx pins H s e s' I hq
  | .ok (.ret u), hq => exact I.after hq
/-- f(e, ..), f() -/
theorem callG (F : FnG X.prog X.w X.K X.mg X.base k f sp) (hr : Room k X.A) (hg : X.A.guards = some []) (hgl : Gl X x) (hm : X.mg x = some (.ref f)) (hk : PySem.W.keepIn X.K (.ref f) = true) (hdb : (x == ("__debug__" : Str)) = false) (hs : es.all noStar = true)
    {σ : L2.St} {H : Hp} {Q : VK} (hx : PasAt X σ E) (h : BEs X es σ H fun us H1 => sp us H1 Q E) : BE X (.Call (.Name x p) es [] pos) σ H Q := by
  intro pins s I
  refine wpAny_Call_Name_kw (ld_glob I hgl hm ?_ hdb)
  cases es with
  | nil => exact PySem.W.callWith_K0 I.kIn hk (run_G (us := []) F hr hg hx I .nil h)
  | cons e es =>
    have hs2 : noStar e = true ∧ es.all noStar = true := by simpa using hs
    refine PySem.W.callWith_K (h₀ := X.base) I.ok.mod.kin hk (thn ((BEs.pa _ hs).run pos pins s σ H _ I h) ?_) (star_of hs2.1) ((back_any pos _).1.trans (star_all es hs2.2).1)
    rintro us s1 ⟨vs, H1, I1, r, q⟩
    exact ⟨I1.kIn, run_G F hr hg hx I1 r q⟩
end
end EV
end SCallG
section SCall1
set_option Elab.async false
set_option linter.all false
set_option maxRecDepth 100000
set_option maxHeartbeats 1000000
namespace EV
open PySem PySem.Spec PyProof.Rows L2
/-! ### the arguments of a call: frozen, or handed on -/
def isMt : Ex → Bool
  | .mt _ => true
  | _ => false
def noMt (es : List Ex) : Bool := es.all fun e => !isMt e
/-- the one argument that is handed on stands where the def changes its parameter -/
def mtOk1 : List Ex → Nat → Bool
  | [], _ => false
  | e :: es, 0 => isMt e && noMt es
  | e :: es, j + 1 => !isMt e && mtOk1 es j
def mtOk (es : List Ex) (io : List Nat) : Bool :=
  match io with
  | [] => noMt es
  | [j] => mtOk1 es j
  | _ => false
def outEnv (np : Nat) (io : List Nat) (outs : List Val) : Env :=
  match io, outs with
  | [j], [o] => (List.replicate np none).set j (some o)
  | _, _ => List.replicate np none
theorem isMt_is {e : Ex} (h : isMt e = true) : ∃ i, e = Ex.mt i := by
  cases e <;> first | exact ⟨_, rfl⟩ | cases h
theorem back_no {e : Ex} (h : isMt e = false) (es : List Ex) (outs : List Val) (ρ : Env) : backAs (e :: es) outs ρ = backAs es outs ρ := by
  cases e <;> first | rfl | cases h
theorem noMt_cons {e : Ex} {es : List Ex} (h : noMt (e :: es) = true) : isMt e = false ∧ noMt es = true := by
  have h' : (!isMt e) = true ∧ noMt es = true := by simpa [noMt] using h
  exact ⟨by simpa using h'.1, h'.2⟩
theorem noMt_get : ∀ (es : List Ex), noMt es = true → ∀ (j i : Nat), es[j]? ≠ some (Ex.mt i)
  | [], _, j, i, h => by simp at h
  | e :: es, hn, j, i, h => by
    obtain ⟨h1, h2⟩ := noMt_cons hn
    cases j with
    | zero => simp at h; rw [h] at h1; cases h1
    | succ j => exact noMt_get es h2 j i (by simpa using h)
theorem noMt_back : ∀ (es : List Ex), noMt es = true → ∀ (outs : List Val) (ρ ρ2 : Env), backAs es outs ρ = some ρ2 → outs = [] ∧ ρ2 = ρ
  | [], _, outs, ρ, ρ2, h => by
    cases outs with
    | nil => cases h; exact ⟨rfl, rfl⟩
    | cons _ _ => cases h
  | e :: es, hn, outs, ρ, ρ2, h => by
    obtain ⟨h1, h2⟩ := noMt_cons hn
    rw [back_no h1] at h
    exact noMt_back es h2 outs ρ ρ2 h
theorem mtOk_one : ∀ (es : List Ex) (j : Nat), mtOk1 es j = true → ∃ i, es[j]? = some (Ex.mt i) ∧ (∀ j' i', es[j']? = some (Ex.mt i') → j' = j) ∧ ∀ (outs : List Val) (ρ ρ2 : Env), backAs es outs ρ = some ρ2 → ∃ o, outs = [o] ∧ ρ2 = ρ.set i (some o)
  | [], j, h => by cases h
  | e :: es, 0, h => by
    have h' : isMt e = true ∧ noMt es = true := by simpa [mtOk1] using h
    obtain ⟨i, rfl⟩ := isMt_is h'.1
    refine ⟨i, rfl, fun j' i' q => ?_, fun outs ρ ρ2 q => ?_⟩
    · cases j' with
      | zero => rfl
      | succ j' => exact absurd (by simpa using q) (noMt_get es h'.2 j' i')
    · cases outs with
      | nil => cases q
      | cons o outs =>
        have q' : backAs es outs (ρ.set i (some o)) = some ρ2 := q
        obtain ⟨rfl, rfl⟩ := noMt_back es h'.2 _ _ _ q'
        exact ⟨o, rfl, rfl⟩
  | e :: es, j + 1, h => by
    have h' : isMt e = false ∧ mtOk1 es j = true := by simpa [mtOk1] using h
    obtain ⟨i, h1, h2, h3⟩ := mtOk_one es j h'.2
    refine ⟨i, by simpa using h1, fun j' i' q => ?_, fun outs ρ ρ2 q => ?_⟩
    · cases j' with
      | zero => simp at q; rw [q] at h'; cases h'.1
      | succ j' => rw [h2 j' i' (by simpa using q)]
    · rw [back_no h'.1] at q
      exact h3 outs ρ ρ2 q
theorem mtOk_io {es : List Ex} {io : List Nat} (h : mtOk es io = true) : (io = [] ∧ noMt es = true) ∨ ∃ j, io = [j] ∧ mtOk1 es j = true := by
  cases io with
  | nil => exact .inl ⟨rfl, h⟩
  | cons j io => cases io with
    | nil => exact .inr ⟨j, rfl, h⟩
    | cons _ _ => cases h
section
variable {W : Wd} {X : Cx} {Wx : WX} {r : Rec}
theorem RepV.frzV {H : Hp} {Z : Addr → Prop} {u : V} {v : Val} {F : List Addr} (rv : RepV W H Z u v F) : RepV W H (zor Z F) u v.frz [] := by
  cases rv with
  | dat r => exact .dat (r.stay (stay_or _ _ _))
  | exc r =>
    obtain ⟨a, φ, cls, d, h1, h2, h3, h4, h5⟩ := r
    refine .exc ⟨a, φ, cls, d, h1, h2, h3, h4, ?_⟩
    rcases h5 with h5 | ⟨dx, us, g1, g2, g3, g4⟩
    · exact .inl h5
    · exact .inr ⟨dx, us, g1, g2, g3, g4.stay (stay_or _ _ _)⟩
  | fn f => exact .fn f
  | scr h r => exact .scr h (r.stay (stay_or _ _ _))
  | ol h z r => exact .dat (.lst h (.inr (List.mem_singleton.mpr rfl)) (r.stay (stay_or _ _ _)))
  | od h z q r => exact .dat (.dct h (.inr (List.mem_singleton.mpr rfl)) q (r.stay (stay_or _ _ _)))
/-- an argument and its part in the IR -/
def ArgM (W : Wd) (X : Cx) (Wx : WX) (r : Rec) (e : Expr) : Ex → Prop
  | .mt i => ∃ x pos, e = .Name x pos ∧ VarOk X i x
  | e' => SndE W X Wx e (r.e e')
theorem argM_of {e : Expr} {e' : Ex} (h : isMt e' = false) (s : ArgM W X Wx r e e') : SndE W X Wx e (r.e e') := by
  cases e' <;> first | exact s | cases h
inductive AsR (W : Wd) (H : Hp) (Z : Addr → Prop) (σ : L2.St) (ρ : Env) : List V → List Val → List Ex → Prop
  | nil : AsR W H Z σ ρ [] [] []
  | mt {i : Nat} {u : V} {v : Val} {us : List V} {vs : List Val} {es : List Ex} : σ[i]? = some (some u) → ρ[i]? = some (some v) → AsR W H Z σ ρ us vs es → AsR W H Z σ ρ (u :: us) (v :: vs) (.mt i :: es)
  | fz {e : Ex} {u : V} {v : Val} {us : List V} {vs : List Val} {es : List Ex} : isMt e = false → RepV W H Z u v [] → AsR W H Z σ ρ us vs es → AsR W H Z σ ρ (u :: us) (v :: vs) (e :: es)
theorem AsR.len {H : Hp} {Z : Addr → Prop} {σ : L2.St} {ρ : Env} {us : List V} {vs : List Val} {es : List Ex} (h : AsR W H Z σ ρ us vs es) : us.length = es.length ∧ vs.length = es.length := by
  induction h with
  | nil => exact ⟨rfl, rfl⟩
  | mt _ _ _ ih => exact ⟨by simp [ih.1], by simp [ih.2]⟩
  | fz _ _ _ ih => exact ⟨by simp [ih.1], by simp [ih.2]⟩
theorem AsR.get {H : Hp} {Z : Addr → Prop} {σ : L2.St} {ρ : Env} {us : List V} {vs : List Val} {es : List Ex} (h : AsR W H Z σ ρ us vs es) : ∀ {j : Nat} {v : Val}, vs[j]? = some v →
    ∃ u, us[j]? = some u ∧ ((∃ i, es[j]? = some (Ex.mt i) ∧ σ[i]? = some (some u) ∧ ρ[i]? = some (some v)) ∨ ((∀ i, es[j]? ≠ some (Ex.mt i)) ∧ RepV W H Z u v [])) := by
  induction h with
  | nil => intro j v q; simp at q
  | @mt i u0 v0 us vs es h1 h2 h3 ih =>
    intro j v q
    cases j with
    | zero => simp at q; subst q; exact ⟨u0, rfl, .inl ⟨i, rfl, h1, h2⟩⟩
    | succ j => simpa using ih (by simpa using q)
  | @fz e u0 v0 us vs es h1 h2 h3 ih =>
    intro j v q
    cases j with
    | zero =>
      simp at q; subst q
      exact ⟨u0, rfl, .inr ⟨fun i q => (by simp at q; subst q; cases h1), h2⟩⟩
    | succ j => simpa using ih (by simpa using q)
theorem snd_As : ∀ (es : List Expr) (es' : List Ex), All2 (ArgM W X Wx r) es es' → ∀ (Z : Addr → Prop) (σ : L2.St) (H : Hp) (ρ : Env) (Fs : Nat → List Addr) (Q : List V → Hp → Prop), RelE W H Z σ ρ Fs → evAs r es' ρ ≠ .stuck →
    (∀ vs ρ', evAs r es' ρ = .ok vs ρ' → ∀ us H' Z' Fs', Nxt W H Z Fs σ ρ' H' Z' Fs' → AsR W H' Z' σ ρ' us vs es' → Q us H') → Exd W Wx H Z Fs σ (evAs r es' ρ) → BEs X es σ H Q := by
  intro es
  induction es with
  | nil =>
    intro es' A Z σ H ρ Fs Q R ns hk hx
    cases es' with
    | nil => exact hk [] ρ rfl [] H Z Fs (.refl R) .nil
    | cons _ _ => exact A.elim
  | cons e es ih =>
    intro es' A Z σ H ρ Fs Q R ns hk hx
    cases es' with
    | nil => exact A.elim
    | cons e' es' =>
      obtain ⟨A1, A2⟩ := A
      cases hm : isMt e' with
      | true =>
        obtain ⟨i, rfl⟩ := isMt_is hm
        obtain ⟨x, pos, rfl, v⟩ := A1
        obtain ⟨w0, hw0⟩ : ∃ w, ρ[i]? = some (some w) := by
          cases h : ρ[i]? with
          | none =>
            have e0 : evAs r (.mt i :: es') ρ = .stuck := by
              show (match ρ[i]? with | some (some _) => _ | _ => Out.stuck) = _
              rw [h]
            exact absurd e0 ns
          | some w =>
            cases w with
            | none =>
              have e0 : evAs r (.mt i :: es') ρ = .stuck := by
                show (match ρ[i]? with | some (some _) => _ | _ => Out.stuck) = _
                rw [h]
              exact absurd e0 ns
            | some w => exact ⟨w, rfl⟩
        have e1 : evAs r (.mt i :: es') ρ = (evAs r es' ρ).bind fun vs ρ => match ρ[i]? with | some (some v) => .ok (v :: vs) ρ | _ => .stuck := by
          show (match ρ[i]? with | some (some _) => _ | _ => Out.stuck) = _
          simp only [hw0]
          all_goals rfl
        rw [e1] at ns hk hx
        obtain ⟨u, hu, _⟩ := R.val i w0 hw0
        refine BE.var v hu (ih es' A2 Z σ H ρ Fs _ R (Out.bind_ns ns) (fun vs ρ1 q us H1 Z1 Fs1 n a => ?_) hx.fst)
        obtain ⟨w1, hw1⟩ : ∃ w, ρ1[i]? = some (some w) := by
          have e2 := bind_ok (f := fun vs (ρ : Env) => match ρ[i]? with | some (some v) => Out.ok (v :: vs) ρ | _ => .stuck) q
          rw [e2] at ns
          cases h : ρ1[i]? with
          | none => simp only [h] at ns; exact absurd rfl ns
          | some w =>
            cases w with
            | none => simp only [h] at ns; exact absurd rfl ns
            | some w => exact ⟨w, rfl⟩
        refine hk (w1 :: vs) ρ1 ?_ (u :: us) H1 Z1 Fs1 n (.mt hu hw1 a)
        rw [bind_ok q]
        simp only [hw1]
      | false =>
        have s := argM_of hm A1
        have e1 : evAs r (e' :: es') ρ = (r.e e' ρ).bind fun v ρ => (evAs r es' ρ).bind fun vs ρ => .ok (v.frz :: vs) ρ := by
          cases e' <;> first | rfl | cases hm
        rw [e1] at ns hk hx
        refine s.bind R ns hx fun v ρ1 u H1 Z1 Fs1 F q n nv ns1 hx1 => ?_
        have n1 := n.frz nv
        have rv := nv.v.frzV
        have hx2 : Exd W Wx H1 (zor Z1 F) Fs1 σ (evAs r es' ρ1) := by
          intro c fs ρ' q2 cls d H' Z' Fs' n' x
          exact hx c fs ρ' (by rw [bind_ok q, q2]; rfl) cls d H' Z' Fs' (n1.trans n') x
        refine ih es' A2 (zor Z1 F) σ H1 ρ1 Fs1 _ n1.r (Out.bind_ns ns1) (fun vs ρ2 q2 us H2 Z2 Fs2 n2 a => ?_) hx2
        exact hk (v.frz :: vs) ρ2 (by rw [bind_ok q, bind_ok q2]) (u :: us) H2 Z2 Fs2 (n1.trans n2) (.fz hm (rv.ext n2.e n1.r.own fun a m => by cases m) a)
/-- what the callee's parameters own -/
def Fsc (es : List Ex) (Fs : Nat → List Addr) : Nat → List Addr := fun j => match es[j]? with
  | some (Ex.mt i) => Fs i
  | _ => []
theorem Fsc_mt {es : List Ex} {Fs : Nat → List Addr} {j i : Nat} (h : es[j]? = some (Ex.mt i)) : Fsc es Fs j = Fs i := by unfold Fsc; rw [h]
theorem Fsc_no {es : List Ex} {Fs : Nat → List Addr} {j : Nat} (h : ∀ i, es[j]? ≠ some (Ex.mt i)) : Fsc es Fs j = [] := by
  unfold Fsc
  split
  · rename_i i q; exact absurd q (h i)
  · rfl
theorem mem_Fsc {es : List Ex} {Fs : Nat → List Addr} {j : Nat} {a : Addr} (h : a ∈ Fsc es Fs j) : ∃ i, es[j]? = some (Ex.mt i) ∧ a ∈ Fs i := by
  unfold Fsc at h
  split at h
  · rename_i i q; exact ⟨i, q, h⟩
  · cases h
theorem AsR.rel {H : Hp} {Z : Addr → Prop} {σ : L2.St} {ρ : Env} {Fs : Nat → List Addr} {us : List V} {vs : List Val} {es : List Ex} (h : AsR W H Z σ ρ us vs es) (R : RelE W H Z σ ρ Fs) (one : ∀ (j j' i i' : Nat), es[j]? = some (Ex.mt i) → es[j']? = some (Ex.mt i') → j = j') :
    RelE W H Z (us.map some) (vs.map some) (Fsc es Fs) := by
  have hl := h.len
  refine ⟨by simp [hl.1, hl.2], fun j v q => ?_, fun j q => ?_, fun j j' a h1 h2 => ?_, R.zok⟩
  · have q' : vs[j]? = some v := by
      rw [List.getElem?_map] at q
      cases hv : vs[j]? with
      | none => rw [hv] at q; cases q
      | some w => rw [hv] at q; cases q; rfl
    obtain ⟨u, hu, c⟩ := h.get q'
    refine ⟨u, by rw [List.getElem?_map, hu]; rfl, ?_⟩
    rcases c with ⟨i, c1, c2, c3⟩ | ⟨c1, c2⟩
    · rw [Fsc_mt c1]
      obtain ⟨u', hu', rv⟩ := R.val i v c3
      rw [c2] at hu'; cases hu'
      exact rv
    · rw [Fsc_no c1]; exact c2
  · refine Fsc_no fun i c => ?_
    have hj : j < es.length := (List.getElem?_eq_some_iff.mp c).1
    have hj2 : j < vs.length := by rw [hl.2]; exact hj
    exact q vs[j] (by rw [List.getElem?_map, List.getElem?_eq_getElem hj2]; rfl)
  · obtain ⟨i, c1, _⟩ := mem_Fsc h1
    obtain ⟨i', c2, _⟩ := mem_Fsc h2
    exact one j j' i i' c1 c2
/-- behind the call: the slots of the caller -/
theorem call_back {H1 H2 : Hp} {Z1 Z2 : Addr → Prop} {σ : L2.St} {ρ1 ρ2 : Env} {Fs1 Fs' : Nat → List Addr} {us : List V} {vs : List Val} {es : List Ex} {io : List Nat} {outs : List Val} {np : Nat} (R : RelE W H1 Z1 σ ρ1 Fs1) (A : AsR W H1 Z1 σ ρ1 us vs es) (hmt : mtOk es io = true)
    (C : Nxt W H1 Z1 (Fsc es Fs1) (us.map some) (outEnv np io outs) H2 Z2 Fs') (hb : backAs es outs ρ1 = some ρ2) (hnp : es.length = np) :
    ∃ Fs2, Nxt W H1 Z1 Fs1 σ ρ2 H2 Z2 Fs2 ∧ ∀ a, Ow Fs2 a → (Ow Fs1 a ∧ ¬ Ow (Fsc es Fs1) a) ∨ Ow Fs' a := by
  have sub : ∀ a, Ow (Fsc es Fs1) a → Ow Fs1 a := fun a ⟨j, m⟩ => by
    obtain ⟨i, _, m'⟩ := mem_Fsc m
    exact ⟨i, m'⟩
  have ownC : Own H1 Z1 (Ow (Fsc es Fs1)) := fun a h => R.own a (sub a h)
  rcases mtOk_io hmt with ⟨rfl, hn⟩ | ⟨j0, rfl, h1⟩
  · obtain ⟨rfl, rfl⟩ := noMt_back es hn _ _ _ hb
    have no : ∀ a, ¬ Ow (Fsc es Fs1) a := fun a ⟨j, m⟩ => by
      obtain ⟨i, q, _⟩ := mem_Fsc m
      exact noMt_get es hn j i q
    refine ⟨Fs1, ⟨⟨fun a o h _ => C.e.pres a o h (no a), C.e.zm, fun a h => ?_, C.e.keep, fun a h => .inr h, C.e.zt⟩, R.ext C.e ownC fun a _ => no a⟩, fun a h => .inl ⟨h, no a⟩⟩
    rcases C.e.zf a h with q | q | q
    · exact .inl q
    · exact .inr (.inl q)
    · exact absurd q (no a)
  · obtain ⟨i0, g1, g2, g3⟩ := mtOk_one es j0 h1
    obtain ⟨o, rfl, rfl⟩ := g3 _ _ _ hb
    have onlyC : ∀ a, Ow (Fsc es Fs1) a → a ∈ Fs1 i0 := fun a ⟨j, m⟩ => by
      obtain ⟨i, q, m'⟩ := mem_Fsc m
      have := g2 j i q; subst this
      rw [g1] at q; cases q; exact m'
    have hj0 : j0 < np := by rw [← hnp]; exact (List.getElem?_eq_some_iff.mp g1).1
    -- what the callee owns at its end
    have only' : ∀ a, Ow Fs' a → a ∈ Fs' j0 := fun a ⟨j, m⟩ => by
      by_cases hj : j = j0
      · subst hj; exact m
      · have : Fs' j = [] := C.r.nov j fun v q => by
          have q' : ((List.replicate np none).set j0 (some o) : Env)[j]? = some (some v) := q
          rw [List.getElem?_set_ne (Ne.symm hj), List.getElem?_replicate] at q'
          split at q' <;> cases q'
        rw [this] at m; cases m
    obtain ⟨u, hu, rvo⟩ := C.r.val j0 o (by show ((List.replicate np none).set j0 (some o) : Env)[j0]? = _; rw [List.getElem?_set_self (by simpa using hj0)])
    obtain ⟨v0, hv0⟩ : ∃ v0, vs[j0]? = some v0 := ⟨vs[j0]'(by rw [A.len.2, hnp]; exact hj0), by rw [List.getElem?_eq_getElem]⟩
    obtain ⟨u', hu', cc⟩ := A.get hv0
    have hu2 : u' = u := by
      rw [List.getElem?_map, hu'] at hu
      exact Option.some.inj (Option.some.inj hu)
    subst hu2
    obtain ⟨hσ, hρ⟩ : σ[i0]? = some (some u') ∧ ρ1[i0]? = some (some v0) := by
      rcases cc with ⟨i, c1, c2, c3⟩ | ⟨c1, _⟩
      · rw [g1] at c1; cases c1; exact ⟨c2, c3⟩
      · exact absurd g1 (c1 i0)
    have hi0 : i0 < ρ1.length := (List.getElem?_eq_some_iff.mp hρ).1
    have offC : ∀ {i a}, i ≠ i0 → a ∈ Fs1 i → ¬ Ow (Fsc es Fs1) a := fun {i a} hi m q => hi (R.dis i i0 a m (onlyC a q))
    have off' : ∀ {i a}, i ≠ i0 → a ∈ Fs1 i → ¬ a ∈ Fs' j0 := fun {i a} hi m q => by
      rcases C.e.ofr a ⟨j0, q⟩ with z | z
      · exact own_ne R.own a ⟨i, m⟩ z
      · exact offC hi m z
    have R2 : RelE W H2 Z2 σ (ρ1.set i0 (some o)) (updF Fs1 i0 (Fs' j0)) := by
      refine ⟨by rw [List.length_set]; exact R.len, fun i v q => ?_, fun i h => ?_, fun i k a m1 m2 => ?_, C.e.zt⟩
      · by_cases hi : i = i0
        · subst hi
          rw [List.getElem?_set_self hi0] at q; cases q
          exact ⟨u', hσ, by rw [updF_same]; exact rvo⟩
        · rw [List.getElem?_set_ne (Ne.symm hi)] at q
          obtain ⟨u2, e2, rv2⟩ := R.val i v q
          refine ⟨u2, e2, ?_⟩
          rw [updF_ne hi]
          exact rv2.ext C.e ownC fun a m => offC hi m
      · by_cases hi : i = i0
        · subst hi; exact absurd (by rw [List.getElem?_set_self hi0]) (h o)
        · rw [updF_ne hi]
          exact R.nov i fun w q => h w (by rw [List.getElem?_set_ne (Ne.symm hi)]; exact q)
      · by_cases hi : i = i0
        · by_cases hk : k = i0
          · rw [hi, hk]
          · subst hi; rw [updF_same] at m1; rw [updF_ne hk] at m2; exact absurd m1 (off' hk m2)
        · by_cases hk : k = i0
          · subst hk; rw [updF_same] at m2; rw [updF_ne hi] at m1; exact absurd m2 (off' hi m1)
          · rw [updF_ne hi] at m1; rw [updF_ne hk] at m2; exact R.dis i k a m1 m2
    refine ⟨updF Fs1 i0 (Fs' j0), ⟨⟨fun a o h n => C.e.pres a o h fun q => n (sub a q), C.e.zm, fun a h => ?_, C.e.keep, fun a h => ?_, C.e.zt⟩, R2⟩, fun a ⟨i, m⟩ => ?_⟩
    · rcases C.e.zf a h with q | q | q
      · exact .inl q
      · exact .inr (.inl q)
      · exact .inr (.inr (sub a q))
    · rcases ow_upd h with q | q
      · rcases C.e.ofr a ⟨j0, q⟩ with z | z
        · exact .inl z
        · exact .inr (sub a z)
      · exact .inr q
    · by_cases hi : i = i0
      · subst hi; rw [updF_same] at m; exact .inr ⟨j0, m⟩
      · rw [updF_ne hi] at m; exact .inl ⟨⟨i, m⟩, offC hi m⟩
end
end EV
end SCall1
section SCall2
set_option Elab.async false
set_option linter.all false
set_option maxRecDepth 100000
set_option maxHeartbeats 1000000
namespace EV
open PySem PySem.Spec PyProof.Rows L2
/-- what a def promises that answers as cl says -/
def spEv (W : Wd) (np : Nat) (io : List Nat) (cl : List Val → CRes) : Sp := fun us H Q E => us.length = np ∧ ∃ (vs : List Val) (Fs : Nat → List Addr) (Z : Addr → Prop), RelE W H Z (us.map some) (vs.map some) Fs ∧ cl vs ≠ .stuck ∧
  (∀ v outs, cl vs = .ret v outs → ∀ u H' Z' Fs' F, Nxt W H Z Fs (us.map some) (outEnv np io outs) H' Z' Fs' → NV W H Fs H' Z' Fs' u v F → Q u H') ∧
  (∀ c fs outs, cl vs = .exc c fs outs → ∀ cls d H' Z' Fs', Nxt W H Z Fs (us.map some) (outEnv np io outs) H' Z' Fs' → ExcR W H' Z' c fs cls d → E cls d H')
section
variable {W : Wd} {X : Cx} {Wx : WX} {r : Rec}
theorem snd_call {k f np : Nat} {io : List Nat} {cl : Nat → List Val → CRes} {es : List Expr} {es' : List Ex} {x : Str} {p pos : Pos} (tk : Takes X Wx) (A : All2 (ArgM W X Wx r) es es') (hmt : mtOk es' io = true) (hnp : es'.length = np) (F : FnG X.prog X.w X.K X.mg X.base k (W.fA f) (spEv W np io (cl f)))
    (hr : Room k X.A) (hg : X.A.guards = some []) (hgl : Gl X x) (hm : X.mg x = some (.ref (W.fA f))) (hk : PySem.W.keepIn X.K (.ref (W.fA f)) = true) (hdb : (x == ("__debug__" : Str)) = false) (hs : es.all noStar = true) :
    SndE W X Wx (.Call (.Name x p) es [] pos) (fun ρ => (evAs r es' ρ).bind fun vs ρ => afterCall es' (cl f vs) ρ) := by
  intro Z σ H ρ Fs Q R ns hk' hx
  dsimp only at ns hk' hx
  refine callG F hr hg hgl hm hk hdb hs (pas_of tk σ) (snd_As es es' A Z σ H ρ Fs _ R (Out.bind_ns ns) (fun vs ρ1 q us H1 Z1 Fs1 n a => ?_) hx.fst)
  rw [bind_ok q] at ns hk' hx
  have one : ∀ (j j' i i' : Nat), es'[j]? = some (Ex.mt i) → es'[j']? = some (Ex.mt i') → j = j' := by
    intro j j' i i' h1 h2
    rcases mtOk_io hmt with ⟨_, h⟩ | ⟨j0, _, h⟩
    · exact absurd h1 (noMt_get es' h j i)
    · obtain ⟨_, _, h3, _⟩ := mtOk_one es' j0 h
      rw [h3 j i h1, h3 j' i' h2]
  refine ⟨a.len.1.trans hnp, vs, Fsc es' Fs1, Z1, a.rel n.r one, fun z => ns (by rw [z]; rfl), fun v outs e u H2 Z2 Fs2 F2 c nv => ?_, fun c fs outs e cls d H2 Z2 Fs2 C x => ?_⟩
  · rw [e] at ns hk'
    have ns' : (match backAs es' outs ρ1 with | some ρ => Out.ok v ρ | none => .stuck) ≠ .stuck := ns
    cases hb : backAs es' outs ρ1 with
    | none => rw [hb] at ns'; exact absurd rfl ns'
    | some ρ2 =>
      obtain ⟨Fs3, n3, h3⟩ := call_back n.r a hmt c hb hnp
      refine hk' v ρ2 (by show (match backAs es' outs ρ1 with | some ρ => Out.ok v ρ | none => .stuck) = _; rw [hb]) u H2 Z2 Fs3 F2 (n.trans n3) (NV.trans n ⟨nv.v, fun b m q => ?_, fun b m => ?_⟩)
      · rcases h3 b q with ⟨q1, q2⟩ | q1
        · rcases nv.o b m with z | z
          · exact own_ne n.r.own b q1 z
          · exact q2 z
        · exact nv.d b m q1
      · rcases nv.o b m with z | ⟨j, z⟩
        · exact .inl z
        · obtain ⟨i, _, z'⟩ := mem_Fsc z
          exact .inr ⟨i, z'⟩
  · rw [e] at ns hx
    have ns' : (match backAs es' outs ρ1 with | some ρ => (Out.exc c fs ρ : Out Val) | none => .stuck) ≠ .stuck := ns
    cases hb : backAs es' outs ρ1 with
    | none => rw [hb] at ns'; exact absurd rfl ns'
    | some ρ2 =>
      obtain ⟨Fs3, n3, h3⟩ := call_back n.r a hmt C hb hnp
      exact hx c fs ρ2 (by show (match backAs es' outs ρ1 with | some ρ => (Out.exc c fs ρ : Out Val) | none => .stuck) = _; rw [hb]) cls d H2 Z2 Fs3 (n.trans n3) x
end
/-! ### a def answers as the evaluator says -/
section
variable {W : Wd}
theorem getElem_app {α : Type} {xs : List α} {n i : Nat} {v : α} (h : (xs.map some ++ List.replicate n none)[i]? = some (some v)) : xs[i]? = some v := by
  by_cases hi : i < xs.length
  · rw [List.getElem?_append_left (by simpa using hi), List.getElem?_map] at h
    cases e : xs[i]? with
    | none => rw [e] at h; cases h
    | some w => rw [e] at h; cases h; rfl
  · rw [List.getElem?_append_right (by simpa using Nat.le_of_not_lt hi), List.getElem?_replicate] at h
    split at h <;> cases h
theorem map_some_get {α : Type} {xs : List α} {i : Nat} {v : α} (h : xs[i]? = some v) : (xs.map some)[i]? = some (some v) := by rw [List.getElem?_map, h]; rfl
theorem RelE.begin {H : Hp} {Z : Addr → Prop} {us : List V} {vs : List Val} {Fs : Nat → List Addr} {n : Nat} (R : RelE W H Z (us.map some) (vs.map some) Fs) : RelE W H Z (us.map some ++ List.replicate n none) (vs.map some ++ List.replicate n none) Fs := by
  have hl : us.length = vs.length := by have := R.len; simpa using this
  refine ⟨by simp [hl], fun i v q => ?_, fun i h => ?_, R.dis, R.zok⟩
  · have q1 := getElem_app q
    obtain ⟨u, hu, rv⟩ := R.val i v (map_some_get q1)
    exact ⟨u, by rw [List.getElem?_append_left (List.getElem?_eq_some_iff.mp hu).1]; exact hu, rv⟩
  · refine R.nov i fun v q => h v ?_
    rw [List.getElem?_append_left (List.getElem?_eq_some_iff.mp q).1]; exact q
/-- what the parameters hold at the end -/
theorem Nxt.fin {H H' : Hp} {Z Z' : Addr → Prop} {us : List V} {vs : List Val} {Fs Fs' : Nat → List Addr} {n : Nat} {σ' : L2.St} {ρ' : Env} {io : List Nat} {outs : List Val} (hlen : us.length = vs.length)
    (N : Nxt W H Z Fs σ' ρ' H' Z' Fs') (p : Pin io (us.map some ++ List.replicate n none) σ') (ho : outsOf io ρ' = some outs) (hio : ∀ j ∈ io, j < vs.length) (h1 : io.length ≤ 1) :
    ∃ Fs2, Nxt W H Z Fs (us.map some) (outEnv us.length io outs) H' Z' Fs2 ∧ ∀ a, Ow Fs2 a → Ow Fs' a := by
  have nil : ∀ {o : List Val}, outEnv us.length [] o = List.replicate us.length none := fun {o} => by cases o <;> rfl
  have e2 : ∀ {O2 : Addr → Prop}, (∀ a, O2 a → Ow Fs' a) → Ext H H' Z Z' (Ow Fs) O2 := fun {O2} h => ⟨N.e.pres, N.e.zm, N.e.zf, N.e.keep, fun a q => N.e.ofr a (h a q), N.e.zt⟩
  match io, h1 with
  | [], _ =>
    refine ⟨fun _ => [], ⟨e2 fun a ⟨_, m⟩ => (by cases m), ?_⟩, fun a ⟨_, m⟩ => (by cases m)⟩
    rw [nil]
    refine ⟨by simp, fun i v q => ?_, fun _ _ => rfl, fun _ _ _ m => (by cases m), N.e.zt⟩
    rw [List.getElem?_replicate] at q
    split at q <;> cases q
  | [j], _ =>
    have hj : j < vs.length := hio j List.mem_cons_self
    have hju : j < us.length := by omega
    obtain ⟨o, hρ, rfl⟩ : ∃ o, ρ'[j]? = some (some o) ∧ outs = [o] := by
      unfold outsOf at ho
      cases h : ρ'[j]? with
      | none => simp [h] at ho
      | some w =>
        cases w with
        | none => simp [h] at ho
        | some w => simp [h] at ho; exact ⟨w, rfl, ho.symm⟩
    obtain ⟨u, hu, rv⟩ := N.r.val j o hρ
    have pu := p j List.mem_cons_self
    rw [hu, List.getElem?_append_left (by simpa using hju)] at pu
    refine ⟨updF (fun _ => []) j (Fs' j), ⟨e2 fun a ⟨i, m⟩ => ?_, ?_⟩, fun a ⟨i, m⟩ => ?_⟩
    · by_cases hi : i = j
      · subst hi; rw [updF_same] at m; exact ⟨_, m⟩
      · rw [updF_ne hi] at m; cases m
    · show RelE W H' Z' (us.map some) ((List.replicate us.length none).set j (some o)) _
      refine ⟨by simp, fun i v q => ?_, fun i h => ?_, fun i k a m1 m2 => ?_, N.e.zt⟩
      · by_cases hi : i = j
        · subst hi
          rw [List.getElem?_set_self (by simpa using hju)] at q; cases q
          exact ⟨u, pu.symm, by rw [updF_same]; exact rv⟩
        · rw [List.getElem?_set_ne (Ne.symm hi), List.getElem?_replicate] at q
          split at q <;> cases q
      · by_cases hi : i = j
        · subst hi; exact absurd (by rw [List.getElem?_set_self (by simpa using hju)]) (h o)
        · rw [updF_ne hi]
      · by_cases hi : i = j
        · by_cases hk : k = j
          · rw [hi, hk]
          · rw [updF_ne hk] at m2; cases m2
        · rw [updF_ne hi] at m1; cases m1
    · by_cases hi : i = j
      · subst hi; rw [updF_same] at m; exact ⟨_, m⟩
      · rw [updF_ne hi] at m; cases m
def finC (io : List Nat) (o : Out Fl) : CRes :=
  match o with
  | .ok (.rt v) ρ => (match outsOf io ρ with | some o => .ret v o | none => .stuck)
  | .ok .nx ρ => (match outsOf io ρ with | some o => .ret (.dat .none) o | none => .stuck)
  | .exc c fs ρ => (match outsOf io ρ with | some o => .exc c fs o | none => .stuck)
  | _ => .stuck
theorem evL_eq {cls : Nat → Nat → Bool} {tbl : List Fn} {l f : Nat} {fn : Fn} {vs : List Val} (h : tbl[f]? = some fn) (hl : vs.length = fn.np) : evL cls tbl (l + 1) f vs = finC fn.io (evSs (evF cls (evL cls tbl l) FUEL) fn.body (vs.map some ++ List.replicate (fn.ns - fn.np) none)) := by
  show (match tbl[f]? with | none => CRes.stuck | some fn => if vs.length = fn.np then _ else .stuck) = _
  rw [h]
  show (if vs.length = fn.np then _ else CRes.stuck) = _
  rw [if_pos hl]
  rfl
theorem fnG_ev {P : Program} {w : World} {K : PySem.W.Frag} {mg : Str → Option Value} {base : Heap} {x qual : Str} {st : Stmt} {f : Addr} {fd : FuncData} {N ps : List Str} {k fi l : Nat} {fn : Fn} {cls : Nat → Nat → Bool} {tbl : List Fn} (F : L2.Fun K x qual st f fd) (S : FnScope N ps (defScope st)) (hb : BindsBy fd ps)
    (ht : tbl[fi]? = some fn) (hnp : ps.length = fn.np) (hns : N.length = fn.ns) (hio : ∀ j ∈ fn.io, j < fn.np) (h1 : fn.io.length ≤ 1)
    (body : ∀ (cdv : Value) (A : Around) (outer : List PySem.Env) (s : Shared) (H : Hp) (E : XK), Room k (A.deeper (envOfC qual (defScope st) s.heap.objs.size f cdv)) → (A.deeper (envOfC qual (defScope st) s.heap.objs.size f cdv)).guards = some [] →
      SndSs W (cxOf (L2.CX P w) P w K mg base N qual (defScope st) f cdv A outer s H E) (fun cl d _ H' => E cl d H') fn.io (defBody st) (evSs (evF cls (evL cls tbl l) FUEL) fn.body)) :
    FnG P w K mg base (k + 1) f (spEv W fn.np fn.io (evL cls tbl (l + 1) fi)) := by
  refine fnG_of F S hb (fun vs H Q E h => h.1.trans hnp.symm) fun cdv A outer s H us Q E hr hg hsp => ?_
  obtain ⟨hus, vs, Fs, Z, R, ns, hret, hexc⟩ := hsp
  have hlen : us.length = vs.length := by have := R.len; simpa using this
  have hvs : vs.length = fn.np := by omega
  rw [evL_eq ht hvs] at ns
  have e1 : L2.start N us = us.map some ++ List.replicate (fn.ns - fn.np) none := by
    unfold L2.start; rw [hns, hus]
  rw [e1]
  have R0 := R.begin (n := fn.ns - fn.np)
  have hio' : ∀ j ∈ fn.io, j < vs.length := fun j m => by rw [hvs]; exact hio j m
  refine body cdv A outer s H E hr hg Z _ H _ Fs _ R0 (fun z => ns (by rw [z]; rfl)) (fun fl ρ' q σ' H' Z' Fs' n p => ?_) (fun c fs ρ' q cl d σ' H' Z' Fs' n p x => ?_)
  · rw [q] at ns
    cases fl with
    | nx =>
      have ns' : (match outsOf fn.io ρ' with | some o => CRes.ret (.dat .none) o | none => .stuck) ≠ .stuck := ns
      cases ho : outsOf fn.io ρ' with
      | none => rw [ho] at ns'; exact absurd rfl ns'
      | some outs =>
        obtain ⟨Fs2, n2, h2⟩ := n.fin hlen p ho hio' h1
        rw [hus] at n2
        refine hret (.dat .none) outs ?_ .non H' Z' Fs2 [] n2 ⟨.dat .non, fun _ m => (by cases m), fun _ m => (by cases m)⟩
        rw [evL_eq ht hvs, q]
        show (match outsOf fn.io ρ' with | some o => CRes.ret (.dat .none) o | none => .stuck) = _
        rw [ho]
    | rt v =>
      have ns' : (match outsOf fn.io ρ' with | some o => CRes.ret v o | none => .stuck) ≠ .stuck := ns
      cases ho : outsOf fn.io ρ' with
      | none => rw [ho] at ns'; exact absurd rfl ns'
      | some outs =>
        obtain ⟨Fs2, n2, h2⟩ := n.fin hlen p ho hio' h1
        rw [hus] at n2
        intro u F2 nv
        refine hret v outs ?_ u H' Z' Fs2 F2 n2 ⟨nv.v, fun a m q => nv.d a m (h2 a q), nv.o⟩
        rw [evL_eq ht hvs, q]
        show (match outsOf fn.io ρ' with | some o => CRes.ret v o | none => .stuck) = _
        rw [ho]
    | bk => exact absurd rfl ns
    | ct => exact absurd rfl ns
  · rw [q] at ns
    have ns' : (match outsOf fn.io ρ' with | some o => CRes.exc c fs o | none => .stuck) ≠ .stuck := ns
    cases ho : outsOf fn.io ρ' with
    | none => rw [ho] at ns'; exact absurd rfl ns'
    | some outs =>
      obtain ⟨Fs2, n2, h2⟩ := n.fin hlen p ho hio' h1
      rw [hus] at n2
      refine hexc c fs outs ?_ cl d H' Z' Fs2 n2 x
      rw [evL_eq ht hvs, q]
      show (match outsOf fn.io ρ' with | some o => CRes.exc c fs o | none => .stuck) = _
      rw [ho]
end
end EV
end SCall2
section SSnd13
set_option Elab.async false
set_option linter.all false
set_option maxRecDepth 100000
set_option maxHeartbeats 1000000
namespace EV
open PySem PySem.Spec PyProof.Rows L2
/-! ### list comprehensions -/
def BTs (X : Cx) (ifs : List Expr) : TT := fun σ H Q => ∀ pins s, Inv X pins σ H s →
  wpAny (model X.prog X.w) X.A (forIn ifs true fun c r => if r = true then do let ok ← isTrue c X.env (eval c X.env); pure (ForInStep.yield ok) else pure (ForInStep.yield r)) (TP X pins σ Q) X.xe s
theorem BTs.pts {X : Cx} {ifs : List Expr} : PTs X ifs (BTs X ifs) := ⟨fun pins s _ _ _ I h => h pins s I⟩
theorem BTs.of {X : Cx} {ifs : List Expr} {t : TT} (h : PTs X ifs t) {σ : L2.St} {H : Hp} {Q : Bool → Hp → Prop} (q : t σ H Q) : BTs X ifs σ H Q := fun pins s I => h.run pins s σ H Q I q
def SndTs (W : Wd) (X : Cx) (Wx : WX) (ifs : List Expr) (f : Env → Out Bool) : Prop :=
  ∀ (Z : Addr → Prop) (σ : L2.St) (H : Hp) (ρ : Env) (Fs : Nat → List Addr) (Q : Bool → Hp → Prop), RelE W H Z σ ρ Fs → f ρ ≠ .stuck →
    (∀ b ρ', f ρ = .ok b ρ' → ∀ H' Z' Fs', Nxt W H Z Fs σ ρ' H' Z' Fs' → Q b H') → Exd W Wx H Z Fs σ (f ρ) → BTs X ifs σ H Q
abbrev W0 : WX := fun _ _ _ _ => False
theorem wipeE_len : ∀ (own : List Nat) (ρ : Env), (wipeE ρ own).length = ρ.length
  | [], _ => rfl
  | i :: own, ρ => by
    show (wipeE (ρ.set i none) own).length = _
    rw [wipeE_len own, List.length_set]
theorem wipeE_out {j : Nat} : ∀ (own : List Nat) (ρ : Env), j ∉ own → (wipeE ρ own)[j]? = ρ[j]?
  | [], _, _ => rfl
  | i :: own, ρ, h => by
    show (wipeE (ρ.set i none) own)[j]? = _
    rw [wipeE_out own _ fun m => h (List.mem_cons_of_mem _ m), List.getElem?_set_ne fun e => h (by rw [e]; exact List.mem_cons_self)]
theorem wipeE_in {j : Nat} : ∀ (own : List Nat) (ρ : Env), (j ∈ own ∨ ∀ v, ρ[j]? ≠ some (some v)) → ∀ v, (wipeE ρ own)[j]? ≠ some (some v)
  | [], ρ, h, v => by
    rcases h with h | h
    · cases h
    · exact h v
  | i :: own, ρ, h, v => by
    refine wipeE_in own (ρ.set i none) ?_ v
    rcases h with h | h
    · rcases List.mem_cons.mp h with rfl | h
      · right
        intro w q
        by_cases hl : j < ρ.length
        · rw [List.getElem?_set_self hl] at q; cases q
        · rw [List.getElem?_eq_none (by simpa using hl)] at q; cases q
      · exact .inl h
    · right
      intro w q
      by_cases hj : i = j
      · subst hj
        by_cases hl : i < ρ.length
        · rw [List.getElem?_set_self hl] at q; cases q
        · rw [List.getElem?_eq_none (by simpa using hl)] at q; cases q
      · rw [List.getElem?_set_ne hj] at q; exact h w q
theorem backE_len (ρ0 : Env) : ∀ (own : List Nat) (ρ : Env), (backE ρ0 ρ own).length = ρ.length
  | [], _ => rfl
  | i :: own, ρ => by
    show (backE ρ0 (ρ.set i _) own).length = _
    rw [backE_len ρ0 own, List.length_set]
theorem backE_out {ρ0 : Env} {j : Nat} : ∀ (own : List Nat) (ρ : Env), j ∉ own → (backE ρ0 ρ own)[j]? = ρ[j]?
  | [], _, _ => rfl
  | i :: own, ρ, h => by
    show (backE ρ0 (ρ.set i _) own)[j]? = _
    rw [backE_out own _ fun m => h (List.mem_cons_of_mem _ m), List.getElem?_set_ne fun e => h (by rw [e]; exact List.mem_cons_self)]
theorem backE_in {ρ0 : Env} {j : Nat} : ∀ (own : List Nat) (ρ : Env), ρ0.length = ρ.length → (j ∈ own ∨ ρ[j]? = ρ0[j]?) → (backE ρ0 ρ own)[j]? = ρ0[j]?
  | [], ρ, _, h => by
    rcases h with h | h
    · cases h
    · exact h
  | i :: own, ρ, hl, h => by
    refine backE_in own (ρ.set i (ρ0[i]?.getD none)) (by rw [List.length_set]; exact hl) ?_
    by_cases hj : i = j
    · subst hj
      right
      by_cases hi : i < ρ.length
      · rw [List.getElem?_set_self hi, List.getElem?_eq_getElem (by omega)]; rfl
      · rw [List.getElem?_eq_none (by simpa using hi), List.getElem?_eq_none (by omega)]
    · rcases h with h | h
      · rcases List.mem_cons.mp h with rfl | h
        · exact absurd rfl hj
        · exact .inl h
      · right; rw [List.getElem?_set_ne hj]; exact h
/-- the slots that are not the block's own -/
def pinC (n : Nat) (own : List Nat) : List Nat := (List.range n).filter fun j => !own.contains j
theorem mem_pinC {n : Nat} {own : List Nat} {j : Nat} : j ∈ pinC n own ↔ j < n ∧ j ∉ own := by simp [pinC]
/-- what the slots own, the block's own left out -/
def outF (Fs : Nat → List Addr) (own : List Nat) : Nat → List Addr := fun j => if j ∈ own then [] else Fs j
/-- .. and taken in again -/
def mixF (Fs Fs' : Nat → List Addr) (own : List Nat) : Nat → List Addr := fun j => if j ∈ own then Fs j else Fs' j
section
variable {W : Wd} {X : Cx} {Wx : WX} {r : Rec} {pin : List Nat}
theorem snd_tests_nil : SndTs W X Wx [] (evTs r []) := fun Z σ H ρ Fs Q R ns hk hx => BTs.of pts_nil (hk true ρ rfl H Z Fs (.refl R))
theorem snd_tests_one {c : Expr} {c' : Ex} (s : SndT W X Wx c (evT r c')) : SndTs W X Wx [c] (evTs r [c']) := by
  intro Z σ H ρ Fs Q R ns hk hx
  have e0 : evTs r [c'] ρ = (evT r c' ρ).bind fun b ρ => cond b (.ok true ρ) (.ok false ρ) := rfl
  rw [e0] at ns hk hx
  refine BTs.of (pts_one BT.pt) (s.bind (g := fun b ρ => cond b (.ok true ρ) (.ok false ρ)) R ns hx fun b ρ1 H1 Z1 Fs1 q n ns1 hx1 => ?_)
  cases b with
  | true => exact hk true ρ1 (bind_ok q) H1 Z1 Fs1 n
  | false => exact hk false ρ1 (bind_ok q) H1 Z1 Fs1 n
theorem wipe_in {σ : L2.St} {j : Nat} : ∀ {vs : List Nat} {v : V}, j ∈ vs → (L2.wipe σ vs)[j]? ≠ some (some v) := fun {vs v} h q => (wipe_some q).2 h
/-- into the block -/
theorem RelE.into {H : Hp} {Z : Addr → Prop} {σ : L2.St} {ρ : Env} {Fs : Nat → List Addr} (own : List Nat) (R : RelE W H Z σ ρ Fs) : RelE W H Z (L2.wipe σ own) (wipeE ρ own) (outF Fs own) := by
  refine ⟨by rw [wipe_length, wipeE_len]; exact R.len, fun i v q => ?_, fun i h => ?_, fun i j a h1 h2 => ?_, R.zok⟩
  · by_cases hi : i ∈ own
    · exact absurd q (wipeE_in own ρ (.inl hi) v)
    · rw [wipeE_out own ρ hi] at q
      obtain ⟨u, h1, rv⟩ := R.val i v q
      exact ⟨u, by rw [wipe_out hi]; exact h1, by unfold outF; rw [if_neg hi]; exact rv⟩
  · unfold outF
    by_cases hi : i ∈ own
    · rw [if_pos hi]
    · rw [if_neg hi]
      exact R.nov i fun v q => h v (by rw [wipeE_out own ρ hi]; exact q)
  · unfold outF at h1 h2
    by_cases hi : i ∈ own
    · rw [if_pos hi] at h1; cases h1
    · by_cases hj : j ∈ own
      · rw [if_pos hj] at h2; cases h2
      · rw [if_neg hi] at h1; rw [if_neg hj] at h2; exact R.dis i j a h1 h2
theorem ow_out {Fs : Nat → List Addr} {own : List Nat} {a : Addr} (h : Ow (outF Fs own) a) : ∃ j, j ∉ own ∧ a ∈ Fs j := by
  obtain ⟨j, m⟩ := h
  unfold outF at m
  by_cases hj : j ∈ own
  · rw [if_pos hj] at m; cases m
  · rw [if_neg hj] at m; exact ⟨j, hj, m⟩
/-- .. and back -/
theorem Nxt.outOf {H H2 : Hp} {Z Z2 : Addr → Prop} {σ σ2 : L2.St} {ρ0 ρ ρ2 : Env} {Fs Fs2 : Nat → List Addr} {own : List Nat} (R : RelE W H Z σ ρ Fs) (h0 : ∀ j ∈ own, ρ0[j]? = ρ[j]?) (hl : ρ0.length = ρ.length)
    (n : Nxt W H Z (outF Fs own) σ2 ρ2 H2 Z2 Fs2) (p : Pin (pinC σ.length own) (L2.wipe σ own) σ2) (hl2 : ρ2.length = ρ.length) : Nxt W H Z Fs σ (backE ρ0 ρ2 own) H2 Z2 (mixF Fs Fs2 own) := by
  have sub : ∀ a, Ow (outF Fs own) a → Ow Fs a := fun a h => by
    obtain ⟨j, _, m⟩ := ow_out h
    exact ⟨j, m⟩
  have ownC : Own H Z (Ow (outF Fs own)) := fun a h => R.own a (sub a h)
  have off : ∀ {i a}, i ∈ own → a ∈ Fs i → ¬ Ow (outF Fs own) a := fun {i a} hi m q => by
    obtain ⟨j, hj, m'⟩ := ow_out q
    exact hj (by rw [← R.dis i j a m m']; exact hi)
  have off2 : ∀ {i a}, i ∈ own → a ∈ Fs i → ¬ Ow Fs2 a := fun {i a} hi m q => by
    rcases n.e.ofr a q with z | z
    · exact own_ne R.own a ⟨i, m⟩ z
    · exact off hi m z
  have ofr : ∀ a, Ow (mixF Fs Fs2 own) a → H a = none ∨ Ow Fs a := fun a ⟨i, m⟩ => by
    unfold mixF at m
    by_cases hi : i ∈ own
    · rw [if_pos hi] at m; exact .inr ⟨i, m⟩
    · rw [if_neg hi] at m
      rcases n.e.ofr a ⟨i, m⟩ with z | z
      · exact .inl z
      · exact .inr (sub a z)
  refine ⟨⟨fun a o h q => n.e.pres a o h fun z => q (sub a z), n.e.zm, fun a h => ?_, n.e.keep, ofr, n.e.zt⟩, ⟨by rw [backE_len, hl2]; exact R.len, fun i v q => ?_, fun i h => ?_, fun i j a m1 m2 => ?_, n.e.zt⟩⟩
  · rcases n.e.zf a h with z | z | z
    · exact .inl z
    · exact .inr (.inl z)
    · exact .inr (.inr (sub a z))
  · by_cases hi : i ∈ own
    · rw [backE_in own ρ2 (hl.trans hl2.symm) (.inl hi), h0 i hi] at q
      obtain ⟨u, h1, rv⟩ := R.val i v q
      exact ⟨u, h1, by unfold mixF; rw [if_pos hi]; exact rv.ext n.e ownC fun a m => off hi m⟩
    · rw [backE_out own ρ2 hi] at q
      obtain ⟨u, h1, rv⟩ := n.r.val i v q
      have hlt : i < σ.length := by rw [R.len, ← hl2]; exact (List.getElem?_eq_some_iff.mp q).1
      have := p i (mem_pinC.mpr ⟨hlt, hi⟩)
      rw [h1, wipe_out hi] at this
      exact ⟨u, this.symm, by unfold mixF; rw [if_neg hi]; exact rv⟩
  · unfold mixF
    by_cases hi : i ∈ own
    · rw [if_pos hi]
      exact R.nov i fun v q => h v (by rw [backE_in own ρ2 (hl.trans hl2.symm) (.inl hi), h0 i hi]; exact q)
    · rw [if_neg hi]
      exact n.r.nov i fun v q => h v (by rw [backE_out own ρ2 hi]; exact q)
  · unfold mixF at m1 m2
    by_cases hi : i ∈ own
    · by_cases hj : j ∈ own
      · rw [if_pos hi] at m1; rw [if_pos hj] at m2; exact R.dis i j a m1 m2
      · rw [if_pos hi] at m1; rw [if_neg hj] at m2; exact absurd ⟨j, m2⟩ (off2 hi m1)
    · by_cases hj : j ∈ own
      · rw [if_neg hi] at m1; rw [if_pos hj] at m2; exact absurd ⟨i, m1⟩ (off2 hj m2)
      · rw [if_neg hi] at m1; rw [if_neg hj] at m2; exact n.r.dis i j a m1 m2
end
end EV
end SSnd13
section SSnd14
set_option Elab.async false
set_option linter.all false
set_option maxRecDepth 100000
set_option maxHeartbeats 1000000
namespace EV
open PySem PySem.Spec PyProof.Rows L2
theorem wipe_none {σ : L2.St} {j : Nat} : ∀ {vs : List Nat}, j ∈ vs → j < σ.length → (L2.wipe σ vs)[j]? = some none
  | [], h, _ => by cases h
  | v :: vs, h, hl => by
    unfold L2.wipe
    by_cases hj : v = j
    · subst hj; rw [List.getElem?_set_self (by rw [wipe_length]; exact hl)]
    · rw [List.getElem?_set_ne hj]
      rcases List.mem_cons.mp h with rfl | h
      · exact absurd rfl hj
      · exact wipe_none h hl
theorem wipe_eq {σ σ2 : L2.St} {own : List Nat} (p : Pin (pinC σ.length own) (L2.wipe σ own) σ2) (hl : σ2.length = σ.length) : L2.wipe σ2 own = L2.wipe σ own := by
  refine List.ext_getElem? fun j => ?_
  by_cases hj : j < σ.length
  · by_cases m : j ∈ own
    · rw [wipe_none m (by omega), wipe_none m hj]
    · rw [wipe_out m, p j (mem_pinC.mpr ⟨hj, m⟩), wipe_out m]
  · rw [List.getElem?_eq_none (by rw [wipe_length]; omega), List.getElem?_eq_none (by rw [wipe_length]; omega)]
theorem wipeE_none {j : Nat} {ρ : Env} {own : List Nat} (m : j ∈ own) (hj : j < ρ.length) : (wipeE ρ own)[j]? = some none := by
  have hl : j < (wipeE ρ own).length := by rw [wipeE_len]; exact hj
  cases h : (wipeE ρ own)[j]? with
  | none => rw [List.getElem?_eq_getElem hl] at h; cases h
  | some w => cases w with
    | none => rfl
    | some v => exact absurd h (wipeE_in own ρ (.inl m) v)
theorem wipe_back {ρ0 ρ : Env} {own : List Nat} : wipeE (backE ρ0 ρ own) own = wipeE ρ own := by
  refine List.ext_getElem? fun j => ?_
  by_cases hj : j < ρ.length
  · by_cases m : j ∈ own
    · rw [wipeE_none m (by rw [backE_len]; exact hj), wipeE_none m hj]
    · rw [wipeE_out own _ m, wipeE_out own _ m, backE_out own _ m]
  · rw [List.getElem?_eq_none (by rw [wipeE_len, backE_len]; omega), List.getElem?_eq_none (by rw [wipeE_len]; omega)]
theorem back_self {ρ : Env} {own : List Nat} : backE ρ ρ own = ρ := by
  refine List.ext_getElem? fun j => ?_
  by_cases m : j ∈ own
  · exact backE_in own ρ rfl (.inl m)
  · exact backE_out own ρ m
theorem setTup_len : ∀ (is : List Nat) (ds : List D) (ρ ρ' : Env), setTup is ds ρ = some ρ' → ρ'.length = ρ.length
  | [], [], ρ, ρ', h => by cases h; rfl
  | i :: is, d :: ds, ρ, ρ', h => by
    have := setTup_len is ds (ρ.set i (some (.dat d))) ρ' h
    rw [this, List.length_set]
  | [], _ :: _, _, _, h => by cases h
  | _ :: _, [], _, _, h => by cases h
theorem setTgt_len {t : Tgt} {d : D} {ρ ρ' : Env} (h : setTgt t d ρ = some ρ') : ρ'.length = ρ.length := by
  cases t with
  | nm i => cases h; rw [List.length_set]
  | tup is =>
    cases d with
    | tuple ds => exact setTup_len is ds ρ ρ' h
    | _ => cases h
/-- the list that grows: it is tracked, nobody's own, not frozen -/
structure Grow (W : Wd) (H : Hp) (Z : Addr → Prop) (Fs : Nat → List Addr) (D : Addr) (ys : List EV.D) : Prop where
  l : ∃ acc, H D = some (.lst acc) ∧ RepDs W.K H Z acc ys
  z : ¬ Z D
  o : ¬ Ow Fs D
section
variable {W : Wd} {X : Cx} {Wx : WX} {r : Rec} {pin : List Nat} {pr : Bool}
theorem Grow.nxt {H H2 : Hp} {Z Z2 : Addr → Prop} {Fs Fs2 : Nat → List Addr} {D : Addr} {ys : List EV.D} {σ σ1 : L2.St} {ρ ρ1 : Env} (g : Grow W H Z Fs D ys) (R : RelE W H Z σ1 ρ1 Fs) (n : Nxt W H Z Fs σ ρ H2 Z2 Fs2) : Grow W H2 Z2 Fs2 D ys := by
  obtain ⟨⟨acc, h1, h2⟩, hz, ho⟩ := g
  refine ⟨⟨acc, n.e.pres D _ h1 ho, h2.stay (n.stay R)⟩, fun q => ?_, fun q => ?_⟩
  · rcases n.e.zf D q with z | z | z
    · exact hz z
    · rw [h1] at z; cases z
    · exact ho z
  · rcases n.e.ofr D q with z | z
    · rw [h1] at z; cases z
    · exact ho z
theorem Grow.frz {H : Hp} {Z : Addr → Prop} {Fs : Nat → List Addr} {D : Addr} {ys : List EV.D} {F : List Addr} (g : Grow W H Z Fs D ys) (h : D ∉ F) : Grow W H (zor Z F) Fs D ys := by
  obtain ⟨⟨acc, h1, h2⟩, hz, ho⟩ := g
  exact ⟨⟨acc, h1, h2.stay (stay_or _ _ _)⟩, fun q => q.elim hz h, ho⟩
/-- an item more -/
theorem Nxt.grow {H0 H : Hp} {Z0 Z : Addr → Prop} {Fs0 Fs : Nat → List Addr} {D : Addr} {ys : List EV.D} {σ : L2.St} {ρ : Env} {acc : List V} {u : V} {d : EV.D} (n : Nxt W H0 Z0 Fs0 σ ρ H Z Fs) (h0 : H0 D = none) (ha : H D = some (.lst acc)) (hz : ¬ Z D) (ho : ¬ Ow Fs D) (rs : RepDs W.K H Z acc ys) (rd : RepD W.K H Z u d) :
    Nxt W H0 Z0 Fs0 σ ρ (upd H D (.lst (acc ++ [u]))) Z Fs ∧ Grow W (upd H D (.lst (acc ++ [u]))) Z Fs D (ys ++ [d]) := by
  have zt : ∀ b, Z b → upd H D (.lst (acc ++ [u])) b ≠ none := fun b z => by
    by_cases q : b = D
    · rw [q, upd_same]; exact fun z => by cases z
    · rw [upd_ne q]; exact n.e.zt b z
  have ow1 : Own H Z (fun b => b = D) := fun b q => by rw [q]; exact ⟨hz, .inl ⟨_, ha⟩⟩
  have e1 : Ext H (upd H D (.lst (acc ++ [u]))) Z Z (fun b => b = D) (fun b => b = D) := ⟨fun b o h q => by rw [upd_ne q]; exact h, fun _ h => h, fun _ h => .inl h, fun b h => by
    by_cases q : b = D
    · rw [q, upd_same] at h; cases h
    · rw [upd_ne q] at h; exact h, fun _ h => .inr h, zt⟩
  have st := e1.stay ow1
  refine ⟨⟨⟨fun b o h q => ?_, n.e.zm, n.e.zf, fun b h => n.e.keep b (e1.keep b h), n.e.ofr, zt⟩, n.r.ext e1 ow1 fun b h q => ho (by rw [← q]; exact h)⟩, ⟨⟨_, upd_same, (rs.stay st).append (.cons (rd.stay st) .nil)⟩, hz, ho⟩⟩
  rw [upd_ne fun q => by rw [q, h0] at h; cases h]
  exact n.e.pres b o h q
/-- the turns of a comprehension -/
theorem lc_turns {J : It} {t : Tgt} {cs : List Ex} {e' : Ex} {g : TG} {tt : TT} {te : TE} {Q : VK} {own : List Nat} (xs : List EV.D) {H0 H1 : Hp} {Z0 Z1 : Addr → Prop} {σ : L2.St} {ρ1 ρe : Env} {Fs0 Fs1 : Nat → List Addr} {ysA : List EV.D} (n1 : Nxt W H0 Z0 Fs0 σ ρ1 H1 Z1 Fs1) (it : ItOk pr W H1 Z1 J xs) (hfit : xs.length ≤ sizeLine)
    (hE : lcLoop (lcStep r t cs (fun ρ => (r.e e' ρ).bind fun v ρ => ofO v.data ρ) own) xs ρ1 = .ok ysA ρe)
    (hk : ∀ u H' Z' Fs' F, Nxt W H0 Z0 Fs0 σ (backE ρ1 ρe own) H' Z' Fs' → NV W H0 Fs0 H' Z' Fs' u (.ol ysA) F → Q u H')
    (sg : ∀ (Z : Addr → Prop) (σ : L2.St) (H : Hp) (ρ : Env) (Fs : Nat → List Addr) (u : V) (d : EV.D) (ρ' : Env) (Q : L2.St → Hp → Prop), RelE W H Z σ ρ Fs → RepI pr W H Z u d → setTgt t d ρ = some ρ' →
      (∀ σ' Fs', Nxt W H Z Fs σ' ρ' H Z Fs' → Pin (pinC σ.length own) σ σ' → Q σ' H) → g u σ H Q)
    (st : ∀ (Z : Addr → Prop) (σ : L2.St) (H : Hp) (ρ : Env) (Fs : Nat → List Addr) (Q : Bool → Hp → Prop) (b : Bool) (ρ' : Env), RelE W H Z σ ρ Fs → evTs r cs ρ = .ok b ρ' → (∀ H' Z' Fs', Nxt W H Z Fs σ ρ' H' Z' Fs' → Q b H') → tt σ H Q)
    (se : ∀ (Z : Addr → Prop) (σ : L2.St) (H : Hp) (ρ : Env) (Fs : Nat → List Addr) (Q : VK) (v : Val) (ρ' : Env), RelE W H Z σ ρ Fs → r.e e' ρ = .ok v ρ' → (∀ u H' Z' Fs' F, Nxt W H Z Fs σ ρ' H' Z' Fs' → NV W H Fs H' Z' Fs' u v F → Q u H') → te σ H Q) :
    ∀ D, H1 D = none → ∃ W : Nat → Nat → Hp → Prop, (∃ m, W 0 m (upd H1 D (.lst []))) ∧ ∀ i m H, W i m H →
      (J.stop i H ∧ Q (.ref D) H) ∨ (J.go i H ∧ ∃ Nx : Hp → Prop, (∀ H', Nx H' → ∃ m', m' < m ∧ W (i + 1) m' H') ∧ ∀ x H', J.yld i H x H' → g x (L2.wipe σ own) H' fun σ2 H2 => L2.wipe σ2 own = L2.wipe σ own ∧ tt σ2 H2 fun b H3 =>
        if b = true then te σ2 H3 fun y H4 => ∃ acc, H4 D = some (.lst acc) ∧ acc.length < sizeLine ∧ Nx (upd H4 D (.lst (acc ++ [y]))) else Nx H3) := by
  intro D hD
  have hD0 : H0 D = none := n1.e.keep D hD
  let step := lcStep r t cs (fun ρ => (r.e e' ρ).bind fun v ρ => ofO v.data ρ) own
  let Pv : Nat → Hp → Prop := fun i H => ∃ Z ρ Fs ys rest, Nxt W H0 Z0 Fs0 σ (backE ρ1 ρ own) H Z Fs ∧ Stay H1 H Z1 Z ∧ Grow W H Z Fs D ys ∧ ρ.length = ρ1.length ∧ lcLoop step (xs.drop i) ρ = .ok rest ρe ∧ ysA = ys ++ rest ∧ ys.length ≤ i
  -- the start
  have nl := NewV.list (W := W) (H := H1) (Z := Z1) (p := D) (us := []) (ds := []) hD n1.r.zok .nil
  obtain ⟨nn, _⟩ := nl.nxt n1.r
  have start : Pv 0 (upd H1 D (.lst [])) := by
    refine ⟨Z1, ρ1, Fs1, [], ysA, ?_, stay_new (upd_pres hD) fun _ h => h, ⟨⟨[], upd_same, .nil⟩, fun z => n1.r.zok D z hD, fun q => own_ne n1.r.own D q hD⟩, rfl, by simpa using hE, rfl, Nat.zero_le _⟩
    rw [back_self]; exact n1.trans nn
  refine ⟨fun i m H => m = xs.length - i ∧ i ≤ xs.length ∧ Pv i H, ⟨_, rfl, Nat.zero_le _, start⟩, ?_⟩
  rintro i m H ⟨rfl, hi, Z, ρ, Fs, ys, rest, n, sy, gr, hl, he, ha, hys⟩
  by_cases hlt : i < xs.length
  · refine .inr ⟨it.go i H Z sy hlt, Pv (i + 1), fun H' p' => ⟨xs.length - (i + 1), by omega, rfl, hlt, p'⟩, fun x H' y => ?_⟩
    have hx0 : xs[i]? = some xs[i] := by simp [hlt]
    obtain ⟨Z', nv⟩ := it.yld i H Z x H' _ sy n.r.zok hx0 y
    have n2 := nv.nxt n.r
    have rd := nv.r
    have N := n.trans n2
    have gr2 := gr.nxt n.r n2
    have sy2 : Stay H1 H' Z1 Z' := ⟨fun a h => nv.zm a (sy.z a h), fun a o h z => nv.pres a o (sy.k a o h z), fun a us h => nv.pres a _ (sy.t a us h), fun a o u h => nv.pres a _ (sy.f a o u h)⟩
    have e1 : lcLoop step (xs.drop i) ρ = (step xs[i] ρ).bind fun y ρ => (lcLoop step (xs.drop (i + 1)) ρ).bind fun ys ρ => .ok (match y with | some y => y :: ys | none => ys) ρ := by
      rw [List.drop_eq_getElem_cons hlt]; rfl
    rw [e1] at he
    -- the turn's own state
    have R := N.r.into own
    rw [wipe_back] at R
    cases hst : step xs[i] ρ with
    | exc c fs ρ' => rw [hst] at he; cases he
    | stuck => rw [hst] at he; cases he
    | ok yo ρ4 =>
    rw [bind_ok hst] at he
    cases hlp : lcLoop step (xs.drop (i + 1)) ρ4 with
    | exc c fs ρ' => rw [hlp] at he; cases he
    | stuck => rw [hlp] at he; cases he
    | ok rest' ρ5 =>
    rw [bind_ok hlp] at he
    have hst' : ((ofO (setTgt t xs[i] (wipeE ρ own)) ρ).bind fun ρ _ => (evTs r cs ρ).bind fun b ρ => cond b (((r.e e' ρ).bind fun v ρ => ofO v.data ρ).bind fun d ρ => Out.ok (some d) ρ) (.ok none ρ)) = .ok yo ρ4 := hst
    cases hs1 : setTgt t xs[i] (wipeE ρ own) with
    | none => rw [hs1] at hst'; cases hst'
    | some ρ2 =>
    rw [hs1] at hst'
    have hst2 : ((evTs r cs ρ2).bind fun b ρ => cond b (((r.e e' ρ).bind fun v ρ => ofO v.data ρ).bind fun d ρ => Out.ok (some d) ρ) (.ok none ρ)) = .ok yo ρ4 := hst'
    cases hts : evTs r cs ρ2 with
    | exc c fs ρ' => rw [hts] at hst2; cases hst2
    | stuck => rw [hts] at hst2; cases hst2
    | ok b ρ3 =>
    rw [bind_ok hts] at hst2
    have lσ : (L2.wipe σ own).length = σ.length := wipe_length σ own
    refine sg Z' (L2.wipe σ own) H' (wipeE ρ own) _ x xs[i] ρ2 _ R rd hs1 fun σ2 Fs2 n3 p3 => ?_
    rw [lσ] at p3
    have l2 : σ2.length = σ.length := by
      rw [n3.r.len, setTgt_len hs1, ← R.len, lσ]
    refine ⟨wipe_eq p3 l2, ?_⟩
    have g3o : Grow W H' Z' (outF Fs own) D ys := ⟨gr2.l, gr2.z, fun q => gr2.o (by obtain ⟨j, _, m⟩ := ow_out q; exact ⟨j, m⟩)⟩
    have g3 := g3o.nxt R n3
    refine st Z' σ2 H' ρ2 Fs2 _ b ρ3 n3.r hts fun H3 Z3 Fs3 n4 => ?_
    have g4 := g3.nxt n3.r n4
    -- what the slots are behind the turn
    have back : ∀ {H5 : Hp} {Z5 : Addr → Prop} {Fs5 : Nat → List Addr} {ρ5 : Env}, Nxt W H' Z' (outF Fs own) σ2 ρ5 H5 Z5 Fs5 → Nxt W H0 Z0 Fs0 σ (backE ρ1 ρ5 own) H5 Z5 (mixF Fs Fs5 own) ∧ Stay H1 H5 Z1 Z5 ∧ ρ5.length = ρ1.length := fun {H5 Z5 Fs5 ρ5} n5 => by
      have h5 : ρ5.length = (backE ρ1 ρ own).length := by rw [← n5.r.len, l2, N.r.len]
      refine ⟨N.trans (Nxt.outOf N.r (fun j m => ?_) (by rw [backE_len]; exact hl.symm) n5 p3 h5), ?_, by rw [h5, backE_len]; exact hl⟩
      · rw [backE_in own ρ hl.symm (.inl m)]
      · have s3 := n5.e.stay R.own
        exact ⟨fun a h => s3.z a (sy2.z a h), fun a o h z => s3.k a o (sy2.k a o h z) (sy2.z a z), fun a us h => s3.t a us (sy2.t a us h), fun a o u h => s3.f a o u (sy2.f a o u h)⟩
    have mixo : ∀ {H5 : Hp} {Z5 : Addr → Prop} {Fs5 : Nat → List Addr}, Grow W H5 Z5 Fs5 D ys → Grow W H5 Z5 (mixF Fs Fs5 own) D ys := fun {H5 Z5 Fs5} q => ⟨q.l, q.z, fun ⟨j, m⟩ => by
      unfold mixF at m
      by_cases hj : j ∈ own
      · rw [if_pos hj] at m; exact gr.o ⟨j, m⟩
      · rw [if_neg hj] at m; exact q.o ⟨j, m⟩⟩
    cases b with
    | false =>
      rw [if_neg (by decide)]
      have : yo = none ∧ ρ3 = ρ4 := by cases hst2; exact ⟨rfl, rfl⟩
      obtain ⟨rfl, rfl⟩ := this
      obtain ⟨b1, b2, b3⟩ := back (n3.trans n4)
      cases he
      exact ⟨Z3, ρ3, _, ys, rest', b1, b2, mixo g4, b3, hlp, ha, by omega⟩
    | true =>
      rw [if_pos rfl]
      have hst3 : (((r.e e' ρ3).bind fun v ρ => ofO v.data ρ).bind fun d ρ => Out.ok (some d) ρ) = .ok yo ρ4 := hst2
      cases hev : r.e e' ρ3 with
      | exc c fs ρ' => rw [hev] at hst3; cases hst3
      | stuck => rw [hev] at hst3; cases hst3
      | ok v ρ6 =>
      rw [hev] at hst3
      have hst4 : ((ofO v.data ρ6).bind fun d ρ => Out.ok (some d) ρ) = .ok yo ρ4 := hst3
      cases hdv : v.data with
      | none => rw [hdv] at hst4; cases hst4
      | some d =>
      rw [hdv] at hst4
      have : yo = some d ∧ ρ6 = ρ4 := by cases hst4; exact ⟨rfl, rfl⟩
      obtain ⟨rfl, rfl⟩ := this
      refine se Z3 σ2 H3 ρ3 Fs3 _ v ρ6 n4.r hev fun u H5 Z5 Fs5 F5 n5 nv5 => ?_
      have g5 := g4.nxt n4.r n5
      have n6 := (n3.trans (n4.trans n5)).frz (NV.trans (n3.trans n4) nv5)
      have hDF : D ∉ F5 := fun m => by
        obtain ⟨acc4, q4, _⟩ := g4.l
        rcases nv5.o D m with z | z
        · rw [q4] at z; cases z
        · exact g4.o z
      have g6 := g5.frz hDF
      have rd6 := nv5.v.froze hdv
      obtain ⟨acc, q1, q2⟩ := g6.l
      refine ⟨acc, q1, ?_, ?_⟩
      · rw [q2.length]; omega
      · obtain ⟨b1, b2, b3⟩ := back n6
        have gm := mixo g6
        obtain ⟨c1, c2⟩ := b1.grow hD0 q1 gm.z gm.o q2 rd6
        cases he
        refine ⟨_, ρ6, _, ys ++ [d], rest', c1, ?_, c2, b3, hlp, by rw [ha]; simp, by simp; omega⟩
        have hD5 := q1
        refine ⟨b2.z, fun a o h z => ?_, fun a us h => ?_, fun a o u h => ?_⟩
        · rw [upd_ne (ne_of_none h hD)]; exact b2.k a o h z
        · rw [upd_ne (ne_of_none h hD)]; exact b2.t a us h
        · rw [upd_ne (ne_of_none h hD)]; exact b2.f a o u h
  · have e2 : i = xs.length := by omega
    subst e2
    refine .inl ⟨it.stop H Z sy, ?_⟩
    rw [List.drop_length] at he
    cases he
    obtain ⟨acc, q1, q2⟩ := gr.l
    rw [List.append_nil] at ha
    subst ha
    exact hk (.ref D) H Z Fs [D] n ⟨.ol q1 gr.z q2, fun a m => by cases List.mem_singleton.mp m; exact gr.o, fun a m => by cases List.mem_singleton.mp m; exact .inl hD0⟩
end
end EV
end SSnd14
section SSnd15
set_option Elab.async false
set_option linter.all false
set_option maxRecDepth 100000
set_option maxHeartbeats 1000000
namespace EV
open PySem PySem.Spec PyProof.Rows L2
/-- what stands in a comprehension's block is sound, wherever the block stands -/
def InC (pr : Bool) (W : Wd) (X : Cx) (r : Rec) (scope : Scope) (own : List Nat) (tg : Expr) (t : Tgt) (ifs : List Expr) (cs : List Ex) (elt : Expr) (e' : Ex) : Prop :=
  ∀ (s : Shared) (H0 : Hp) (C : Addr) (cl : List (Str × Addr)) (fp : List Addr), (∀ n, SndG pr W (X.blk s H0 scope (compEnvC scope cl C X.env) fp) (pinC n own) tg t) ∧ SndTs W (X.blk s H0 scope (compEnvC scope cl C X.env) fp) W0 ifs (evTs r cs) ∧ SndE W (X.blk s H0 scope (compEnvC scope cl C X.env) fp) W0 elt (r.e e')
def aG (X : Cx) (scope : Scope) (tg : Expr) : TG := fun v σ H Q => ∀ s H0 C cl fp, BG (X.blk s H0 scope (compEnvC scope cl C X.env) fp) tg v σ H Q
def aT (X : Cx) (scope : Scope) (ifs : List Expr) : TT := fun σ H Q => ∀ s H0 C cl fp, BTs (X.blk s H0 scope (compEnvC scope cl C X.env) fp) ifs σ H Q
def aE (X : Cx) (scope : Scope) (e : Expr) : TE := fun σ H Q => ∀ s H0 C cl fp, BE (X.blk s H0 scope (compEnvC scope cl C X.env) fp) e σ H Q
/-- what a comprehension answers -/
def lcOut (r : Rec) (e' : Ex) (t : Tgt) (k : ItK) (as cs : List Ex) (own : List Nat) (ρ : Env) : Out Val :=
  (evI r k as ρ).bind fun xs ρ => (ofO (fitO xs) ρ).bind fun _ ρ =>
      noExc ((lcLoop (lcStep r t cs (fun ρ => (r.e e' ρ).bind fun v ρ => ofO v.data ρ) own) xs ρ).bind fun ys ρ' => .ok (.ol ys) (backE ρ ρ' own))
section
variable {W : Wd} {X : Cx} {Wx : WX} {r : Rec} {pin : List Nat} {pr : Bool}
theorem exd0 {α : Type} {H : Hp} {Z : Addr → Prop} {Fs : Nat → List Addr} {σ : L2.St} {o : Out α} {a : α} {ρ : Env} (e : o = .ok a ρ) : Exd W W0 H Z Fs σ o := fun c fs ρ' q => by rw [e] at q; cases q
theorem lc_rd {elt tg iter : Expr} {ifs : List Expr} {scope : Scope} {own : List Nat} {e' : Ex} {t : Tgt} {k : ItK} {as cs : List Ex} (si : SndI pr W X Wx tg iter (evI r k as)) (inn : InC pr W X r scope own tg t ifs cs elt e') :
    ∃ wi, PI X tg iter wi ∧ ∀ (Z : Addr → Prop) (σ : L2.St) (H : Hp) (ρ : Env) (Fs : Nat → List Addr) (Q : VK), RelE W H Z σ ρ Fs → lcOut r e' t k as cs own ρ ≠ .stuck →
      (∀ v ρ', lcOut r e' t k as cs own ρ = .ok v ρ' → ∀ u H' Z' Fs' F, Nxt W H Z Fs σ ρ' H' Z' Fs' → NV W H Fs H' Z' Fs' u v F → Q u H') → Exd W Wx H Z Fs σ (lcOut r e' t k as cs own ρ) → tLc wi (aG X scope tg) (aT X scope ifs) (aE X scope elt) own σ H Q := by
  obtain ⟨wi, hi, hw⟩ := si
  refine ⟨wi, hi, fun Z σ H ρ Fs Q R ns hk hx => ?_⟩
  unfold lcOut at ns hk hx
  refine hw Z σ H ρ Fs _ R (Out.bind_ns ns) (fun xs ρ1 q J H1 Z1 Fs1 n1 it => ?_) hx.fst
  rw [bind_ok q] at ns hk
  obtain ⟨_, f1, f2⟩ := ofO_ns (Out.bind_ns ns)
  rw [bind_ok f2] at ns hk
  have hfit : xs.length ≤ sizeLine := by
    unfold fitO at f1
    cases h : fit xs.length with
    | false => rw [h] at f1; cases f1
    | true => exact fit_le h
  cases hl : lcLoop (lcStep r t cs (fun ρ => (r.e e' ρ).bind fun v ρ => ofO v.data ρ) own) xs ρ1 with
  | exc c fs ρ' => rw [hl] at ns; exact absurd rfl ns
  | stuck => rw [hl] at ns; exact absurd rfl ns
  | ok ysA ρe =>
    refine lc_turns (r := r) (t := t) (cs := cs) (e' := e') (own := own) xs n1 it hfit hl (fun u H' Z' Fs' F n nv => ?_) (fun Z σ H ρ Fs u d ρ' Q R rd e hq => ?_) (fun Z σ H ρ Fs Q b ρ' R e hq => ?_) (fun Z σ H ρ Fs Q v ρ' R e hq => ?_)
    · exact hk (.ol ysA) (backE ρ1 ρe own) (by rw [bind_ok hl]; rfl) u H' Z' Fs' F n nv
    · intro s H0 C cl fp
      exact (inn s H0 C cl fp).1 σ.length Z σ H ρ Fs u d ρ' Q R rd e hq
    · intro s H0 C cl fp
      refine (inn s H0 C cl fp).2.1 Z σ H ρ Fs Q R (by rw [e]; exact fun z => by cases z) (fun b' ρ2 e2 => ?_) (exd0 e)
      rw [e] at e2; cases e2; exact hq
    · intro s H0 C cl fp
      refine (inn s H0 C cl fp).2.2 Z σ H ρ Fs Q R (by rw [e]; exact fun z => by cases z) (fun v' ρ2 e2 => ?_) (exd0 e)
      rw [e] at e2; cases e2; exact hq
theorem snd_lc {elt tg iter : Expr} {ifs : List Expr} {scope : Scope} {own : List (Str × Nat)} {pos : Pos} {e' : Ex} {t : Tgt} {k : ItK} {as cs : List Ex} (hc : X.calm = true) (hN : X.N.Nodup) (ok : BlkOk X.N X.env.scope scope own) (hfs : ∀ x, foldedSetIterable iter X.env x = pure x)
    (si : SndI pr W X Wx tg iter (evI r k as)) (inn : InC pr W X r scope (own.map (·.2)) tg t ifs cs elt e') : SndE W X Wx (.ListComp elt [⟨tg, iter, ifs, 0⟩] scope pos) (lcOut r e' t k as cs (own.map (·.2))) := by
  obtain ⟨wi, hi, h⟩ := lc_rd si inn
  intro Z σ H ρ Fs Q R ns hk hx
  exact BE.of (pe_lc (g := aG X scope tg) (tt := aT X scope ifs) (te := aE X scope elt) hc hN hi ok (fun s H0 C cl fp => ⟨fun pins s1 σ H v u Q I rv q => q s H0 C cl fp pins s1 u I rv⟩) (fun s H0 C cl fp => ⟨fun pins s1 σ H Q I q => q s H0 C cl fp pins s1 I⟩)
    (fun s H0 C cl fp => ⟨fun pins s1 σ H Q I q => q s H0 C cl fp pins s1 I⟩) hfs) (h Z σ H ρ Fs Q R ns hk hx)
theorem snd_setLc {i : Nat} {y : Str} {py spos : Pos} {elt tg iter : Expr} {ifs : List Expr} {scope : Scope} {own : List (Str × Nat)} {pos : Pos} {e' : Ex} {t : Tgt} {k : ItK} {as cs : List Ex} (hc : X.calm = true) (hN : X.N.Nodup) (hy : X.N[i]? = some y) (hyl : X.env.scope.names.lookup y = some .local) (hp : i ∉ pin)
    (hsw : swapsWith (.ListComp elt [⟨tg, iter, ifs, 0⟩] scope pos) (some (.Name y py)) spos.line X.env = pure true) (ok : BlkOk X.N X.env.scope scope own) (hfs : ∀ x, foldedSetIterable iter X.env x = pure x)
    (si : SndI pr W X Wx tg iter (evI r k as)) (inn : InC pr W X r scope (own.map (·.2)) tg t ifs cs elt e') :
    SndS W X Wx pin (.Assign [.Name y py] (.ListComp elt [⟨tg, iter, ifs, 0⟩] scope pos) spos) (fun ρ => (lcOut r e' t k as cs (own.map (·.2)) ρ).bind fun v ρ => .ok .nx (ρ.set i (some v))) := by
  obtain ⟨wi, hi, h⟩ := lc_rd si inn
  intro Z σ H ρ Fs D R ns hk hx
  dsimp only at ns hk hx
  refine BS.of (ps_setLc (g := aG X scope tg) (tt := aT X scope ifs) (te := aE X scope elt) hc hN hy hyl hsw hi ok (fun s H0 C cl fp => ⟨fun pins s1 σ H v u Q I rv q => q s H0 C cl fp pins s1 u I rv⟩) (fun s H0 C cl fp => ⟨fun pins s1 σ H Q I q => q s H0 C cl fp pins s1 I⟩)
    (fun s H0 C cl fp => ⟨fun pins s1 σ H Q I q => q s H0 C cl fp pins s1 I⟩) hfs) ?_
  refine h Z σ H ρ Fs _ R (Out.bind_ns ns) (fun v ρ1 q u H1 Z1 Fs1 F n nv => ?_) hx.fst.e
  obtain ⟨Fs', n'⟩ := n.set nv i
  exact hk .nx _ (bind_ok q) _ H1 Z1 _ n' (pin_set hp)
end
end EV
end SSnd15
section SSnd16
set_option Elab.async false
set_option linter.all false
set_option maxRecDepth 100000
set_option maxHeartbeats 1000000
namespace EV
open PySem PySem.Spec PyProof.Rows L2
/-! ### what is walked: lists, tuples, texts; range, enumerate, zip -/
def VIt (X : Cx) (tg : Expr) (x : V) (H : Hp) (R : It → Hp → Prop) : Prop := ∀ pins s σ v, Inv X pins σ H s → RelV x v → wpAny (model X.prog X.w) X.A (pyIter v) (PIE X pins σ tg R) X.xe s
def tVIt (X : Cx) (tg e : Expr) : TI := fun σ H R => BE X e σ H fun x H1 => VIt X tg x H1 R
theorem pi_VIt {X : Cx} {tg e : Expr} : PI X tg e (tVIt X tg e) := ⟨fun pins s σ H R I h => thn (h pins s I) fun v s1 ⟨x, H1, I1, r1, q1⟩ => q1 pins s1 σ v I1 r1⟩
section
variable {X : Cx} {tg : Expr}
theorem vit_list {a : Addr} {us : List V} {H : Hp} {R : It → Hp → Prop} (hq : SqL X.K H a us) (q : R (Itl X.K a) H) : VIt X tg (.ref a) H R := by
  intro pins s σ v I r
  cases r
  obtain ⟨ws, rv, p, _⟩ := I.list hq
  exact wpAny_pyIter_list p.isList (pi_one (tk := s.toks) I _ (turn_list a _) ⟨_, Heap.get?_push_size _ rfl, rfl, rfl⟩ q)
theorem vit_tup {a : Addr} {us : List V} {H : Hp} {R : It → Hp → Prop} (hq : SqT X.K H a us) (q : R (Itt X.K a) H) : VIt X tg (.ref a) H R := by
  intro pins s σ v I r
  cases r
  obtain ⟨ws, rv, p, _⟩ := I.tuple hq
  exact wpAny_pyIter_tuple (show s.heap.IsTuple a ws.toArray from p) (pi_one (tk := s.toks) I _ (turn_tuple a _) ⟨_, Heap.get?_push_size _ rfl, rfl, rfl⟩ q)
theorem vit_str {z : Str} {H : Hp} {R : It → Hp → Prop} (q : R (Its z) H) : VIt X tg (.str z) H R := by
  intro pins s σ v I r
  obtain ⟨t, rfl⟩ := r
  cases ha : z.cps.all (· < 128)
  · exact wpAny_pyIter_wide ha (pi_one (tk := s.toks) I _ (turn_str _ z t "str_iterator" (.inr rfl)) ⟨_, Heap.get?_push_size _ rfl, rfl, rfl⟩ q)
  · exact wpAny_pyIter_ascii ha (pi_one (tk := s.toks) I _ (turn_str _ z t "str_ascii_iterator" (.inl rfl)) ⟨_, Heap.get?_push_size _ rfl, rfl, rfl⟩ q)
end
section
variable {W : Wd} {X : Cx} {Wx : WX} {r : Rec} {pr : Bool}
theorem stay_tup {H H1 : Hp} {Z Z1 : Addr → Prop} {a : Addr} {us : List V} (K : PySem.W.Frag) (st : Stay H1 H Z1 Z) (h : SqT K H1 a us) : SqT K H a us := st.sqT h
theorem sqT_inj {H : Hp} {Z : Addr → Prop} {a : Addr} {o : Obj} {us vs : List V} {K : PySem.W.Frag} (h : H a = some (.frz o (.tup us))) (h2 : Rd H a (.tup vs)) : us = vs := by
  rcases h2 with h2 | ⟨o2, h2⟩ <;> rw [h] at h2 <;> cases h2
  rfl
theorem NewI.here {H : Hp} {Z : Addr → Prop} {u : V} {d : D} (hz : ∀ a, Z a → H a ≠ none) (h : RepD W.K H Z u d) : NewI pr W H Z u d H Z := (NewV.here hz h).toI
/-- a new pair -/
theorem NewI.pair {H : Hp} {Z : Addr → Prop} {T : Addr} {u v : V} {d e : D} (hz : ∀ a, Z a → H a ≠ none) (n : H T = none) (h1 : RepD W.K H Z u d) (h2 : RepD W.K H Z v e) : NewI true W H Z (.ref T) (.tuple [d, e]) (upd H T (.tup [u, v])) Z :=
  ⟨upd_pres n, fun _ h => h, fun _ h => .inl h, .pair rfl (SqT.of upd_same) (RepDs.stay (stay_new (upd_pres n) fun _ h => h) (.cons h1 (.cons h2 .nil))), zt_upd n hz⟩
/-- a list that is frozen, walked -/
theorem it_list {H1 : Hp} {Z1 : Addr → Prop} {a : Addr} {us : List V} {xs : List D} (hK : X.K = W.K) (h : H1 a = some (.lst us)) (hz : Z1 a) (rs : RepDs W.K H1 Z1 us xs) : ItOk pr W H1 Z1 (Itl X.K a) xs where
  go := fun i H Z st hi => by
    have hl : i < us.length := by rw [rs.length]; exact hi
    exact ⟨us, us[i], SqL.of (st.k _ _ h hz), List.getElem?_eq_getElem hl⟩
  stop := fun H Z st => ⟨us, SqL.of (st.k _ _ h hz), Nat.le_of_eq rs.length⟩
  yld := fun i H Z x H' d st zt hd y => by
    obtain ⟨rfl, q⟩ := y
    obtain ⟨u, hu, rd⟩ := rs.get hd
    have := q us (SqL.of (st.k _ _ h hz))
    rw [hu] at this; cases this
    exact ⟨Z, NewI.here zt (rd.stay st)⟩
theorem it_tup {H1 : Hp} {Z1 : Addr → Prop} {a : Addr} {us : List V} {xs : List D} (hK : X.K = W.K) (h : SqT X.K H1 a us) (rs : RepDs W.K H1 Z1 us xs) : ItOk pr W H1 Z1 (Itt X.K a) xs where
  go := fun i H Z st hi => by
    have hl : i < us.length := by rw [rs.length]; exact hi
    exact ⟨us, us[i], st.sqT h, List.getElem?_eq_getElem hl⟩
  stop := fun H Z st => ⟨us, st.sqT h, Nat.le_of_eq rs.length⟩
  yld := fun i H Z x H' d st zt hd y => by
    obtain ⟨rfl, q⟩ := y
    obtain ⟨u, hu, rd⟩ := rs.get hd
    have := q us (st.sqT h)
    rw [hu] at this; cases this
    exact ⟨Z, NewI.here zt (rd.stay st)⟩
theorem it_str {H1 : Hp} {Z1 : Addr → Prop} {z : Str} : ItOk pr W H1 Z1 (Its z) (z.cps.toList.map fun c => .str ⟨#[c]⟩) where
  go := fun i H Z st hi => by
    have hi' : i < z.cps.toList.length := by simpa using hi
    show i < z.cps.size
    simpa using hi'
  stop := fun H Z st => by
    show z.cps.size ≤ _
    simp
  yld := fun i H Z x H' d st zt hd y => by
    obtain ⟨rfl, c, hc, rfl⟩ := y
    rw [List.getElem?_map, Array.getElem?_toList, hc] at hd
    cases hd
    exact ⟨Z, NewI.here zt (.str _)⟩
theorem it_range {H1 : Hp} {Z1 : Addr → Prop} {lo hi : Int} : ItOk pr W H1 Z1 (Itr lo (hi - lo).toNat) (rangeL lo hi) where
  go := fun i H Z st h => by
    have h' : i < (hi - lo).toNat := by simpa [rangeL] using h
    exact h'
  stop := fun H Z st => by
    show (hi - lo).toNat ≤ _
    simp [rangeL]
  yld := fun i H Z x H' d st zt hd y => by
    obtain ⟨rfl, rfl⟩ := y
    have hl : i < (hi - lo).toNat := by
      have := (List.getElem?_eq_some_iff.mp hd).1
      simpa [rangeL] using this
    have : (rangeL lo hi)[i]? = some (.int (lo + i)) := by
      unfold rangeL
      rw [List.getElem?_map, List.getElem?_range hl]; rfl
    rw [this] at hd; cases hd
    exact ⟨Z, NewI.here zt (.int _)⟩
theorem it_enum {H1 : Hp} {Z1 : Addr → Prop} {a : Addr} {us : List V} {xs : List D} (hK : X.K = W.K) (h : H1 a = some (.lst us)) (hz : Z1 a) (rs : RepDs W.K H1 Z1 us xs) : ItOk true W H1 Z1 (Ite X.K a) (xs.zipIdx.map fun p => .tuple [.int p.2, p.1]) where
  go := fun i H Z st hi => by
    have hi' : i < xs.length := by simpa using hi
    have hl : i < us.length := by rw [rs.length]; exact hi'
    exact ⟨us, us[i], SqL.of (st.k _ _ h hz), List.getElem?_eq_getElem hl⟩
  stop := fun H Z st => ⟨us, SqL.of (st.k _ _ h hz), by rw [rs.length]; simp⟩
  yld := fun i H Z x H' d st zt hd y => by
    obtain ⟨T, x, rfl, hT, rfl, q⟩ := y
    have hi' : i < xs.length := by
      have := (List.getElem?_eq_some_iff.mp hd).1
      simpa using this
    have hx : xs[i]? = some xs[i] := List.getElem?_eq_getElem hi'
    obtain ⟨u, hu, rd⟩ := rs.get hx
    have := q us (SqL.of (st.k _ _ h hz))
    rw [hu] at this; cases this
    rw [List.getElem?_map, List.getElem?_zipIdx, hx] at hd
    simp at hd
    subst hd
    exact ⟨Z, NewI.pair zt hT (.int _) (rd.stay st)⟩
theorem zip_get {xs ys : List D} {i : Nat} {d : D} (h : ((xs.zip ys).map fun p => PyData.tuple [p.1, p.2])[i]? = some d) : ∃ x y, xs[i]? = some x ∧ ys[i]? = some y ∧ d = .tuple [x, y] := by
  rw [List.getElem?_map] at h
  cases hz : (xs.zip ys)[i]? with
  | none => rw [hz] at h; cases h
  | some p =>
    rw [hz] at h
    obtain ⟨h1, h2⟩ := List.getElem?_zip_eq_some.mp hz
    simp at h
    exact ⟨p.1, p.2, h1, h2, h.symm⟩
theorem it_zipL {H1 : Hp} {Z1 : Addr → Prop} {a b : Addr} {us vs : List V} {xs ys : List D} (hK : X.K = W.K) (h : H1 a = some (.lst us)) (hz : Z1 a) (rs : RepDs W.K H1 Z1 us xs) (h2 : H1 b = some (.lst vs)) (hz2 : Z1 b) (rs2 : RepDs W.K H1 Z1 vs ys) :
    ItOk true W H1 Z1 (Itz X.K a b) ((xs.zip ys).map fun p => .tuple [p.1, p.2]) where
  go := fun i H Z st hi => by
    have hi' : i < xs.length ∧ i < ys.length := by
      rw [List.length_map, List.length_zip] at hi; omega
    have l1 : i < us.length := by rw [rs.length]; exact hi'.1
    have l2 : i < vs.length := by rw [rs2.length]; exact hi'.2
    exact ⟨us, vs, us[i], vs[i], SqL.of (st.k _ _ h hz), SqL.of (st.k _ _ h2 hz2), List.getElem?_eq_getElem l1, List.getElem?_eq_getElem l2⟩
  stop := fun H Z st => ⟨us, vs, SqL.of (st.k _ _ h hz), SqL.of (st.k _ _ h2 hz2), by rw [rs.length, rs2.length, List.length_map, List.length_zip]; omega⟩
  yld := fun i H Z x H' d st zt hd y => by
    obtain ⟨T, x, w, rfl, hT, rfl, q1, q2⟩ := y
    obtain ⟨dx, dy, e1, e2, rfl⟩ := zip_get hd
    obtain ⟨u, hu, rd⟩ := rs.get e1
    obtain ⟨u2, hu2, rd2⟩ := rs2.get e2
    have t1 := q1 us (SqL.of (st.k _ _ h hz))
    have t2 := q2 vs (SqL.of (st.k _ _ h2 hz2))
    rw [hu] at t1; cases t1
    rw [hu2] at t2; cases t2
    exact ⟨Z, NewI.pair zt hT (rd.stay st) (rd2.stay st)⟩
theorem it_zipT {H1 : Hp} {Z1 : Addr → Prop} {a b : Addr} {us vs : List V} {xs ys : List D} (hK : X.K = W.K) (h : SqT X.K H1 a us) (rs : RepDs W.K H1 Z1 us xs) (h2 : SqT X.K H1 b vs) (rs2 : RepDs W.K H1 Z1 vs ys) :
    ItOk true W H1 Z1 (RZ.ItzT X.K a b) ((xs.zip ys).map fun p => .tuple [p.1, p.2]) where
  go := fun i H Z st hi => by
    have hi' : i < xs.length ∧ i < ys.length := by
      rw [List.length_map, List.length_zip] at hi; omega
    have l1 : i < us.length := by rw [rs.length]; exact hi'.1
    have l2 : i < vs.length := by rw [rs2.length]; exact hi'.2
    exact ⟨us, vs, us[i], vs[i], st.sqT h, st.sqT h2, List.getElem?_eq_getElem l1, List.getElem?_eq_getElem l2⟩
  stop := fun H Z st => ⟨us, vs, st.sqT h, st.sqT h2, by rw [rs.length, rs2.length, List.length_map, List.length_zip]; omega⟩
  yld := fun i H Z x H' d st zt hd y => by
    obtain ⟨T, x, w, rfl, hT, rfl, q1, q2⟩ := y
    obtain ⟨dx, dy, e1, e2, rfl⟩ := zip_get hd
    obtain ⟨u, hu, rd⟩ := rs.get e1
    obtain ⟨u2, hu2, rd2⟩ := rs2.get e2
    have t1 := q1 us (st.sqT h)
    have t2 := q2 vs (st.sqT h2)
    rw [hu] at t1; cases t1
    rw [hu2] at t2; cases t2
    exact ⟨Z, NewI.pair zt hT (rd.stay st) (rd2.stay st)⟩
theorem RepD.lstI {K : PySem.W.Frag} {H : Hp} {Z : Addr → Prop} {u : V} {xs : List D} (h : RepD K H Z u (.list xs)) : ∃ a us, u = .ref a ∧ H a = some (.lst us) ∧ Z a ∧ RepDs K H Z us xs := by cases h with | lst h z rs => exact ⟨_, _, rfl, h, z, rs⟩
theorem RepD.tupI {K : PySem.W.Frag} {H : Hp} {Z : Addr → Prop} {u : V} {xs : List D} (h : RepD K H Z u (.tuple xs)) : ∃ a us, u = .ref a ∧ SqT K H a us ∧ RepDs K H Z us xs := by cases h with | tup h _ rs => exact ⟨_, _, rfl, .inl (.inr ⟨_, h⟩), rs⟩
/-- from arguments to what is walked -/
theorem snd_it {es : List Expr} {es' : List Ex} {k : ItK} (A : ArgSs W X Wx r es es') (hpk : noPk es' = true) {Z : Addr → Prop} {σ : L2.St} {H : Hp} {ρ : Env} {Fs : Nat → List Addr} {R : It → Hp → Prop} {Q : List V → Hp → Prop} (Rl : RelE W H Z σ ρ Fs) (ns : evI r k es' ρ ≠ .stuck) (hx : Exd W Wx H Z Fs σ (evI r k es' ρ))
    (hk : ∀ xs ρ', evI r k es' ρ = .ok xs ρ' → ∀ J H' Z' Fs', Nxt W H Z Fs σ ρ' H' Z' Fs' → ItOk pr W H' Z' J xs → R J H')
    (rd : ∀ (us : List V) (H1 : Hp) (Z1 : Addr → Prop) (ds xs : List D), ds.length = es'.length → RepDs W.K H1 Z1 us ds → itSem k ds = some xs → (∀ J, ItOk pr W H1 Z1 J xs → R J H1) → Q us H1) : BEs X es σ H Q := by
  unfold evI at ns hx hk
  refine snd_Ds_bind A Rl ns hx fun ds ρ1 us H1 Z1 Fs1 q n a a2 ns1 _ => ?_
  obtain ⟨xs, h1, h2⟩ := ofO_ns ns1
  exact rd us H1 Z1 ds xs (evDs_len _ _ _ _ q) (a2 hpk) h1 fun J it => hk xs ρ1 ((bind_ok q).trans h2) J H1 Z1 Fs1 n it
theorem rep1 {H : Hp} {Z : Addr → Prop} {us : List V} {d : D} (a : RepDs W.K H Z us [d]) : ∃ x, us = [x] ∧ RepD W.K H Z x d := by
  cases a with | cons a1 a => cases a; exact ⟨_, rfl, a1⟩
theorem rep2 {H : Hp} {Z : Addr → Prop} {us : List V} {d e : D} (a : RepDs W.K H Z us [d, e]) : ∃ x y, us = [x, y] ∧ RepD W.K H Z x d ∧ RepD W.K H Z y e := by
  cases a with | cons a1 a => cases a with | cons a2 a => cases a; exact ⟨_, _, rfl, a1, a2⟩
theorem sndI_val {tg iter : Expr} {e' : Ex} (hK : X.K = W.K) (A : ArgSs W X Wx r [iter] [e']) (hpk : noPk [e'] = true) : SndI pr W X Wx tg iter (evI r .val [e']) := by
  refine ⟨tVIt X tg iter, pi_VIt, fun Z σ H ρ Fs R Rl ns hk hx => ?_⟩
  have main : BEs X [iter] σ H (fun us H1 => ∃ x, us = [x] ∧ VIt X tg x H1 R) := by
    refine snd_it A hpk Rl ns hx hk fun us H1 Z1 ds xs hln rs hs q => ?_
    have hs : iVal ds = some xs := hs
    unfold iVal at hs
    split at hs
    · cases hs
      obtain ⟨x, rfl, rd⟩ := rep1 rs
      obtain ⟨a, ws, rfl, h1, h2, h3⟩ := rd.lstI
      exact ⟨_, rfl, vit_list (SqL.of h1) (q _ (it_list hK h1 h2 h3))⟩
    · cases hs
      obtain ⟨x, rfl, rd⟩ := rep1 rs
      obtain ⟨a, ws, rfl, h1, h2⟩ := rd.tupI
      rw [← hK] at h1
      exact ⟨_, rfl, vit_tup h1 (q _ (it_tup hK h1 h2))⟩
    · cases hs
      obtain ⟨x, rfl, rd⟩ := rep1 rs
      cases rd
      exact ⟨_, rfl, vit_str (q _ it_str)⟩
    · cases hs
  exact BE.mono (fun x H1 q1 => by obtain ⟨x', e, q2⟩ := q1; cases e; exact q2) main
theorem small62_lt {i : Int} (h : small62 i = true) : -(2 ^ 62) ≤ i ∧ i < 2 ^ 62 := by
  have h1 : i.natAbs < 4611686018427387904 := of_decide_eq_true h
  have e : (2 : Int) ^ 62 = 4611686018427387904 := by decide
  rw [e]; omega
theorem sndI_range1 {tg a : Expr} {e' : Ex} {p pos : Pos} (hg : Gl X "range") (hm : X.mg "range" = none) (hs : noStar a = true) (A : ArgSs W X Wx r [a] [e']) (hpk : noPk [e'] = true) : SndI pr W X Wx tg (.Call (.Name "range" p) [a] [] pos) (evI r .range [e']) := by
  refine ⟨_, pi_range1 hg hm (BEs.pa [a] (by simpa using hs)) (star_of hs), fun Z σ H ρ Fs R Rl ns hk hx => ?_⟩
  refine snd_it A hpk Rl ns hx hk fun us H1 Z1 ds xs hln rs hs q => ?_
  have hs : iRange ds = some xs := hs
  unfold iRange at hs
  split at hs
  · rename_i n _
    obtain ⟨x, rfl, rd⟩ := rep1 rs
    cases rd
    obtain ⟨hc, rfl⟩ := ite_some hs
    simp only [Bool.and_eq_true, decide_eq_true_eq] at hc
    refine ⟨_, rfl, (small62_lt hc.1).1, (small62_lt hc.1).2, ?_⟩
    have it := it_range (pr := pr) (W := W) (H1 := H1) (Z1 := Z1) (lo := 0) (hi := n)
    rw [Int.sub_zero] at it
    exact q _ it
  · cases hln
  · cases hs
theorem sndI_range2 {tg a b : Expr} {a' b' : Ex} {p pos : Pos} (hg : Gl X "range") (hm : X.mg "range" = none) (hs : [a, b].all noStar = true) (A : ArgSs W X Wx r [a, b] [a', b']) (hpk : noPk [a', b'] = true) : SndI pr W X Wx tg (.Call (.Name "range" p) [a, b] [] pos) (evI r .range [a', b']) := by
  have h2 : noStar a = true ∧ noStar b = true := by simpa using hs
  refine ⟨_, pi_range2 hg hm (BEs.pa [a, b] hs) ((star_of h2.1).trans (by rw [star_of h2.2]; rfl)) (star_of h2.2), fun Z σ H ρ Fs R Rl ns hk hx => ?_⟩
  refine snd_it A hpk Rl ns hx hk fun us H1 Z1 ds xs hln rs hs q => ?_
  have hs : iRange ds = some xs := hs
  unfold iRange at hs
  split at hs
  · cases hln
  · rename_i n m _
    obtain ⟨x, y, rfl, rd, rd2⟩ := rep2 rs
    cases rd; cases rd2
    obtain ⟨hc, rfl⟩ := ite_some hs
    simp only [Bool.and_eq_true] at hc
    exact ⟨_, _, rfl, ⟨(small62_lt hc.1.1).1, (small62_lt hc.1.1).2, (small62_lt hc.1.2).1, (small62_lt hc.1.2).2⟩, q _ it_range⟩
  · cases hs
theorem sndI_enum {a : Expr} {elts : List Expr} {kk : Nat} {e' : Ex} {tpos p pos : Pos} (hK : X.K = W.K) (hg : Gl X "enumerate") (hm : X.mg "enumerate" = none) (hs : noStar a = true) (A : ArgSs W X Wx r [a] [e']) (hpk : noPk [e'] = true) : SndI true W X Wx (.Tuple elts kk tpos) (.Call (.Name "enumerate" p) [a] [] pos) (evI r .enum [e']) := by
  refine ⟨_, pi_enum hg hm (BEs.pa [a] (by simpa using hs)) (star_of hs), fun Z σ H ρ Fs R Rl ns hk hx => ?_⟩
  refine snd_it A hpk Rl ns hx hk fun us H1 Z1 ds xs hln rs hs q => ?_
  have hs : iEnum ds = some xs := hs
  unfold iEnum at hs
  split at hs
  · cases hs
    obtain ⟨x, rfl, rd⟩ := rep1 rs
    obtain ⟨a, ws, rfl, h1, h2, h3⟩ := rd.lstI
    exact ⟨a, ws, rfl, SqL.of h1, q _ (it_enum hK h1 h2 h3)⟩
  · cases hs
theorem sndI_zip {a b : Expr} {elts : List Expr} {kk : Nat} {a' b' : Ex} {tpos p pos : Pos} (hK : X.K = W.K) (hg : Gl X "zip") (hm : X.mg "zip" = none) (hs : [a, b].all noStar = true) (A : ArgSs W X Wx r [a, b] [a', b']) (hpk : noPk [a', b'] = true) : SndI true W X Wx (.Tuple elts kk tpos) (.Call (.Name "zip" p) [a, b] [] pos) (evI r .zip [a', b']) := by
  have h2 : noStar a = true ∧ noStar b = true := by simpa using hs
  refine ⟨_, RZ.pi_zipA hg hm (BEs.pa [a, b] hs) (star_of h2.1) ((back_any pos _).1.trans (star_all [b] (by simpa using h2.2)).1), fun Z σ H ρ Fs R Rl ns hk hx => ?_⟩
  refine snd_it A hpk Rl ns hx hk fun us H1 Z1 ds xs hln rs hs q => ?_
  have hs : iZip ds = some xs := hs
  unfold iZip at hs
  split at hs
  · cases hs
    obtain ⟨x, y, rfl, rd, rd2⟩ := rep2 rs
    obtain ⟨a, ws, rfl, g1, g2, g3⟩ := rd.lstI
    obtain ⟨b, zs, rfl, f1, f2, f3⟩ := rd2.lstI
    exact ⟨a, b, ws, zs, rfl, .inl ⟨SqL.of g1, SqL.of f1, q _ (it_zipL hK g1 g2 g3 f1 f2 f3)⟩⟩
  · cases hs
    obtain ⟨x, y, rfl, rd, rd2⟩ := rep2 rs
    obtain ⟨a, ws, rfl, g1, g2⟩ := rd.tupI
    obtain ⟨b, zs, rfl, f1, f2⟩ := rd2.tupI
    rw [← hK] at g1 f1
    exact ⟨a, b, ws, zs, rfl, .inr ⟨g1, f1, q _ (it_zipT hK g1 g2 f1 f2)⟩⟩
  · cases hs
end
end EV
end SSnd16
section SPrim3
set_option Elab.async false
set_option linter.all false
set_option maxRecDepth 100000
set_option maxHeartbeats 2000000
namespace EV
open PySem PySem.Spec PyProof.Rows L2
section
variable {W : Wd} {X : Cx} {Wx : WX} {r : Rec}
/-! ### in, not in -/
theorem seq_reads {pins : List (Addr × Obj)} {σ : L2.St} {H : Hp} {s : Shared} {Z : Addr → Prop} {y : V} {vy : Value} {d : D} (G : Good W X) (I : Inv X pins σ H s) (ry : RelV y vy) (ay : ArgR W H Z y d) (h : d.canLay0 = true) : ∃ as, Reads s.heap vy d as := reads_of G I ry ay h
theorem in_room (G : Good W X) {x : D} {xs : List D} (h : inOk x xs = true) : x.canLay0 = true ∧ PyData.canLayAll0 xs = true ∧ X.A.units + 1 + min (PyData.depthAll xs) x.depth < cLine := by
  unfold inOk at h
  simp only [Bool.and_eq_true, decide_eq_true_eq] at h
  have := G.un
  unfold deepD at h
  exact ⟨h.1.1, h.1.2, by omega⟩
theorem prim_isin (G : Good W X) : PrimR W .isin (rd2 X (compareOp .In)) := by
  intro H Z us ds res Q hz A hp hq
  have hp : pIsin ds = some res := hp
  unfold pIsin at hp
  split at hp
  · obtain ⟨x, y, rfl, h1, h2⟩ := args2 A
    cases h1.str; cases h2.str; cases hp
    exact ⟨_, _, rfl, BOp.of op_in_str ⟨_, _, rfl, rfl, hq _ _ _ (NewV.at hz (.bl _))⟩⟩
  · obtain ⟨x, y, rfl, h1, h2⟩ := args2 A
    obtain ⟨hc, rfl⟩ := ite_some hp
    obtain ⟨c1, c2, c3⟩ := in_room G hc
    refine ⟨_, _, rfl, fun pins s σ v u I rx ry => ?_⟩
    obtain ⟨as, ra⟩ := reads_of G I rx h1 c1
    obtain ⟨bs, rb⟩ := reads_of G I ry h2 (by simpa [PyData.canLay0] using c2)
    exact SeqAt.in_list_reads rb ra c2 c1 c3 ⟨.bl _, H, I, rfl, hq _ _ _ (NewV.at hz (.bl _))⟩
  · obtain ⟨x, y, rfl, h1, h2⟩ := args2 A
    obtain ⟨hc, rfl⟩ := ite_some hp
    obtain ⟨c1, c2, c3⟩ := in_room G hc
    refine ⟨_, _, rfl, fun pins s σ v u I rx ry => ?_⟩
    obtain ⟨as, ra⟩ := reads_of G I rx h1 c1
    obtain ⟨bs, rb⟩ := reads_of G I ry h2 (by simpa [PyData.canLay0] using c2)
    exact SeqAt.in_tuple_reads rb ra c2 c1 c3 ⟨.bl _, H, I, rfl, hq _ _ _ (NewV.at hz (.bl _))⟩
  · cases hp
theorem prim_notin (G : Good W X) : PrimR W .notin (rd2 X (compareOp .NotIn)) := by
  intro H Z us ds res Q hz A hp hq
  have hp : pNotin ds = some res := hp
  unfold pNotin at hp
  split at hp
  · obtain ⟨x, y, rfl, h1, h2⟩ := args2 A
    cases h1.str; cases h2.str; cases hp
    exact ⟨_, _, rfl, BOp.of op_notin_str ⟨_, _, rfl, rfl, hq _ _ _ (NewV.at hz (.bl _))⟩⟩
  · obtain ⟨x, y, rfl, h1, h2⟩ := args2 A
    obtain ⟨hc, rfl⟩ := ite_some hp
    obtain ⟨c1, c2, c3⟩ := in_room G hc
    refine ⟨_, _, rfl, fun pins s σ v u I rx ry => ?_⟩
    obtain ⟨as, ra⟩ := reads_of G I rx h1 c1
    obtain ⟨bs, rb⟩ := reads_of G I ry h2 (by simpa [PyData.canLay0] using c2)
    exact SeqAt.notIn_list_reads rb ra c2 c1 c3 ⟨.bl _, H, I, rfl, hq _ _ _ (NewV.at hz (.bl _))⟩
  · obtain ⟨x, y, rfl, h1, h2⟩ := args2 A
    obtain ⟨hc, rfl⟩ := ite_some hp
    obtain ⟨c1, c2, c3⟩ := in_room G hc
    refine ⟨_, _, rfl, fun pins s σ v u I rx ry => ?_⟩
    obtain ⟨as, ra⟩ := reads_of G I rx h1 c1
    obtain ⟨bs, rb⟩ := reads_of G I ry h2 (by simpa [PyData.canLay0] using c2)
    exact SeqAt.notIn_tuple_reads rb ra c2 c1 c3 ⟨.bl _, H, I, rfl, hq _ _ _ (NewV.at hz (.bl _))⟩
  · cases hp
/-! ### is None, is not None -/
def rdN (X : Cx) (f : Value → Value → Sem Value) : List V → Hp → VK → Prop := fun us H Q => ∃ x, us = [x] ∧ BOp X f x .non H Q
theorem ArgR.isNon {H : Hp} {Z : Addr → Prop} {u : V} {d : D} (h : ArgR W H Z u d) : decide (u = V.non) = isNonD d := by
  cases h with
  | dat r => cases r <;> rfl
  | ol _ _ => rfl
  | od _ _ _ => rfl
theorem prim_isnone (G : Good W X) : PrimR W .isnone (rdN X (compareOp .Is)) := by
  intro H Z us ds res Q hz A hp hq
  have hp : pIsnone ds = some res := hp
  unfold pIsnone at hp
  split at hp
  · obtain ⟨x, rfl, h1⟩ := args1 A
    cases hp
    refine ⟨_, rfl, BOp.of op_isN ⟨rfl, ?_⟩⟩
    rw [h1.isNon]
    exact hq _ _ _ (NewV.at hz (.bl _))
  · cases hp
theorem prim_notnone (G : Good W X) : PrimR W .notnone (rdN X (compareOp .IsNot)) := by
  intro H Z us ds res Q hz A hp hq
  have hp : pNotnone ds = some res := hp
  unfold pNotnone at hp
  split at hp
  · obtain ⟨x, rfl, h1⟩ := args1 A
    cases hp
    refine ⟨_, rfl, BOp.of op_notN ⟨rfl, ?_⟩⟩
    rw [h1.isNon]
    exact hq _ _ _ (NewV.at hz (.bl _))
  · cases hp
theorem be2N {a b : Expr} {f : Value → Value → Sem Value} {σ : L2.St} {H : Hp} {Q : VK} (hb : PE X b (tC .non)) (q : BEs X [a] σ H (fun us H1 => rdN X f us H1 Q)) : tOp (BOp X f) (BE X a) (tC .non) σ H Q := by
  refine BE.mono (fun u H1 q1 => ?_) q
  obtain ⟨x, e, q3⟩ := q1
  cases e
  exact q3
theorem snd_cmpN {p : Prim} {a b : Expr} {op : CmpOp} {pos : Pos} {es' : List Ex} (hb : PE X b (tC .non)) (P : PrimR W p (rdN X (compareOp op))) (hm : behindInMarks op b = false) (A : ArgSs W X Wx r [a] es') : SndE W X Wx (.Compare a [op] [b] pos) (fun ρ => (evDs r es' ρ).bind (prOut p)) :=
  snd_pr A P fun _ _ _ q => BE.of (pe_cmpR BOp.ok BE.pe hb hm) (be2N hb q)
theorem snd_cmpNT {p : Prim} {a b : Expr} {op : CmpOp} {pos : Pos} {es' : List Ex} (hb : PE X b (tC .non)) (P : PrimR W p (rdN X (compareOp op))) (hm : behindInMarks op b = false) (A : ArgSs W X Wx r [a] es') : SndT W X Wx (.Compare a [op] [b] pos) (fun ρ => ((evDs r es' ρ).bind (prOut p)).bind boolR) :=
  snd_prT A P fun _ _ _ q => BT.of (pt_cmpR BOp.ok BE.pe hb hm) (be2N hb q)
/-! ### a[b] -/
def BIx (X : Cx) : R2 := fun x y H Q => ∀ value slice pins s σ v u, Inv X pins σ H s → RelV x v → RelV y u → subscripted slice false v u = operate [v, u] (getItem v u) → wpAny (model X.prog X.w) X.A (subscriptTail value slice v u) (EP X pins σ Q) X.xe s
theorem BIx.ok : IxR X (BIx X) := fun value slice pins s σ H x y v u Q I rx ry h hs => h value slice pins s σ v u I rx ry hs
theorem BIx.of {t : R2} (h : IxR X t) {x y : V} {H : Hp} {Q : VK} (q : t x y H Q) : BIx X x y H Q := fun value slice pins s σ v u I rx ry hs => h value slice pins s σ H x y v u Q I rx ry q hs
def rdI (X : Cx) : List V → Hp → VK → Prop := fun us H Q => ∃ x y, us = [x, y] ∧ BIx X x y H Q
theorem at_rep {H : Hp} {Z : Addr → Prop} {us : List V} {xs : List D} {i : Int} {d : D} (rs : RepDs W.K H Z us xs) (h : atI xs i = some d) : ∃ u, atI us i = some u ∧ RepD W.K H Z u d := by
  unfold atI at h ⊢
  rw [rs.length]
  cases hj : ixN xs.length i with
  | none => rw [hj] at h; cases h
  | some j =>
    rw [hj] at h
    exact rs.get h
theorem prim_idx (G : Good W X) : PrimR W .idx (rdI X) := by
  intro H Z us ds res Q hz A hp hq
  have hp : pIdx ds = some res := hp
  unfold pIdx at hp
  split at hp
  · obtain ⟨x, y, rfl, h1, h2⟩ := args2 A
    obtain ⟨a, ws, rfl, g1, g2⟩ := h1.lst
    cases h2.int
    obtain ⟨d, hd, rfl⟩ := Option.map_eq_some_iff.mp hp
    obtain ⟨u, hu, rd⟩ := at_rep g2 hd
    exact ⟨_, _, rfl, BIx.of ix_list ⟨a, ws, _, u, rfl, rfl, SqL.of g1, hu, hq _ _ _ (NewV.at hz rd)⟩⟩
  · obtain ⟨x, y, rfl, h1, h2⟩ := args2 A
    obtain ⟨a, ws, rfl, g1, g2⟩ := h1.tup
    cases h2.int
    obtain ⟨d, hd, rfl⟩ := Option.map_eq_some_iff.mp hp
    obtain ⟨u, hu, rd⟩ := at_rep g2 hd
    exact ⟨_, _, rfl, BIx.of ix_tup ⟨a, ws, _, u, rfl, rfl, by rw [G.K]; exact g1, hu, hq _ _ _ (NewV.at hz rd)⟩⟩
  · obtain ⟨x, y, rfl, h1, h2⟩ := args2 A
    cases h1.str; cases h2.int
    obtain ⟨hc, hp⟩ := ite_eq hp
    obtain ⟨c, hd, rfl⟩ := Option.map_eq_some_iff.mp hp
    exact ⟨_, _, rfl, BIx.of ix_str ⟨_, _, c, rfl, rfl, fit_le hc, hd, hq _ _ _ (NewV.at hz (.str _))⟩⟩
  · cases hp
theorem snd_ix {a b : Expr} {pos : Pos} {es' : List Ex} (P : PrimR W .idx (rdI X)) (hs : PlainIx b) (A : ArgSs W X Wx r [a, b] es') : SndE W X Wx (.Subscript a b pos) (fun ρ => (evDs r es' ρ).bind (prOut .idx)) :=
  snd_pr A P fun _ _ _ q => BE.of (pe_ix BIx.ok BE.pe BE.pe hs) (by
    refine BE.mono (fun u H1 q1 => BE.mono (fun w H2 q2 => ?_) q1) q
    obtain ⟨x, y, e, q3⟩ := q2
    cases e
    exact q3)
/-! ### built-in functions of one argument -/
theorem snd_callB {p : Prim} {x : Str} {id : String} {e : Expr} {p0 pos : Pos} {es' : List Ex} (P : PrimR W p (BCall X (.builtin id))) (hg : Gl X x) (hm : X.mg x = none) (hv : bootBuiltins x = some (.builtin id)) (hn : x ≠ "__name__") (hdb : (x == ("__debug__" : Str)) = false) (hs : noStar e = true)
    (A : ArgSs W X Wx r [e] es') : SndE W X Wx (.Call (.Name x p0) [e] [] pos) (fun ρ => (evDs r es' ρ).bind (prOut p)) :=
  snd_pr A P fun _ _ _ q => BE.of (pe_callB BCall.ok hg hm hv (BEs.pa [e] (by simpa using hs)) hn hdb (star_of hs) rfl) q
theorem snd_callT {p : Prim} {x : Str} {T : String} {e : Expr} {p0 pos : Pos} {es' : List Ex} (P : PrimR W p (BCall X (.type T))) (hg : Gl X x) (hm : X.mg x = none) (hv : bootBuiltins x = some (.type T)) (hn : x ≠ "__name__") (hdb : (x == ("__debug__" : Str)) = false) (hs : noStar e = true)
    (A : ArgSs W X Wx r [e] es') : SndE W X Wx (.Call (.Name x p0) [e] [] pos) (fun ρ => (evDs r es' ρ).bind (prOut p)) :=
  snd_pr A P fun _ _ _ q => BE.of (pe_callTy BCall.ok hg hm hv (BEs.pa [e] (by simpa using hs)) hn hdb (star_of hs) rfl) q
theorem prim_len (G : Good W X) : PrimR W .len (BCall X (.builtin "len")) := by
  intro H Z us ds res Q hz A hp hq
  have hp : pLen ds = some res := hp
  unfold pLen at hp
  split at hp
  · obtain ⟨x, rfl, h1⟩ := args1 A
    obtain ⟨a, ws, rfl, g1, g2⟩ := h1.lst
    cases hp
    refine BCall.of call_len ⟨_, ws.length, rfl, .inl ⟨ws, SqL.of g1, rfl⟩, ?_⟩
    rw [g2.length]; exact hq _ _ _ (NewV.at hz (.int _))
  · obtain ⟨x, rfl, h1⟩ := args1 A
    obtain ⟨a, ws, rfl, g1, g2⟩ := h1.tup
    cases hp
    refine BCall.of call_len ⟨_, ws.length, rfl, .inr ⟨ws, by rw [G.K]; exact g1, rfl⟩, ?_⟩
    rw [g2.length]; exact hq _ _ _ (NewV.at hz (.int _))
  · obtain ⟨x, rfl, h1⟩ := args1 A
    cases h1.str
    obtain ⟨hc, rfl⟩ := ite_some hp
    exact BCall.of call_len ⟨_, _, rfl, ⟨fit_le hc, rfl⟩, hq _ _ _ (NewV.at hz (.int _))⟩
  · obtain ⟨x, rfl, h1⟩ := args1 A
    obtain ⟨a, ws, rfl, g1, g2, g3⟩ := h1.dct
    cases hp
    refine BCall.of call_lenD ⟨a, ws, rfl, g1, ?_⟩
    have hl := congrArg List.length g2
    rw [List.length_map, List.length_map] at hl
    rw [← hl]; exact hq _ _ _ (NewV.at hz (.int _))
  · cases hp
theorem prim_abs (G : Good W X) : PrimR W .abs (BCall X (.builtin "abs")) := by
  intro H Z us ds res Q hz A hp hq
  have hp : pAbs ds = some res := hp
  unfold pAbs at hp
  split at hp
  · obtain ⟨x, rfl, h1⟩ := args1 A
    cases h1.int; cases hp
    exact BCall.of call_abs ⟨_, rfl, hq _ _ _ (NewV.at hz (.int _))⟩
  · cases hp
theorem prim_toint (G : Good W X) : PrimR W .toint (BCall X (.type "int")) := by
  intro H Z us ds res Q hz A hp hq
  have hp : pToint ds = some res := hp
  unfold pToint at hp
  split at hp
  · obtain ⟨x, rfl, h1⟩ := args1 A
    cases h1.int; cases hp
    exact BCall.of call_int1 (.inl ⟨_, rfl, hq _ _ _ (NewV.at hz (.int _))⟩)
  · obtain ⟨x, rfl, h1⟩ := args1 A
    cases h1.bl; cases hp
    exact BCall.of call_int1 (.inr ⟨_, rfl, hq _ _ _ (NewV.at hz (.int _))⟩)
  · obtain ⟨x, rfl, h1⟩ := args1 A
    cases h1.str
    split at hp
    · rename_i hc
      obtain ⟨n, hn, rfl⟩ := Option.map_eq_some_iff.mp hp
      exact BCall.of call_int_str ⟨_, n, rfl, hn, hc, hq _ _ _ (NewV.at hz (.int _))⟩
    · cases hp
  · cases hp
theorem prim_list (G : Good W X) : PrimR W .list (BCall X (.type "list")) := by
  intro H Z us ds res Q hz A hp hq
  have hp : pList ds = some res := hp
  unfold pList at hp
  split at hp
  · obtain ⟨x, rfl, h1⟩ := args1 A
    obtain ⟨a, ws, rfl, g1, g2⟩ := h1.lst
    cases hp
    exact BCall.of call_list_of ⟨a, ws, rfl, .inl (SqL.of g1), fun l hl => hq _ _ _ (NewV.list hl hz g2)⟩
  · obtain ⟨x, rfl, h1⟩ := args1 A
    obtain ⟨a, ws, rfl, g1, g2⟩ := h1.tup
    cases hp
    exact BCall.of call_list_of ⟨a, ws, rfl, .inr (by rw [G.K]; exact g1), fun l hl => hq _ _ _ (NewV.list hl hz g2)⟩
  · cases hp
theorem prim_tuple (G : Good W X) : PrimR W .tuple (BCall X (.type "tuple")) := by
  intro H Z us ds res Q hz A hp hq
  have hp : pTuple ds = some res := hp
  unfold pTuple at hp
  split at hp
  · obtain ⟨x, rfl, h1⟩ := args1 A
    obtain ⟨a, ws, rfl, g1, g2⟩ := h1.lst
    cases hp
    exact BCall.of ofN ⟨a, ws, rfl, .inl ⟨SqL.of g1, fun l o hl ho => hq _ _ _ (NewV.tup hl ho hz g2)⟩⟩
  · obtain ⟨x, rfl, h1⟩ := args1 A
    have h1' := h1
    obtain ⟨a, ws, rfl, g1, g2⟩ := h1.tup
    cases hp
    exact BCall.of ofN ⟨a, ws, rfl, .inr ⟨by rw [G.K]; exact g1, hq _ _ _ (NewV.arg hz h1')⟩⟩
  · cases hp
theorem RepDs.bools {K : PySem.W.Frag} {H : Hp} {Z : Addr → Prop} : ∀ {us : List V} {xs : List D} {bs : List Bool}, RepDs K H Z us xs → boolsOf xs = some bs → us = bs.map V.bl
  | [], [], bs, .nil, h => by cases h; rfl
  | u :: us, d :: ds, bs, .cons r rs, h => by
    cases d with
    | bool b =>
      obtain ⟨cs, hc, rfl⟩ := Option.map_eq_some_iff.mp (show (boolsOf ds).map (b :: ·) = some bs from h)
      cases r
      rw [RepDs.bools rs hc]; rfl
    | _ => cases h
theorem prim_all (G : Good W X) : PrimR W .all (BCall X (.builtin "all")) := by
  intro H Z us ds res Q hz A hp hq
  have hp : pAll ds = some res := hp
  unfold pAll at hp
  split at hp
  · obtain ⟨x, rfl, h1⟩ := args1 A
    obtain ⟨a, ws, rfl, g1, g2⟩ := h1.lst
    obtain ⟨bs, hb, rfl⟩ := Option.map_eq_some_iff.mp hp
    have := g2.bools hb
    subst this
    exact BCall.of (cr_all G.calm) ⟨a, bs, rfl, SqL.of g1, hq _ _ _ (NewV.at hz (.bl _))⟩
  · cases hp
/-! ### isinstance -/
def tyN : Ty → String
  | .int => "int"
  | .bool => "bool"
  | .str => "str"
  | .tuple => "tuple"
  | .list => "list"
  | .dict => "dict"
def rdT (X : Cx) (t : Ty) : List V → Hp → VK → Prop := fun us H Q => ∃ x, us = [x] ∧ BCall X (.builtin "isinstance") [x, .ty (tyN t)] H Q
theorem ArgR.ty {H : Hp} {Z : Addr → Prop} {u : V} {d : D} {t : Ty} (h : ArgR W H Z u d) : ∃ a, TyX W.K H u (.type a) ∧ kitB a (tyN t) = some (tyB t d) := by
  cases h with
  | dat r =>
    cases r with
    | non => exact ⟨"NoneType", .base .non, by cases t <;> first | (show _ = some true; decide +kernel) | (show _ = some false; decide +kernel)⟩
    | bl b => exact ⟨"bool", .base (.bl b), by cases t <;> first | (show _ = some true; decide +kernel) | (show _ = some false; decide +kernel)⟩
    | int i => exact ⟨"int", .base (.int i), by cases t <;> first | (show _ = some true; decide +kernel) | (show _ = some false; decide +kernel)⟩
    | str x => exact ⟨"str", .base (.str x), by cases t <;> first | (show _ = some true; decide +kernel) | (show _ = some false; decide +kernel)⟩
    | lst h _ _ => exact ⟨"list", .base (.lst h), by cases t <;> first | (show _ = some true; decide +kernel) | (show _ = some false; decide +kernel)⟩
    | tup h _ _ => exact ⟨"tuple", .fTuple h, by cases t <;> first | (show _ = some true; decide +kernel) | (show _ = some false; decide +kernel)⟩
    | dct h _ _ _ => exact ⟨"dict", .base (.dK h), by cases t <;> first | (show _ = some true; decide +kernel) | (show _ = some false; decide +kernel)⟩
  | ol h _ => exact ⟨"list", .base (.lst h), by cases t <;> first | (show _ = some true; decide +kernel) | (show _ = some false; decide +kernel)⟩
  | od h _ _ => exact ⟨"dict", .base (.dK h), by cases t <;> first | (show _ = some true; decide +kernel) | (show _ = some false; decide +kernel)⟩
theorem prim_isi (G : Good W X) (t : Ty) : PrimR W (.isi t) (rdT X t) := by
  intro H Z us ds res Q hz A hp hq
  have hp : pIsi t ds = some res := hp
  unfold pIsi at hp
  split at hp
  · obtain ⟨x, rfl, h1⟩ := args1 A
    cases hp
    obtain ⟨a, ha, hk⟩ := h1.ty (t := t)
    exact ⟨_, rfl, BCall.of call_isi ⟨_, _, _, .type (tyN t), _, rfl, .ty _, by rw [G.K]; exact ha, kit_ty hk, hq _ _ _ (NewV.at hz (.bl _))⟩⟩
  · cases hp
theorem snd_isi {t : Ty} {e : Expr} {x : Str} {p0 p1 pos : Pos} {es' : List Ex} (P : PrimR W (.isi t) (rdT X t)) (hg : Gl X "isinstance") (hm : X.mg "isinstance" = none) (hgx : Gl X x) (hmx : X.mg x = none) (hvx : bootBuiltins x = some (.type (tyN t))) (hnx : x ≠ "__name__") (hdx : (x == ("__debug__" : Str)) = false) (hs : noStar e = true)
    (A : ArgSs W X Wx r [e] es') : SndE W X Wx (.Call (.Name "isinstance" p0) [e, .Name x p1] [] pos) (fun ρ => (evDs r es' ρ).bind (prOut (.isi t))) :=
  snd_pr A P fun σ H Q q => BE.of (pe_callB (id := "isinstance") BCall.ok hg hm (by decide +kernel) (BEs.pa [e, .Name x p1] (by simpa [noStar] using hs)) (by decide) (by decide) (star_of hs) rfl) (by
    show BEs X [e, .Name x p1] σ H (fun us H1 => BCall X (.builtin "isinstance") us H1 Q)
    refine BE.mono (fun u H1 q1 => ?_) q
    obtain ⟨x', e', q3⟩ := q1
    cases e'
    exact BE.of (pe_bltn hgx hmx hvx (v := .ty (tyN t)) rfl hnx hdx) q3)
end
end EV
end SPrim3
section SPrim4
set_option Elab.async false
set_option linter.all false
set_option maxRecDepth 100000
set_option maxHeartbeats 2000000
namespace EV
open PySem PySem.Spec PyProof.Rows L2
/-! ### readers in a row (as snd_Ds, for parts that may be left out) -/
def SndR (W : Wd) (Wx : WX) (t : TE) (f : Env → Out Val) : Prop :=
  ∀ (Z : Addr → Prop) (σ : L2.St) (H : Hp) (ρ : Env) (Fs : Nat → List Addr) (Q : VK), RelE W H Z σ ρ Fs → f ρ ≠ .stuck →
    (∀ v ρ', f ρ = .ok v ρ' → ∀ u H' Z' Fs' F, Nxt W H Z Fs σ ρ' H' Z' Fs' → NV W H Fs H' Z' Fs' u v F → Q u H') → Exd W Wx H Z Fs σ (f ρ) → t σ H Q
def BTe : List TE → TA
  | [] => fun _ H Q => Q [] H
  | t :: ts => fun σ H Q => t σ H fun u H1 => BTe ts σ H1 fun us H2 => Q (u :: us) H2
def ArgT (W : Wd) (Wx : WX) (r : Rec) (t : TE) : Ex → Prop
  | .pk i => ∀ (σ : L2.St) (H : Hp) (Q : VK) (u : V), σ[i]? = some (some u) → Q u H → t σ H Q
  | e' => SndR W Wx t (r.e e')
section
variable {W : Wd} {X : Cx} {Wx : WX} {r : Rec}
theorem argT_of {t : TE} {e' : Ex} (h : ∀ i, e' ≠ .pk i) (s : ArgT W Wx r t e') : SndR W Wx t (r.e e') := by
  cases e' with
  | pk i => exact absurd rfl (h i)
  | _ => exact s
theorem snd_Te : ∀ (ts : List TE) (es' : List Ex), All2 (ArgT W Wx r) ts es' → ∀ (Z : Addr → Prop) (σ : L2.St) (H : Hp) (ρ : Env) (Fs : Nat → List Addr) (Q : List V → Hp → Prop), RelE W H Z σ ρ Fs → evDs r es' ρ ≠ .stuck →
    (∀ ds ρ', evDs r es' ρ = .ok ds ρ' → ∀ us H' Z' Fs', Nxt W H Z Fs σ ρ' H' Z' Fs' → ArgRs W H' Z' us ds → Q us H') → Exd W Wx H Z Fs σ (evDs r es' ρ) → BTe ts σ H Q := by
  intro ts
  induction ts with
  | nil =>
    intro es' A Z σ H ρ Fs Q R ns hk hx
    cases es' with
    | nil => exact hk [] ρ rfl [] H Z Fs (.refl R) .nil
    | cons _ _ => exact A.elim
  | cons t ts ih =>
    intro es' A Z σ H ρ Fs Q R ns hk hx
    cases es' with
    | nil => exact A.elim
    | cons e' es' =>
      obtain ⟨A1, A2⟩ := A
      by_cases hp : ∃ i, e' = .pk i
      · obtain ⟨i, rfl⟩ := hp
        cases hp0 : peek ρ i with
        | none =>
          have e0 : evDs r (.pk i :: es') ρ = .stuck := by
            show (match peek ρ i with | some _ => _ | none => Out.stuck) = _
            rw [hp0]
          exact absurd e0 ns
        | some d0 =>
          have e1 : evDs r (.pk i :: es') ρ = (evDs r es' ρ).bind fun ds ρ => match peek ρ i with | some d => .ok (d :: ds) ρ | none => .stuck := by
            show (match peek ρ i with | some _ => _ | none => Out.stuck) = _
            simp only [hp0]
            all_goals rfl
          rw [e1] at ns hk hx
          obtain ⟨u, hu⟩ : ∃ u, σ[i]? = some (some u) := by
            unfold peek at hp0
            split at hp0
            · rename_i v' hv'
              obtain ⟨u, hu, _⟩ := R.val i v' hv'
              exact ⟨u, hu⟩
            · cases hp0
          refine A1 σ H _ u hu (ih es' A2 Z σ H ρ Fs _ R (Out.bind_ns ns) (fun ds ρ' q us H' Z' Fs' n a => ?_) hx.fst)
          rw [bind_ok q] at ns hk
          cases hpk : peek ρ' i with
          | none => simp only [hpk] at ns; exact absurd rfl ns
          | some d =>
            refine hk (d :: ds) ρ' (by simp only [hpk]) (u :: us) H' Z' Fs' n (.cons ?_ a)
            unfold peek at hpk
            split at hpk
            · rename_i v' hv'
              obtain ⟨u', hu', rv⟩ := n.r.val i v' hv'
              rw [hu] at hu'; cases hu'
              exact rv.argR hpk
            · cases hpk
      · have hne : ∀ i, e' ≠ .pk i := fun i q => hp ⟨i, q⟩
        have s := argT_of hne A1
        have e1 : evDs r (e' :: es') ρ = (r.e e' ρ).bind fun v ρ => (ofO v.data ρ).bind fun d ρ => (evDs r es' ρ).bind fun ds ρ => .ok (d :: ds) ρ := by
          have e2 : evDs r (e' :: es') ρ = (r.e e' ρ).bind fun v ρ => match v.data with | some d => (evDs r es' ρ).bind fun ds ρ => .ok (d :: ds) ρ | none => .stuck := by
            cases e' <;> first | exact absurd rfl (hne _) | rfl
          rw [e2]
          congr 1
          funext v ρ1
          cases v.data <;> rfl
        rw [e1] at ns hk hx
        refine s Z σ H ρ Fs _ R (Out.bind_ns ns) (fun v ρ1 q u H1 Z1 Fs1 F n nv => ?_) hx.fst
        rw [bind_ok q] at ns hk
        obtain ⟨d, hd, e3⟩ := ofO_ns (Out.bind_ns ns)
        rw [bind_ok e3] at ns hk
        have n1 := n.frz nv
        have rd := nv.v.froze hd
        have hx2 : Exd W Wx H1 (zor Z1 F) Fs1 σ (evDs r es' ρ1) := by
          intro c fs ρ' q2 cls dx H' Z' Fs' n' x
          exact hx c fs ρ' (by rw [bind_ok q, bind_ok e3, q2]; rfl) cls dx H' Z' Fs' (n1.trans n') x
        refine ih es' A2 _ σ H1 ρ1 Fs1 _ n1.r (Out.bind_ns ns) (fun ds ρ' q2 us H' Z' Fs' n2 a => ?_) hx2
        exact hk (d :: ds) ρ' (by rw [bind_ok q2]) (u :: us) H' Z' Fs' (n1.trans n2) (.cons (.dat (rd.stay (n2.stay n1.r))) a)
/-! ### a[lo:hi] -/
def tI (X : Cx) : Option Expr → TE
  | none => tC .non
  | some e => fun σ H Q => BE X e σ H fun x H1 => (∃ i, x = .int i) ∧ Q x H1
def tO (X : Cx) : Option Expr → TO
  | none => tNoPart
  | some e => tPart (BE X e)
theorem tO.po : ∀ o : Option Expr, PO X o (tO X o)
  | none => po_none
  | some _ => po_some BE.pe
/-- a part that is left out, or an int -/
def OptS (W : Wd) (X : Cx) (Wx : WX) (r : Rec) (o : Option Expr) (e' : Ex) : Prop := (∀ i, e' ≠ .pk i) ∧ SndR W Wx (tI X o) (r.e e')
theorem optS_none {f : Env → Out Val} (h : ∀ ρ, f ρ = .stuck ∨ f ρ = .ok (.dat .none) ρ) : SndR W Wx (tI X none) f := by
  intro Z σ H ρ Fs Q R ns hk hx
  rcases h ρ with h | h
  · exact absurd h ns
  · exact hk _ ρ h .non H Z Fs [] (.refl R) ⟨.dat .non, fun _ m => (by cases m), fun _ m => (by cases m)⟩
theorem optS_some {e : Expr} {es' : List Ex} (A : ArgSs W X Wx r [e] es') : SndR W Wx (tI X (some e)) (fun ρ => (evDs r es' ρ).bind (prOut .opti)) := by
  intro Z σ H ρ Fs Q R ns hk hx
  dsimp only at ns hk hx
  have main : BEs X [e] σ H (fun us H1 => ∃ i, us = [.int i] ∧ Q (.int i) H1) := by
    refine snd_Ds_bind A R ns hx fun ds ρ1 us H1 Z1 Fs1 q n a _ ns1 _ => ?_
    obtain ⟨v, hv, e1⟩ := ofO_ns ns1
    have hp : (pOpti ds).map PR.val = some v := hv
    unfold pOpti at hp
    split at hp
    · obtain ⟨x, rfl, h1⟩ := args1 a
      cases h1.int; cases hp
      exact ⟨_, rfl, hk _ ρ1 ((bind_ok q).trans e1) _ H1 Z1 Fs1 [] n ⟨.dat (.int _), fun _ m => (by cases m), fun _ m => (by cases m)⟩⟩
    · cases hp
  exact BE.mono (fun x H1 q => by obtain ⟨i, e, q⟩ := q; cases e; exact ⟨⟨i, rfl⟩, q⟩) main
def BSl (X : Cx) : V → Option Int → Option Int → Hp → VK → Prop := fun x lo hi H Q => ∀ pins s σ v vl vu sl, Inv X pins σ H s → RelV x v → s.heap.IsSliceOf sl vl vu .none → IsPart vl lo → IsPart vu hi →
    ∃ T id, typeLookup (.type T) "__getitem__" = pure (some (.builtin id)) ∧ s.TypeIs v T ∧ wpAny (model X.prog X.w) X.A (getItem v (.ref sl)) (EP X pins σ Q) X.xe s
theorem BSl.ok : L2.SlR X (BSl X) := fun pins s σ H x v vl vu lo hi sl Q I rx hs pl pu h => h pins s σ v vl vu sl I rx hs pl pu
theorem BSl.of {t : V → Option Int → Option Int → Hp → VK → Prop} (h : L2.SlR X t) {x : V} {lo hi : Option Int} {H : Hp} {Q : VK} (q : t x lo hi H Q) : BSl X x lo hi H Q := fun pins s σ v vl vu sl I rx hs pl pu => h pins s σ H x v vl vu lo hi sl Q I rx hs pl pu q
def opV : V → Option (Option Int)
  | .non => some none
  | .int i => some (some i)
  | _ => none
def rdS (X : Cx) : List V → Hp → VK → Prop := fun us H Q => ∃ x l h lo hi, us = [x, l, h] ∧ opV l = some lo ∧ opV h = some hi ∧ BSl X x lo hi H Q
theorem args3 {H : Hp} {Z : Addr → Prop} {us : List V} {d e f : D} (a : ArgRs W H Z us [d, e, f]) : ∃ x y z, us = [x, y, z] ∧ ArgR W H Z x d ∧ ArgR W H Z y e ∧ ArgR W H Z z f := by
  cases a with | cons a1 a => cases a with | cons a2 a => cases a with | cons a3 a => cases a; exact ⟨_, _, _, rfl, a1, a2, a3⟩
theorem ArgR.op {H : Hp} {Z : Addr → Prop} {u : V} {d : D} {l : Option Int} (h : ArgR W H Z u d) (e : opInt d = some l) : opV u = some l := by
  unfold opInt at e
  split at e
  · cases h.non; exact e
  · cases h.int; exact e
  · cases e
theorem cut_rep {H : Hp} {Z : Addr → Prop} {us : List V} {xs : List D} (rs : RepDs W.K H Z us xs) (lo hi : Option Int) : RepDs W.K H Z (cutV us lo hi) (cutD xs lo hi) := by
  unfold cutV cutD
  rw [rs.length]
  exact (rs.drop _).take _
theorem cut_all {H : Hp} {Z : Addr → Prop} {us : List V} {xs : List D} (rs : RepDs W.K H Z us xs) {lo hi : Option Int} (hw : HT.sIx us.length 0 lo = 0 ∧ HT.sIx us.length us.length hi = us.length) : cutD xs lo hi = xs := by
  unfold cutD
  rw [← rs.length, hw.1, hw.2, List.drop_zero, Nat.sub_zero, rs.length, List.take_length]
theorem prim_slc (G : Good W X) : PrimR W .slc (rdS X) := by
  intro H Z us ds res Q hz A hp hq
  have hp : pSlc ds = some res := hp
  unfold pSlc at hp
  split at hp
  · obtain ⟨x, l, h, rfl, h1, h2, h3⟩ := args3 A
    split at hp
    · rename_i a b ea eb
      obtain ⟨p, ws, rfl, g1, g2⟩ := h1.lst
      cases hp
      exact ⟨_, _, _, _, _, rfl, h2.op ea, h3.op eb, BSl.of sl_list ⟨p, ws, rfl, SqL.of g1, fun q hn => hq _ _ _ (NewV.list hn hz (cut_rep g2 _ _))⟩⟩
    · cases hp
  · obtain ⟨x, l, h, rfl, h1, h2, h3⟩ := args3 A
    split at hp
    · rename_i a b ea eb
      have h1' := h1
      obtain ⟨p, ws, rfl, g1, g2⟩ := h1.tup
      cases hp
      refine ⟨_, _, _, _, _, rfl, h2.op ea, h3.op eb, BSl.of sliN ⟨p, ws, rfl, by rw [G.K]; exact g1, fun hw => ?_, fun q o hn ho => hq _ _ _ (NewV.tup hn ho hz (cut_rep g2 _ _))⟩⟩
      rw [cut_all g2 hw] at hq
      exact hq _ _ _ (NewV.arg hz h1')
    · cases hp
  · obtain ⟨x, l, h, rfl, h1, h2, h3⟩ := args3 A
    split at hp
    · rename_i a b ea eb
      cases h1.str
      obtain ⟨hc, rfl⟩ := ite_some hp
      exact ⟨_, _, _, _, _, rfl, h2.op ea, h3.op eb, BSl.of sl_str ⟨_, rfl, fit_le hc, hq _ _ _ (NewV.at hz (.str _))⟩⟩
    · cases hp
  · cases hp
theorem tI_tO (o : Option Expr) {σ : L2.St} {H : Hp} {Q : VK} {Q' : Option Int → Hp → Prop} (h : tI X o σ H Q) (q : ∀ u l H1, opV u = some l → Q u H1 → Q' l H1) : tO X o σ H Q' := by
  cases o with
  | none => exact q .non none H rfl h
  | some e => exact BE.mono (fun x H1 ⟨⟨i, hi⟩, q1⟩ => by subst hi; exact ⟨i, rfl, q _ _ H1 rfl q1⟩) h
theorem snd_slc {e : Expr} {lo hi : Option Expr} {p2 pos : Pos} {es' : List Ex} (P : PrimR W .slc (rdS X)) (A : All2 (ArgT W Wx r) [BE X e, tI X lo, tI X hi] es') : SndE W X Wx (.Subscript e (.Slice lo hi none p2) pos) (fun ρ => (evDs r es' ρ).bind (prOut .slc)) := by
  intro Z σ H ρ Fs Q R ns hk hx
  dsimp only at ns hk hx
  refine BE.of (pe_slice BSl.ok BE.pe (tO.po lo) (tO.po hi)) ?_
  have main : BTe [BE X e, tI X lo, tI X hi] σ H (fun us H1 => rdS X us H1 Q) := by
    refine snd_Te _ _ A Z σ H ρ Fs _ R (Out.bind_ns ns) (fun ds ρ1 q us H1 Z1 Fs1 n a => ?_) hx.fst
    rw [bind_ok q] at ns hk
    obtain ⟨v, hv, e1⟩ := ofO_ns ns
    cases hp : psem .slc ds with
    | none => rw [hp] at hv; cases hv
    | some res =>
      rw [hp] at hv; cases hv
      refine P H1 Z1 us ds res Q n.r.zok a hp fun u H' Z' nv => ?_
      obtain ⟨n2, F, nv2⟩ := nv.nxt n.r
      exact hk _ ρ1 e1 u H' Z' Fs1 F (n.trans n2) (NV.trans n nv2)
  refine BE.mono (fun x H1 q1 => ?_) main
  refine tI_tO lo q1 fun l lo' H2 e2 q2 => tI_tO hi q2 fun h hi' H3 e3 q3 => ?_
  obtain ⟨x', l', h', a, b, e, f1, f2, q4⟩ := q3
  cases e
  rw [e2] at f1; cases f1
  rw [e3] at f2; cases f2
  exact q4
/-- the script's slice -/
theorem snd_scut {i : Nat} {x : Str} {lo hi : Option Expr} {dl dh : D} {l h : Option Int} {p0 p2 pos : Pos} {cls : Nat → Nat → Bool} {cl : Nat → List Val → CRes} (G : Good W X) (v : VarOk X i x) (hl : ∀ (σ : L2.St) (H : Hp) (Q : Option Int → Hp → Prop), Q l H → tO X lo σ H Q) (hh : ∀ (σ : L2.St) (H : Hp) (Q : Option Int → Hp → Prop), Q h H → tO X hi σ H Q) (el : opInt dl = some l) (eh : opInt dh = some h) :
    SndE W X Wx (.Subscript (.Name x p0) (.Slice lo hi none p2) pos) (stepE cls cl r (.scut i (.cst dl) (.cst dh))) := by
  intro Z σ H ρ Fs Q R ns hk hx
  cases e : ρ[i]? with
  | none => exact absurd (by simp only [stepE, e]) ns
  | some w =>
  cases w with
  | none => exact absurd (by simp only [stepE, e]) ns
  | some w =>
  cases w with
  | scr ds =>
    obtain ⟨u, hu, rv⟩ := R.val i _ e
    generalize hF : Fs i = F at rv
    cases rv with
    | @scr a us _ hz rs =>
      refine BE.of (pe_slice (BSl.ok (X := X)) BE.pe (tO.po lo) (tO.po hi)) (BE.var v hu (hl σ H _ (hh σ H _ ?_)))
      refine BSl.of sl_list ⟨a, us, rfl, by rw [G.K]; exact hz.sqL, fun p hn => ?_⟩
      obtain ⟨n, F2, nv⟩ := (NewV.list hn R.zok (cut_rep rs l h)).nxt R
      refine hk (.ol (cutD ds l h)) ρ ?_ _ _ _ _ F2 n nv
      have e2 : stepE cls cl r (.scut i (.cst dl) (.cst dh)) ρ = prOut .slc [.list ds, dl, dh] ρ := by simp only [stepE, e]
      rw [e2]
      unfold prOut
      show ofO ((pSlc [.list ds, dl, dh]).map PR.val) ρ = _
      unfold pSlc
      simp only [el, eh]
      rfl
  | _ => exact absurd (by simp only [stepE, e]) ns
end
end EV
end SPrim4
section SPrim5
set_option Elab.async false
set_option linter.all false
set_option maxRecDepth 100000
set_option maxHeartbeats 2000000
namespace EV
open PySem PySem.Spec PyProof.Rows L2
/-! ### methods of texts, lists, tuples: one argument -/
def TyIs (X : Cx) (T : String) (x : V) (H : Hp) : Prop := ∀ pins s σ v, Inv X pins σ H s → RelV x v → s.TypeIs v T ∧ ∀ a, v = .ref a → ∃ ob, s.heap.get? a = some ob ∧ ob.dict = none
def baseOk : Expr → Bool
  | .Name _ _ => true
  | .Subscript _ _ _ => true
  | _ => false
theorem base_of {o : Expr} {name : Str} {env : PySem.Env} (h : baseOk o = true) : attributeBase o name env (eval o env) = eval o env := by
  cases o <;> first | rfl | cases h
section
variable {W : Wd} {X : Cx} {Wx : WX} {r : Rec}
theorem be_meth {o e : Expr} {name : Str} {apos cpos : Pos} {σ : L2.St} {H : Hp} {Q : VK} (hb : baseOk o = true) (hs : noStar e = true) (hline : (apos.endLine == cpos.line) = true)
    (q : BE X o σ H fun x H1 => ∃ T id, PlainAttrs T ∧ Slot T name id ∧ typeOf (.builtin id) = pure (.type "method_descriptor") ∧ TyIs X T x H1 ∧ BE X e σ H1 fun y H2 => BMt X id x [y] H2 Q) : BE X (.Call (.Attribute o name apos) [e] [] cpos) σ H Q := by
  intro pins s I
  refine wpAny_Call_method_late (base_of hb) (few_of (by simpa using hs) (show 1 < 30 by decide)) hline rfl (thn (q pins s I) ?_)
  rintro v s1 ⟨x, H1, I1, r1, T, id, pa, slot, hty, ht, q1⟩
  obtain ⟨h1, h2⟩ := ht pins s1 σ v I1 r1
  refine ⟨T, id, pa, slot, hty, h1, h2, ?_⟩
  have hA := (BEs.pa (X := X) [e] (by simpa using hs)).run cpos pins s1 σ H1 (fun us H2 => BMt X id x us H2 Q) I1 q1
  rw [star_of hs] at hA ⊢
  refine Calls.callWith_builtin rfl (Calls.evalArgs_plain (thn hA ?_))
  rintro us s2 ⟨vs, H2, I2, r2, q2⟩
  exact q2 pins s2 σ v us I2 r1 r2
theorem ty_str {z : Str} {H : Hp} : TyIs X "str" (.str z) H := by
  intro pins s σ v I r
  obtain ⟨t, rfl⟩ := r
  exact ⟨typeIs_str _ _ _, fun _ e => nomatch e⟩
theorem ty_lst {a : Addr} {us : List V} {H : Hp} (h : H a = some (.lst us)) : TyIs X "list" (.ref a) H := by
  intro pins s σ v I r
  cases r
  obtain ⟨ws, n, _, e, _⟩ := I.lst h
  exact ⟨⟨_, e, rfl⟩, fun b q => by cases q; exact ⟨_, e, rfl⟩⟩
theorem ty_tup {a : Addr} {o : Obj} {us : List V} {H : Hp} (h : H a = some (.frz o (.tup us))) (ho : TupO o) : TyIs X "tuple" (.ref a) H := by
  intro pins s σ v I r
  cases r
  obtain ⟨e, _⟩ := I.hok a _ h
  exact ⟨⟨_, e, ho.1⟩, fun b q => by cases q; exact ⟨_, e, ho.2⟩⟩
def tS (X : Cx) (e : Expr) : TE := fun σ H Q => BE X e σ H fun x H1 => (∃ z, x = .str z) ∧ Q x H1
theorem ostr_s {e : Expr} {es' : List Ex} (A : ArgSs W X Wx r [e] es') : SndR W Wx (tS X e) (fun ρ => (evDs r es' ρ).bind (prOut .ostr)) := by
  intro Z σ H ρ Fs Q R ns hk hx
  dsimp only at ns hk hx
  have main : BEs X [e] σ H (fun us H1 => ∃ z, us = [.str z] ∧ Q (.str z) H1) := by
    refine snd_Ds_bind A R ns hx fun ds ρ1 us H1 Z1 Fs1 q n a _ ns1 _ => ?_
    obtain ⟨v, hv, e1⟩ := ofO_ns ns1
    have hp : (pOstr ds).map PR.val = some v := hv
    unfold pOstr at hp
    split at hp
    · obtain ⟨x, rfl, h1⟩ := args1 a
      cases h1.str; cases hp
      exact ⟨_, rfl, hk _ ρ1 ((bind_ok q).trans e1) _ H1 Z1 Fs1 [] n ⟨.dat (.str _), fun _ m => (by cases m), fun _ m => (by cases m)⟩⟩
    · cases hp
  exact BE.mono (fun x H1 q => by obtain ⟨i, e, q⟩ := q; cases e; exact ⟨⟨i, rfl⟩, q⟩) main
/-- from readers in a row to a rule -/
theorem snd_prTe {p : Prim} {e : Expr} {ts : List TE} {es' : List Ex} {rd : List V → Hp → VK → Prop} (A : All2 (ArgT W Wx r) ts es') (P : PrimR W p rd)
    (hb : ∀ σ H Q, BTe ts σ H (fun us H1 => rd us H1 Q) → BE X e σ H Q) : SndE W X Wx e (fun ρ => (evDs r es' ρ).bind (prOut p)) := by
  intro Z σ H ρ Fs Q R ns hk hx
  dsimp only at ns hk hx
  refine hb σ H Q (snd_Te _ _ A Z σ H ρ Fs _ R (Out.bind_ns ns) (fun ds ρ1 q us H1 Z1 Fs1 n a => ?_) hx.fst)
  rw [bind_ok q] at ns hk
  obtain ⟨v, hv, e1⟩ := ofO_ns ns
  cases hp : psem p ds with
  | none => rw [hp] at hv; cases hv
  | some res =>
    rw [hp] at hv; cases hv
    refine P H1 Z1 us ds res Q n.r.zok a hp fun u H' Z' nv => ?_
    obtain ⟨n2, F, nv2⟩ := nv.nxt n.r
    exact hk _ ρ1 e1 u H' Z' Fs1 F (n.trans n2) (NV.trans n nv2)
def rdM (X : Cx) (id : String) : List V → Hp → VK → Prop := fun us H Q => ∃ x y, us = [x, y] ∧ BMt X id x [y] H Q
/-- x.m(y) of a text -/
theorem snd_strM {p : Prim} {o e : Expr} {name : Str} {id : String} {apos cpos : Pos} {es' : List Ex} (P : PrimR W p (rdM X id)) (slot : Slot "str" name id) (hty : typeOf (.builtin id) = pure (.type "method_descriptor")) (hb : baseOk o = true) (hs : noStar e = true) (hline : (apos.endLine == cpos.line) = true)
    (A : All2 (ArgT W Wx r) [tS X o, BE X e] es') : SndE W X Wx (.Call (.Attribute o name apos) [e] [] cpos) (fun ρ => (evDs r es' ρ).bind (prOut p)) :=
  snd_prTe A P fun σ H Q q => be_meth hb hs hline (BE.mono (fun x H1 ⟨⟨z, hz⟩, q1⟩ => by
    subst hz
    refine ⟨"str", id, F.plainAttrs_str, slot, hty, ty_str, BE.mono (fun y H2 q2 => ?_) q1⟩
    obtain ⟨x', y', e, q3⟩ := q2
    cases e
    exact q3) q)
theorem reps_strs {H : Hp} {Z : Addr → Prop} : ∀ ys : List Str, RepDs W.K H Z (ys.map V.str) (ys.map PyData.str)
  | [] => .nil
  | y :: ys => .cons (.str y) (reps_strs ys)
theorem prim_split (G : Good W X) : PrimR W .split (rdM X "str.split") := by
  intro H Z us ds res Q hz A hp hq
  have hp : pSplit ds = some res := hp
  unfold pSplit at hp
  split at hp
  · obtain ⟨x, y, rfl, h1, h2⟩ := args2 A
    cases h1.str; cases h2.str
    obtain ⟨hc, rfl⟩ := ite_some hp
    simp only [Bool.and_eq_true, Bool.not_eq_true'] at hc
    exact ⟨_, _, rfl, BMt.of mt_split ⟨_, _, rfl, rfl, hc.1, fit_le hc.2, fun p hn => hq _ _ _ (NewV.list hn hz (reps_strs _))⟩⟩
  · cases hp
theorem prim_partition (G : Good W X) : PrimR W .partition (rdM X "str.partition") := by
  intro H Z us ds res Q hz A hp hq
  have hp : pPartition ds = some res := hp
  unfold pPartition at hp
  split at hp
  · obtain ⟨x, y, rfl, h1, h2⟩ := args2 A
    cases h1.str; cases h2.str
    obtain ⟨hc, rfl⟩ := ite_some hp
    simp only [Bool.and_eq_true, Bool.not_eq_true'] at hc
    exact ⟨_, _, rfl, BMt.of partN ⟨_, _, rfl, rfl, hc.1, fit_le hc.2, fun p o hn ho => hq _ _ _ (NewV.tup hn ho hz (.cons (.str _) (.cons (.str _) (.cons (.str _) .nil))))⟩⟩
  · cases hp
def isSeqD : D → Bool
  | .list _ => true
  | .tuple _ => true
  | _ => false
theorem oseq_s {e : Expr} {es' : List Ex} (A : ArgSs W X Wx r [e] es') (hpk : noPk es' = true) : SndE W X Wx e (fun ρ => (evDs r es' ρ).bind (prOut .oseq)) := by
  intro Z σ H ρ Fs Q R ns hk hx
  dsimp only at ns hk hx
  have main : BEs X [e] σ H (fun us H1 => ∃ x, us = [x] ∧ Q x H1) := by
    refine snd_Ds_bind A R ns hx fun ds ρ1 us H1 Z1 Fs1 q n a a2 ns1 _ => ?_
    obtain ⟨v, hv, e1⟩ := ofO_ns ns1
    have hp : (pOseq ds).map PR.val = some v := hv
    have rs := a2 hpk
    unfold pOseq at hp
    split at hp
    · obtain ⟨x, rfl, h1⟩ := rep1 rs
      cases hp
      exact ⟨_, rfl, hk _ ρ1 ((bind_ok q).trans e1) _ H1 Z1 Fs1 [] n ⟨.dat h1, fun _ m => (by cases m), fun _ m => (by cases m)⟩⟩
    · obtain ⟨x, rfl, h1⟩ := rep1 rs
      cases hp
      exact ⟨_, rfl, hk _ ρ1 ((bind_ok q).trans e1) _ H1 Z1 Fs1 [] n ⟨.dat h1, fun _ m => (by cases m), fun _ m => (by cases m)⟩⟩
    · cases hp
  exact BE.mono (fun x H1 q => by obtain ⟨x', e, q⟩ := q; cases e; exact q) main
theorem oseq_v {as : List Ex} {ρ ρ' : Env} {v : Val} (h : (evDs r as ρ).bind (prOut .oseq) = .ok v ρ') : ∃ d, v = .dat d ∧ isSeqD d = true := by
  cases hd : evDs r as ρ with
  | exc c fs ρ2 => rw [hd] at h; cases h
  | stuck => rw [hd] at h; cases h
  | ok ds ρ2 =>
    rw [bind_ok hd] at h
    have h2 : ofO ((pOseq ds).map PR.val) ρ2 = .ok v ρ' := h
    unfold pOseq at h2
    split at h2
    · cases h2; exact ⟨_, rfl, rfl⟩
    · cases h2; exact ⟨_, rfl, rfl⟩
    · cases h2
theorem ix_list_m (G : Good W X) {H : Hp} {Z : Addr → Prop} {a : Addr} {us : List V} {xs : List D} {y : V} {d : D} {j : Nat} {Q : VK} (ha : H a = some (.lst us)) (rs : RepDs W.K H Z us xs) (ay : ArgR W H Z y d) (hc : inOk d xs = true) (hj : idxD d xs = some j) (hq : Q (.int (j : Nat)) H) : BMt X "list.index" (.ref a) [y] H Q := by
  intro pins s σ v ws I rx rv
  cases (show v = Value.ref a from rx)
  obtain ⟨vy, rfl, ry⟩ := vals1 rv
  obtain ⟨zs, n, k1, g1, hz⟩ := I.lst ha
  obtain ⟨e, hj', e1, e2, e3⟩ := found_at G I k1 rs ry ay hc hj
  have hT : s.TypeIs (.ref a) "list" := ⟨_, g1, rfl⟩
  have hs : (j : Int) < 2 ^ 63 - 1 := by
    have : zs.toArray.size ≤ sizeLine := by rw [List.size_toArray, ← k1.length]; exact hz
    rw [sizeLine_eq] at this
    have e : (2 : Int) ^ 63 = 9223372036854775808 := by decide
    rw [e]; omega
  exact call_meets F.slot_list_index hT F.entry_list_index (F.args_list_index_2 _ _) (SeqAt.list_indexAt a zs.toArray n none #[] vy e j hj' hs e1 e2) ⟨g1, e3, .int (j : Nat), H, I.tok _, ⟨_, rfl⟩, hq⟩
theorem ix_tup_m (G : Good W X) {H : Hp} {Z : Addr → Prop} {a : Addr} {us : List V} {xs : List D} {y : V} {d : D} {j : Nat} {Q : VK} (ha : SqT X.K H a us) (rs : RepDs W.K H Z us xs) (ay : ArgR W H Z y d) (hc : inOk d xs = true) (hj : idxD d xs = some j) (hq : Q (.int (j : Nat)) H) : BMt X "tuple.index" (.ref a) [y] H Q := by
  intro pins s σ v ws I rx rv
  cases (show v = Value.ref a from rx)
  obtain ⟨vy, rfl, ry⟩ := vals1 rv
  obtain ⟨zs, k1, ⟨⟨cl, dd, dt, sl⟩, ho, hcl, n, hdt⟩, hz⟩ := I.tuple ha
  dsimp only at hcl hdt
  subst hcl; subst hdt
  obtain ⟨e, hj', e1, e2, e3⟩ := found_at G I k1 rs ry ay hc hj
  have hT : s.TypeIs (.ref a) "tuple" := ⟨_, ho, rfl⟩
  exact call_meets F.slot_tuple_index hT F.entry_tuple_index (F.args_tuple_index_2 _ _) (TI.tuple_indexAt a zs.toArray n dd sl vy e j hj' e1 e2) ⟨ho, e3, .int (j : Nat), H, I.tok _, ⟨_, rfl⟩, hq⟩
theorem snd_index {o e : Expr} {apos cpos : Pos} {e0' e' : Ex} (G : Good W X) (hb : baseOk o = true) (hs : noStar e = true) (hline : (apos.endLine == cpos.line) = true) (h0 : ∀ i, e0' ≠ .pk i) (S0 : SndE W X Wx o (r.e e0')) (H0 : ∀ ρ v ρ', r.e e0' ρ = .ok v ρ' → ∃ d, v = .dat d ∧ isSeqD d = true) (A : ArgSs W X Wx r [e] [e']) :
    SndE W X Wx (.Call (.Attribute o "index" apos) [e] [] cpos) (fun ρ => (evDs r [e0', e'] ρ).bind (prOut .index)) := by
  intro Z σ H ρ Fs Q R ns hk hx
  dsimp only at ns hk hx
  have e1 : (evDs r [e0', e'] ρ).bind (prOut .index) = (r.e e0' ρ).bind fun v ρ => (ofO v.data ρ).bind fun d ρ => (evDs r [e'] ρ).bind fun ds ρ => prOut .index (d :: ds) ρ := by
    have e2 : evDs r [e0', e'] ρ = (r.e e0' ρ).bind fun v ρ => match v.data with | some d => (evDs r [e'] ρ).bind fun ds ρ => .ok (d :: ds) ρ | none => .stuck := by
      cases e0' <;> first | exact absurd rfl (h0 _) | rfl
    rw [e2, bind_bind]
    congr 1
    funext v ρ1
    cases v.data with
    | none => rfl
    | some d => exact bind_bind _ _ _
  rw [e1] at ns hk hx
  refine be_meth hb hs hline (S0.bind R ns hx fun v ρ1 u H1 Z1 Fs1 F1 q n nv ns1 hx1 => ?_)
  obtain ⟨d, rfl, hd⟩ := H0 ρ v ρ1 q
  have ns2 : ((evDs r [e'] ρ1).bind fun ds ρ => prOut .index (d :: ds) ρ) ≠ .stuck := ns1
  have hx2 : Exd W Wx H1 Z1 Fs1 σ ((evDs r [e'] ρ1).bind fun ds ρ => prOut .index (d :: ds) ρ) := hx1
  have rd : RepD W.K H1 Z1 u d := by
    have h := nv.v
    cases h with | dat r => exact r
  have fin : ∀ {id : String}, (∀ (y : V) (H2 : Hp) (Z2 : Addr → Prop) (dy : D) (j : Nat), Stay H1 H2 Z1 Z2 → ArgR W H2 Z2 y dy → pIndex [d, dy] = some (.dat (.int j)) → Q (.int (j : Nat)) H2 → BMt X id u [y] H2 Q) → BE X e σ H1 fun y H2 => BMt X id u [y] H2 Q := by
    intro id h
    have main : BEs X [e] σ H1 (fun us H2 => ∃ y, us = [y] ∧ BMt X id u [y] H2 Q) := by
      refine snd_Ds_bind A n.r ns2 hx2 fun ds ρ2 us H2 Z2 Fs2 q2 n2 a _ ns3 _ => ?_
      obtain ⟨dy, rfl⟩ : ∃ dy, ds = [dy] := by
        have hl := evDs_len _ _ _ _ q2
        match ds, hl with
        | [dy], _ => exact ⟨dy, rfl⟩
      obtain ⟨y, rfl, ay⟩ := args1 a
      obtain ⟨v2, hv2, e3⟩ := ofO_ns ns3
      obtain ⟨j, hj⟩ : ∃ j : Nat, pIndex [d, dy] = some (.dat (.int j)) := by
        have hv3 : (pIndex [d, dy]).map PR.val = some v2 := hv2
        cases hp : pIndex [d, dy] with
        | none => rw [hp] at hv3; cases hv3
        | some res =>
          unfold pIndex at hp
          split at hp
          · obtain ⟨_, hp⟩ := ite_eq hp
            obtain ⟨j, _, rfl⟩ := Option.map_eq_some_iff.mp hp
            exact ⟨j, rfl⟩
          · obtain ⟨_, hp⟩ := ite_eq hp
            obtain ⟨j, _, rfl⟩ := Option.map_eq_some_iff.mp hp
            exact ⟨j, rfl⟩
          · cases hp
      have hv3 : v2 = .dat (.int j) := by
        have : (pIndex [d, dy]).map PR.val = some v2 := hv2
        rw [hj] at this; cases this; rfl
      refine ⟨y, rfl, h y H2 Z2 dy j (n2.stay n.r) ay hj (hk _ ρ2 ?_ _ H2 Z2 Fs2 [] (n.trans n2) ⟨.dat (.int _), fun _ m => (by cases m), fun _ m => (by cases m)⟩)⟩
      rw [bind_ok q]
      show ((evDs r [e'] ρ1).bind fun ds ρ => prOut .index (d :: ds) ρ) = _
      rw [bind_ok q2, ← hv3]
      exact e3
    exact BE.mono (fun y H2 q => by obtain ⟨y', e, q⟩ := q; cases e; exact q) main
  cases d with
  | list xs =>
    obtain ⟨a, ws, rfl, g1, g2, g3⟩ := rd.lstI
    refine ⟨"list", "list.index", F.plainAttrs_list, F.slot_list_index, F.type_list_index, ty_lst g1, fin fun y H2 Z2 dy j st ay hp hq => ?_⟩
    have hp' : (if inOk dy xs = true then (idxD dy xs).map (fun (k : Nat) => PR.dat (.int (k : Int))) else none) = some (.dat (.int j)) := hp
    obtain ⟨hc, hp'⟩ := ite_eq hp'
    obtain ⟨k, hk', e⟩ := Option.map_eq_some_iff.mp hp'
    have : k = j := by
      have := PR.dat.inj e
      have := PyData.int.inj this
      omega
    subst this
    exact ix_list_m G (st.k _ _ g1 g2) (g3.stay st) ay hc hk' hq
  | tuple xs =>
    cases rd with
    | @tup a o ws _ g1 g2 g3 =>
      refine ⟨"tuple", "tuple.index", F.plainAttrs_tuple, F.slot_tuple_index, F.type_tuple_index, ty_tup g1 g2, fin fun y H2 Z2 dy j st ay hp hq => ?_⟩
      have hp' : (if inOk dy xs = true then (idxD dy xs).map (fun (k : Nat) => PR.dat (.int (k : Int))) else none) = some (.dat (.int j)) := hp
      obtain ⟨hc, hp'⟩ := ite_eq hp'
      obtain ⟨k, hk', e⟩ := Option.map_eq_some_iff.mp hp'
      have : k = j := by
        have := PR.dat.inj e
        have := PyData.int.inj this
        omega
      subst this
      exact ix_tup_m G (.inl (.inr ⟨o, st.f _ _ _ g1⟩)) (g3.stay st) ay hc hk' hq
  | _ => cases hd
end
end EV
end SPrim5
section SPrim6
set_option Elab.async false
set_option linter.all false
set_option maxRecDepth 100000
set_option maxHeartbeats 2000000
namespace EV
open PySem PySem.Spec PyProof.Rows L2
section
variable {W : Wd} {X : Cx} {Wx : WX} {r : Rec}
theorem prim_tostr (G : Good W X) : PrimR W .tostr (BCall X (.type "str")) := by
  intro H Z us ds res Q hz A hp hq
  have hp : pTostr ds = some res := hp
  unfold pTostr at hp
  split at hp
  · obtain ⟨x, rfl, h1⟩ := args1 A
    cases h1.int
    split at hp
    · rename_i hc
      cases hp
      exact BCall.of call_str_int ⟨_, rfl, hc, hq _ _ _ (NewV.at hz (.str _))⟩
    · cases hp
  · obtain ⟨x, rfl, h1⟩ := args1 A
    cases h1.str; cases hp
    exact BCall.of SkE.call_str_str ⟨_, rfl, hq _ _ _ (NewV.at hz (.str _))⟩
  · cases hp
/-! ### data read from the heap, dicts too -/
theorem not_sys {pins : List (Addr × Obj)} {σ : L2.St} {H : Hp} {s : Shared} (G : Good W X) (I : Inv X pins σ H s) {a : Addr} {o : HO} (h : H a = some o) : sysModules ≠ a := by
  intro e
  obtain ⟨ob, ho⟩ := G.sm
  have := (I.bs _ _ ho).2
  rw [e, h] at this; cases this
theorem key_reads {h : Heap} {k : Key} {v : Value} (hk : keyIs k v = true) : Reads h v (keyD k) [] := by
  rcases keyIs_shape hk with ⟨i, t, rfl, rfl⟩ | ⟨x, t, rfl, rfl⟩
  · exact .int i t
  · exact .str x t
theorem keys_reads {P : Program} {w : World} {h : Heap} {es : List DictEntry} {vs : List (Key × Value)} (hp : Pairs (mixKind P w) es vs) : ∀ {kvs : List (Key × V)}, KV kvs vs → ReadsAll h (es.map (·.key)) (kvs.map fun p => keyD p.1) [] := by
  induction hp with
  | nil => intro kvs hk; cases hk; exact .nil
  | cons h1 h2 h3 ih =>
    intro kvs hk
    cases hk with
    | cons q qs => exact .cons (as := []) (bs := []) (key_reads (by rw [q.1]; exact h1)) (ih qs)
theorem vals_pairs {P : Program} {w : World} {es : List DictEntry} {vs : List (Key × Value)} (hp : Pairs (mixKind P w) es vs) : ∀ {kvs : List (Key × V)}, KV kvs vs → Vals (kvs.map (·.2)) (es.map (·.val)) := by
  induction hp with
  | nil => intro kvs hk; cases hk; exact .nil
  | cons h1 h2 h3 ih =>
    intro kvs hk
    cases hk with
    | cons q qs => exact .cons (by dsimp only; rw [h2]; exact q.2) (ih qs)
mutual
theorem RepD.rds {pins : List (Addr × Obj)} {σ : L2.St} {H : Hp} {s : Shared} {Z : Addr → Prop} (G : Good W X) (I : Inv X pins σ H s) : ∀ {u : V} {d : D}, RepD W.K H Z u d → ∀ {v : Value}, RelV u v → ∃ as, Reads s.heap v d as ∧ sysModules ∉ as
  | _, _, .non, _, r => by cases r; exact ⟨[], .none, by simp⟩
  | _, _, .bl b, _, r => by cases r; exact ⟨[], .bool b, by simp⟩
  | _, _, .int i, _, r => by obtain ⟨t, rfl⟩ := r; exact ⟨[], .int i t, by simp⟩
  | _, _, .str x, _, r => by obtain ⟨t, rfl⟩ := r; exact ⟨[], .str x t, by simp⟩
  | _, _, .lst h _ rs, _, r => by
    cases r
    obtain ⟨ws, n, rv, e, _⟩ := I.lst h
    obtain ⟨as, h1, h2⟩ := RepDs.rds G I rs rv
    exact ⟨_, .list e rfl rfl h1, by simp only [List.mem_cons, not_or]; exact ⟨not_sys G I h, h2⟩⟩
  | _, _, .tup h _ rs, _, r => by
    cases r
    obtain ⟨ws, rv, ⟨o, ho, hc, n, hd⟩, _⟩ := I.tuple (X := X) (.inl (.inr ⟨_, h⟩))
    obtain ⟨as, h1, h2⟩ := RepDs.rds G I rs rv
    exact ⟨_, .tuple ho hc hd h1, h2⟩
  | _, _, .dct (kvs := kvs) (ds := ds) h _ e rs, _, r => by
    cases r
    obtain ⟨_, _, vs, rel, o, es, ep, ho, ex, hd, hk, hp, _⟩ := I.hok _ _ h
    have k1 : ReadsAll s.heap (es.toList.map (·.key)) (ds.map (·.1)) [] := by
      rw [e]; exact keys_reads hp rel
    have k2 : sysModules ∉ ([] : List Addr) := by simp
    obtain ⟨bs, v1, v2⟩ := RepDs.rds G I rs (vals_pairs hp rel)
    exact ⟨_, .dict ho ex.1 hd k1 v1, by
      simp only [List.cons_append, List.mem_cons, List.mem_append, not_or]
      exact ⟨not_sys G I h, k2, v2⟩⟩
theorem RepDs.rds {pins : List (Addr × Obj)} {σ : L2.St} {H : Hp} {s : Shared} {Z : Addr → Prop} (G : Good W X) (I : Inv X pins σ H s) : ∀ {us : List V} {ds : List D}, RepDs W.K H Z us ds → ∀ {vs : List Value}, Vals us vs → ∃ as, ReadsAll s.heap vs ds as ∧ sysModules ∉ as
  | _, _, .nil, _, .nil => ⟨[], .nil, by simp⟩
  | _, _, .cons r rs, _, .cons q qs => by
    obtain ⟨as, h1, h2⟩ := RepD.rds G I r q
    obtain ⟨bs, h3, h4⟩ := RepDs.rds G I rs qs
    exact ⟨_, .cons h1 h3, by simp only [List.mem_append, not_or]; exact ⟨h2, h4⟩⟩
end
theorem ArgR.rds {pins : List (Addr × Obj)} {σ : L2.St} {H : Hp} {s : Shared} {Z : Addr → Prop} {u : V} {d : D} {v : Value} (G : Good W X) (I : Inv X pins σ H s) (h : ArgR W H Z u d) (q : RelV u v) : ∃ as, Reads s.heap v d as ∧ sysModules ∉ as := by
  cases h with
  | dat r => exact r.rds G I q
  | ol h rs =>
    have z : RepD W.K H (fun _ => True) _ _ := .lst h trivial (rs.stay ⟨fun _ _ => trivial, fun _ _ h _ => h, fun _ _ h => h, fun _ _ _ h => h⟩)
    exact z.rds G I q
  | od h e rs =>
    have z : RepD W.K H (fun _ => True) _ _ := .dct h trivial e (rs.stay ⟨fun _ _ => trivial, fun _ _ h _ => h, fun _ _ h => h, fun _ _ _ h => h⟩)
    exact z.rds G I q
theorem prim_repr (G : Good W X) : PrimR W .repr (BCall X (.builtin "repr")) := by
  intro H Z us ds res Q hz A hp hq
  have hp : pRepr ds = some res := hp
  unfold pRepr at hp
  split at hp
  · rename_i d _
    obtain ⟨x, rfl, h1⟩ := args1 A
    obtain ⟨hc, rfl⟩ := ite_some hp
    simp only [Bool.and_eq_true, decide_eq_true_eq] at hc
    obtain ⟨⟨c1, c2⟩, c3⟩ := hc
    have q := hq _ _ _ (NewV.at hz (.str d.shown))
    intro pins s σ ws I rv
    obtain ⟨v, rfl, rx⟩ := vals1 rv
    obtain ⟨as, ra, na⟩ := h1.rds G I rx
    have hu : X.A.units + (d.depth + 1) < cLine := by
      have := G.un
      unfold deepD at c2
      omega
    have hsz : d.shown.length ≤ sizeLine := fit_le c3
    cases ra with
    | none => exact P.repr_of_none ⟨.str _, H, I.tok _, ⟨_, rfl⟩, q⟩
    | bool b => exact P.repr_of_bool ⟨.str _, H, I.tok _, ⟨_, rfl⟩, q⟩
    | int i t => exact P.repr_of_int (of_decide_eq_true c1) ⟨.str _, H, I.tok _, ⟨_, rfl⟩, q⟩
    | str z t => exact P.repr_of_str ⟨.str _, H, I.tok _, ⟨_, rfl⟩, q⟩ hsz
    | list e1 e2 e3 e4 => exact repr_of_reads' (.list e1 e2 e3 e4) c1 (fun _ => na) G.gd hu (fun _ _ h => h) (fun h' u tk hk => ⟨.str _, H, I.kept hk, ⟨_, rfl⟩, q⟩) hsz
    | tuple e1 e2 e3 e4 => exact repr_of_reads' (.tuple e1 e2 e3 e4) c1 (fun _ => na) G.gd hu (fun _ _ h => h) (fun h' u tk hk => ⟨.str _, H, I.kept hk, ⟨_, rfl⟩, q⟩) hsz
    | dict e1 e2 e3 e4 e5 => exact repr_of_reads' (.dict e1 e2 e3 e4 e5) c1 (fun _ => na) G.gd hu (fun _ _ h => h) (fun h' u tk hk => ⟨.str _, H, I.kept hk, ⟨_, rfl⟩, q⟩) hsz
  · cases hp
end
end EV
end SPrim6
section SPrim7
set_option Elab.async false
set_option linter.all false
set_option maxRecDepth 100000
set_option maxHeartbeats 2000000
namespace EV
open PySem PySem.Spec PyProof.Rows L2
/-! ### sorted -/
def dLe (a b : D) : Bool := !PySem.W.dataLt b a
theorem dLt_irr (a : D) : PySem.W.dataLt a a = false := PyProof.Rows.lex_irrefl _
theorem dLt_tr {a b c : D} (h1 : PySem.W.dataLt a b = true) (h2 : PySem.W.dataLt b c = true) : PySem.W.dataLt a c = true := PyProof.Rows.lex_trans _ _ _ h1 h2
theorem dLe_total (a b : D) : (dLe a b || dLe b a) = true := by
  unfold dLe
  cases h1 : PySem.W.dataLt b a with
  | false => rfl
  | true =>
    cases h2 : PySem.W.dataLt a b with
    | false => rfl
    | true => have := dLt_tr h1 h2; rw [dLt_irr] at this; cases this
theorem dLe_trans (a b c : D) (h1 : dLe a b = true) (h2 : dLe b c = true) : dLe a c = true := by
  unfold dLe at *
  cases h3 : PySem.W.dataLt c a with
  | false => rfl
  | true =>
    exfalso
    have e1 : PySem.W.dataLt b a = false := by simpa using h1
    have e2 : PySem.W.dataLt c b = false := by simpa using h2
    cases h4 : PySem.W.dataLt a b with
    | true => rw [dLt_tr h3 h4] at e2; cases e2
    | false =>
      have : PySem.W.keyToks a = PySem.W.keyToks b := PyProof.Rows.lex_total _ _ h4 e1
      have e3 : PySem.W.dataLt c a = PySem.W.dataLt c b := by unfold PySem.W.dataLt; rw [this]
      rw [h3, e2] at e3; cases e3
theorem ins_at {x : D} : ∀ (l1 l2 : List D), (∀ b ∈ l1, PySem.W.dataLt b x = true) → (∀ c r, l2 = c :: r → PySem.W.dataLt c x = false) → insD x (l1 ++ l2) = l1 ++ x :: l2
  | [], [], _, _ => rfl
  | [], c :: r, _, h => by
    show (if PySem.W.dataLt c x = true then c :: insD x r else x :: c :: r) = _
    rw [h c r rfl]; rfl
  | b :: l1, l2, h1, h2 => by
    show (if PySem.W.dataLt b x = true then b :: insD x (l1 ++ l2) else x :: b :: (l1 ++ l2)) = _
    rw [h1 b List.mem_cons_self, if_pos rfl, ins_at l1 l2 (fun b m => h1 b (List.mem_cons_of_mem _ m)) h2]
    rfl
theorem sortD_eq {β : Type} (enc : β → D) : ∀ bs : List β, (bs.mergeSort (PySem.W.dataLe false enc)).map enc = sortD (bs.map enc)
  | [] => by simp [sortD]
  | a :: l => by
    have tr : ∀ x y z : β, PySem.W.dataLe false enc x y = true → PySem.W.dataLe false enc y z = true → PySem.W.dataLe false enc x z = true := fun x y z => dLe_trans (enc x) (enc y) (enc z)
    have tt : ∀ x y : β, (PySem.W.dataLe false enc x y || PySem.W.dataLe false enc y x) = true := fun x y => dLe_total (enc x) (enc y)
    obtain ⟨l1, l2, e1, e2, h⟩ := List.mergeSort_cons tr tt a l
    have ih := sortD_eq enc l
    rw [e2] at ih
    have ps : (l1 ++ a :: l2).Pairwise (fun x y => PySem.W.dataLe false enc x y = true) := by
      rw [← e1]; exact List.pairwise_mergeSort tr tt _
    rw [e1]
    show _ = insD (enc a) (sortD (l.map enc))
    rw [← ih, List.map_append, List.map_append, List.map_cons]
    refine (ins_at _ _ (fun b m => ?_) fun c r q => ?_).symm
    · obtain ⟨b', hb, rfl⟩ := List.mem_map.mp m
      have : (!PySem.W.dataLe false enc a b') = true := h b' hb
      have e : PySem.W.dataLe false enc a b' = !PySem.W.dataLt (enc b') (enc a) := rfl
      rw [e] at this
      simpa using this
    · cases l2 with
      | nil => cases q
      | cons c' r' =>
        have hc : enc c' = c := (List.cons.inj q).1
        have p2 := (List.pairwise_append.mp ps).2.1
        have := (List.pairwise_cons.mp p2).1 c' List.mem_cons_self
        have e : PySem.W.dataLe false enc a c' = !PySem.W.dataLt (enc c') (enc a) := rfl
        rw [e, hc] at this
        simpa using this
end EV
end SPrim7
section SPrim8
set_option Elab.async false
set_option linter.all false
set_option maxRecDepth 100000
set_option maxHeartbeats 4000000
namespace EV
open PySem PySem.Spec PyProof.Rows L2
section
variable {prog : Program} {w : World} {A : Around} {E : Value → Shared → Prop} {s : Shared}
/-- the items of a tuple, taken into a new list -/
theorem collect_tup {t : Addr} {ws : List Value} {Q : List Value → Shared → Prop} (ht : IsTup s.heap t ws.toArray) (hz : ws.length ≤ sizeLine)
    (h : Q ws { s with heap := (s.heap.push (seqObj "list" #[] 0)).update s.heap.objs.size (Obj.mapSeq (· ++ ws.toArray)) }) : wpAny (model prog w) A (collect (.ref t)) Q E s := by
  obtain ⟨⟨cl, dd, dt, sl⟩, ho, hc, n, hd⟩ := id ht
  dsimp only at hc hd
  subst hc; subst hd
  unfold collect
  refine wpAny_bind (wpAny_runValue (codeAny_builtin entry_proto_collect' ?_))
  show wpAny _ _ (do again (.builtin "list.__iadd__" ⟨[← newList [], .ref t], []⟩)) _ _ s
  refine wpAny_bind (wpAny_newList (wpAny_pure ⟨Code.quiet_builtin _ (by decide +kernel), codeAny_builtin entry_list_iadd' ?_⟩))
  show wpAny _ _ (Builtin.List.listExtendWith (.ref s.heap.objs.size) (.ref t) (.ref s.heap.objs.size)) _ _ { s with heap := s.heap.push (seqObj "list" #[] 0) }
  have ho' : (s.heap.push (seqObj "list" #[] 0)).get? t = some { cls := .type "tuple", dict := dd, data := .seq ws.toArray n, slots := sl } := Heap.get?_push_of_some _ ho
  unfold Builtin.List.listExtendWith
  refine wpAny_bind (wpAny_typeOf (T := "tuple") ⟨_, ho', rfl⟩ ?_)
  have e1 : (Value.type "tuple" == Value.type "tuple") = true := rfl
  rw [if_pos (by rw [e1, Bool.or_true])]
  refine wpAny_bind (listItems_at ho' rfl ?_)
  refine wpAny_bind (listItems_at (xs := #[]) (n := 0) (Heap.get?_push_size _ rfl) rfl ?_)
  rw [if_neg (by simp)]
  refine wpAny_bind (listUpdate_at (xs := #[]) (n := 0) (Heap.get?_push_size _ rfl) rfl ?_ (Nat.zero_le _) (by show (#[] ++ ws.toArray).size ≤ sizeLine + 1; simp only [Array.size_append, List.size_toArray, List.length_nil]; omega))
  refine wpAny_pure ?_
  show wpAny (model prog w) A (do
      let o ← load s.heap.objs.size
      match o.data with
      | .seq xs _ => pure xs.toList
      | _ => unsupported "internal:collect") Q E { s with heap := (s.heap.push (seqObj "list" #[] 0)).update s.heap.objs.size (Obj.mapSeq (· ++ ws.toArray)) }
  refine wpAny_bind (wpAny_load (get?_update_seq (Heap.get?_push_size _ rfl) _) ?_)
  show wpAny _ _ (pure ((#[] : Array Value) ++ ws.toArray).toList) Q E _
  rw [show ((#[] : Array Value) ++ ws.toArray).toList = ws by simp]
  exact wpAny_pure h
/-- v's items can be taken into a new list -/
def Coll (prog : Program) (w : World) (s : Shared) (v : Value) (ws : List Value) : Prop := ∀ (A : Around) (E : Value → Shared → Prop) (Q : List Value → Shared → Prop),
  Q ws { s with heap := (s.heap.push (seqObj "list" #[] 0)).update s.heap.objs.size (Obj.mapSeq (· ++ ws.toArray)) } → wpAny (model prog w) A (collect v) Q E s
/-- sorted(v) -/
theorem sorted_by {v : Value} {ws : List Value} {Q : Value → Shared → Prop} {κ : PyProof.Rows.KeyKind} (hc : Coll prog w s v ws) (hL : ws.length ≤ sizeLine) (S : PySem.W.SortsAt prog w A.in1.in1 { s with heap := PySem.W.sortingHeap (PySem.W.copyHeap s.heap ws) (s.heap.objs.size + 1) ws } κ ws)
    (h : Q (.ref (s.heap.objs.size + 1)) { s with heap := sortedAll s.heap ws (PySem.W.sortVals κ false ws ws).toArray }) : wpAny (model prog w) A (call (.builtin "sorted") [v]) Q E s := by
  refine Calls.call_function_entry kind_sorted plain_sorted entry_sorted (args_sorted1 _) ?_
  unfold Builtin.«sorted»
  refine wpAny_bind (m := checkCount "sorted" 1 1 _) (wpAny_pure ?_)
  refine wpAny_bind (hc _ _ _ (wpAny_bind (wpAny_newList ?_ hL)))
  have hsz : ((s.heap.push (seqObj "list" #[] 0)).update s.heap.objs.size (Obj.mapSeq (· ++ ws.toArray))).objs.size = s.heap.objs.size + 1 := by
    rw [Heap.size_update, Heap.size_push]
  show wpAny _ _ _ _ _ { s with heap := PySem.W.copyHeap s.heap ws }
  rw [hsz]
  refine wpAny_bind (wpAny_holding (wpAny_call_entry slot_list_sort ⟨_, PySem.W.copyHeap_at s.heap ws, rfl⟩ entry_list_sort ?_ (args_list_sort _)))
  refine wpAny_mono (PySem.W.list_sort_vals (s := { s with heap := PySem.W.copyHeap s.heap ws }) (P := fun f s' => f = .done (.ret .none) ∧ Q (.ref (s.heap.objs.size + 1)) s') (PySem.W.copyHeap_at s.heap ws) S hL ⟨rfl, h⟩) (fun f s' hf => ?_) fun _ _ e => e
  obtain ⟨rfl, hq⟩ := hf
  exact ⟨_, rfl, wpAny_pure ⟨_, rfl, hq⟩⟩
theorem sorted_byData {β : Type} {v : Value} {ws : List Value} {bs : List β} {enc : β → D} {R : Value → β → Prop} {Q : Value → Shared → Prop} (hc : Coll prog w s v ws) (e : PySem.W.EachIs R ws bs) (er : PySem.W.EachIs (fun v b => ∃ as, Reads s.heap v (enc b) as) ws bs) (hal : PySem.W.AllAlike (bs.map enc)) (hk : PySem.W.Sortable (bs.map enc)) (hL : bs.length ≤ sizeLine)
    (hu : ∀ b, b ∈ bs → A.units + 2 + (enc b).depth < cLine) (h : ∀ out, out.length = bs.length → PySem.W.EachIs R out (bs.mergeSort (PySem.W.dataLe false enc)) → Q (.ref (s.heap.objs.size + 1)) { s with heap := sortedAll s.heap ws (List.toArray out) }) :
    wpAny (model prog w) A (call (.builtin "sorted") [v]) Q E s := by
  have er' : PySem.W.EachIs (fun v b => ∃ as, Reads (PySem.W.sortingHeap (PySem.W.copyHeap s.heap ws) (s.heap.objs.size + 1) ws) v (enc b) as) ws bs := er.mono fun _ _ ⟨as, r⟩ => ⟨as, PyProof.Rows.Reads.keeps (fun _ _ => PySem.W.sorting_copy_old) r⟩
  refine sorted_by hc (by rw [e.length]; exact hL) (PySem.W.SortsAt.data (s := { s with heap := PySem.W.sortingHeap (PySem.W.copyHeap s.heap ws) (s.heap.objs.size + 1) ws }) (PySem.W.each_map (R := fun v d => ∃ as, Reads (PySem.W.sortingHeap (PySem.W.copyHeap s.heap ws) (s.heap.objs.size + 1) ws) v d as) enc er') hal hk (PySem.W.bound_map hu)) ?_
  exact h _ (by rw [PySem.W.sortVals_length false rfl]; exact e.length) (PySem.W.sortVals_data false e er' hal)
end
section
variable {W : Wd} {X : Cx} {Wx : WX} {r : Rec}
/-- items, values, data at once -/
theorem each_of {H : Hp} {Z : Addr → Prop} : ∀ {us : List V} {xs : List D} {ws : List Value}, RepDs W.K H Z us xs → Vals us ws → PySem.W.EachIs (fun v (b : V × D) => RelV b.1 v ∧ RepD W.K H Z b.1 b.2) ws (us.zip xs)
  | _, _, _, .nil, .nil => .nil
  | _, _, _, .cons r rs, .cons q qs => .cons ⟨q, r⟩ (each_of rs qs)
theorem of_each {H : Hp} {Z : Addr → Prop} : ∀ {ws : List Value} {bs : List (V × D)}, PySem.W.EachIs (fun v (b : V × D) => RelV b.1 v ∧ RepD W.K H Z b.1 b.2) ws bs → Vals (bs.map (·.1)) ws ∧ RepDs W.K H Z (bs.map (·.1)) (bs.map (·.2))
  | _, _, .nil => ⟨.nil, .nil⟩
  | _, _, .cons q t => by
    obtain ⟨a, b⟩ := of_each t
    exact ⟨.cons q.1 a, .cons q.2 b⟩
theorem zip_snd : ∀ (us : List V) (xs : List D), us.length = xs.length → (us.zip xs).map (·.2) = xs
  | [], [], _ => rfl
  | u :: us, x :: xs, h => by
    show x :: (us.zip xs).map (·.2) = _
    rw [zip_snd us xs (by simpa using h)]
  | [], _ :: _, h => by simp at h
  | _ :: _, [], h => by simp at h
theorem run_sorted {pins : List (Addr × Obj)} {σ : L2.St} {H : Hp} {s : Shared} {Z : Addr → Prop} {v : Value} {us : List V} {xs : List D} {ws : List Value} {Q : VK} (G : Good W X) (I : Inv X pins σ H s) (hc : Coll X.prog X.w s v ws) (rv : Vals us ws) (rs : RepDs W.K H Z us xs) (ha : allAlike xs = true) (hL : us.length ≤ sizeLine)
    (hq : ∀ p us', H p = none → RepDs W.K H Z us' (sortD xs) → Q (.ref p) (upd H p (.lst us'))) : wpAny (model X.prog X.w) X.A (call (.builtin "sorted") [v]) (EP X pins σ Q) X.xe s := by
  unfold allAlike at ha
  simp only [Bool.and_eq_true, Bool.or_eq_true, decide_eq_true_eq, List.all_eq_true] at ha
  obtain ⟨⟨⟨a1, a2⟩, a3⟩, a4⟩ := ha
  have hl : us.length = xs.length := rs.length
  have e := each_of rs rv
  have zs := zip_snd us xs hl
  have er : PySem.W.EachIs (fun v (b : V × D) => ∃ as, Reads s.heap v b.2 as) ws (us.zip xs) := e.mono fun v b ⟨q, rd⟩ => by
    obtain ⟨as, h, _⟩ := rd.rds G I q
    exact ⟨as, h⟩
  have mem : ∀ b ∈ us.zip xs, b.2 ∈ xs := fun b m => by rw [← zs]; exact List.mem_map_of_mem m
  have dep : ∀ (ds : List D) d, d ∈ ds → d.depth ≤ PyData.depthAll ds := by
    intro ds
    induction ds with
    | nil => intro d m; cases m
    | cons x ds ih =>
      intro d m
      have e : PyData.depthAll (x :: ds) = max x.depth (PyData.depthAll ds) := by first | rfl | simp [PyData.depthAll]
      rw [e]
      rcases List.mem_cons.mp m with rfl | m
      · omega
      · have := ih d m; omega
  refine sorted_byData (enc := fun b : V × D => b.2) hc e er (by rw [zs]; exact fun d hd d' hd' => a2 d hd d' hd') ?_ (by rw [List.length_zip]; omega) (fun b m => ?_) fun out ho he => ?_
  · rw [zs]
    rcases a3 with a3 | a3
    · left
      intro d hd
      have := a3 d hd
      unfold isTupC at this
      split at this
      · exact ⟨_, _, rfl⟩
      · cases this
    · right
      intro d hd
      have := a3 d hd
      exact ⟨fun z => (by rw [z] at this; exact absurd this (by decide)), fun ys z => (by rw [z] at this; exact Bool.noConfusion (show false = true from this))⟩
  · have h1 := dep xs b.2 (mem b m)
    have := G.un
    unfold deepD at a4
    omega
  · obtain ⟨v1, v2⟩ := of_each he
    have se : ((us.zip xs).mergeSort (PySem.W.dataLe false fun b : V × D => b.2)).map (·.2) = sortD xs := by rw [sortD_eq (fun b : V × D => b.2), zs]
    rw [se] at v2
    obtain ⟨ep, hat⟩ := sortedAll_at s.heap ws (List.toArray out)
    have hle : s.heap.objs.size ≤ s.heap.objs.size + 1 := Nat.le_succ _
    have hlen : (((us.zip xs).mergeSort (PySem.W.dataLe false fun b : V × D => b.2)).map (·.1)).length ≤ sizeLine := by
      rw [List.length_map, List.length_mergeSort, List.length_zip]; omega
    exact ⟨.ref (s.heap.objs.size + 1), _, I.laid (t' := s.toks) (o := .lst _) (fun b ob q => sortedAll_old q) hle ⟨hlen, out, ep, v1, hat⟩, rfl, hq _ _ (I.hok.fresh hle) v2⟩
theorem prim_sorted (G : Good W X) : PrimR W .sorted (BCall X (.builtin "sorted")) := by
  intro H Z us ds res Q hz A hp hq
  have hp : pSorted ds = some res := hp
  unfold pSorted at hp
  split at hp
  · obtain ⟨x, rfl, h1⟩ := args1 A
    obtain ⟨a, ws, rfl, g1, g2⟩ := h1.lst
    obtain ⟨hc, rfl⟩ := ite_some hp
    intro pins s σ vs I rv
    obtain ⟨v, rfl, rx⟩ := vals1 rv
    cases rx
    obtain ⟨zs, n, k1, e, hzz⟩ := I.lst g1
    exact run_sorted G I (fun A E Q h => collect_list ⟨_, e, rfl, n, rfl⟩ h (by rw [← k1.length]; exact hzz)) k1 g2 hc hzz fun p us' hn rs => hq _ _ _ (NewV.list hn hz rs)
  · obtain ⟨x, rfl, h1⟩ := args1 A
    obtain ⟨a, ws, rfl, g1, g2⟩ := h1.tup
    obtain ⟨hc, rfl⟩ := ite_some hp
    intro pins s σ vs I rv
    obtain ⟨v, rfl, rx⟩ := vals1 rv
    cases rx
    obtain ⟨zs, k1, pt, hzz⟩ := I.tuple (X := X) (by rw [G.K]; exact g1)
    exact run_sorted G I (fun A E Q h => collect_tup pt (by rw [← k1.length]; exact hzz) h) k1 g2 hc hzz fun p us' hn rs => hq _ _ _ (NewV.list hn hz rs)
  · cases hp
end
end EV
end SPrim8
section SSetL
set_option Elab.async false
set_option linter.all false
set_option maxRecDepth 100000
set_option maxHeartbeats 4000000
namespace EV
open PySem PySem.Spec PyProof.Rows L2
section
variable {P : Program} {w : World} {A : Around} {E : Value → Shared → Prop} {s : Shared}
/-- the new empty set, as set.__new__ lays it -/
abbrev set00 (w : World) : Obj := { cls := .type "set", dict := none, data := .set #[] 0 (.fresh 0 0 (!w.params.followText "set-order")) }
abbrev withSet (w : World) (s : Shared) : Heap := s.heap.push (set00 w)
theorem set_of_list {l : Addr} {ws : Array Value} (ns : List Int) {Q : Value → Shared → Prop} (hh : A.handled = none) (hl : s.heap.IsList l ws) (hi : IntsAre ws.toList ns) (hb : ns.length + 1 < scanBound)
    (h : ∀ (h' : Heap) (tk c : Nat), SetR w h' s.heap.objs.size (fun j => decide (j ∈ ns)) c → c ≤ ns.length → (∀ b o, s.heap.get? b = some o → h'.get? b = some o) → Q (.ref s.heap.objs.size) { s with heap := h', toks := tk }) :
    wpAny (model P w) A (call (.type "set") [.ref l]) Q E s := by
  have hsz : ws.size = ns.length := by have q := IntsAre.length hi; rwa [Array.length_toList] at q
  obtain ⟨c0, tl, hmro⟩ := F.called_set.mro
  have m1 := F.called_set.made
  have m2 := F.called_set.sub
  refine wpAny_call (codeAny_of_tree ?_)
  show wpAny _ _ (callAny (.type "set") _) _ _ _
  refine wpAny_pure ⟨Code.quiet_builtin _ (by decide +kernel), codeAny_builtin F.entry_type_call ?_⟩
  rw [Around.under_plain (weight_type_call_type "set" [.ref l] []) rfl]
  have m3 := F.called_set.notType
  have m4 := F.called_set.canCreate
  have m5 := F.typeCall_set_1 (.ref l)
  repeat (any_goals (first | assumption | wp_step))

  refine codeAny_mono (code_set_led1 (.ref l) (E := E) (Q₁ := fun o z => o = .ref s.heap.objs.size ∧ z = { s with heap := withSet w s }) ⟨rfl, rfl⟩) fun r1 z1 q1 => ?_
  cases r1 with
  | error e => exact q1
  | ok f1 =>
    cases f1 with
    | ret o1 =>
      obtain ⟨rfl, rfl⟩ := q1
      have gS : (withSet w s).get? s.heap.objs.size = some (set00 w) := Heap.get?_push_size _ rfl
      have tS : Shared.TypeIs { s with heap := withSet w s } (.ref s.heap.objs.size) "set" := ⟨_, gS, rfl⟩
      have m6 := F.called_set.init.lookup
      have m7 := F.called_set.init.bind (.ref s.heap.objs.size)
      repeat (any_goals (first | assumption | wp_step))

      refine codeAny_mono (codeAny_call_builtin (R := wants (fun r z => r = .none ∧ ∃ h' tk c, z = { s with heap := h', toks := tk } ∧ SetR w h' s.heap.objs.size (fun j => decide (j ∈ ns)) c ∧ c ≤ ns.length ∧
          (∀ b o, s.heap.get? b = some o → h'.get? b = some o)) E) F.called_set.init.plain F.entry_set_init (check_set_init_1 tS ?_)) fun r2 z2 q2 => ?_
      · obtain ⟨⟨oc, od, odt, osl⟩, g1, gc, n1, gd⟩ := hl
        dsimp only at gc gd
        subst gc; subst gd
        have g2 : (withSet w s).get? l = some { cls := .type "list", dict := od, data := .seq ws n1, slots := osl } := Heap.get?_push_of_some _ g1
        have f1 := F.sub_list_set
        have f2 := F.sub_list_frozenset
        have f3 : (Value.type "list" == Value.type "dict") = false := by decide
        have g3 : (withSet w s).IsList l ws := ⟨_, g2, rfl, n1, rfl⟩
        unfold Builtin.«set.__init__» noKeywords Builtin.Frozenset.updateFrom
        generalize hPI : pyIter = PI
        wp_walk
        subst hPI

        refine wpAny_pyIter_list g3 ?_
        refine wpAny_bind (wpAny_runValue ?_)
        have ll : l < s.heap.objs.size := Heap.lt_size g1
        have h3 : A.in1.in1.in1.handled = none := by simp [hh]
        have zz : (withSet w s).objs.size = s.heap.objs.size + 1 := Heap.size_push ..
        have neI : l ≠ (withSet w s).objs.size := by rw [zz]; exact Nat.ne_of_lt (Nat.lt_succ_of_lt ll)
        have nof : s.heap.objs.size ∉ [(withSet w s).objs.size, l] := by
          rw [zz]; simp only [List.mem_cons, List.not_mem_nil, or_false, not_or]
          exact ⟨Nat.ne_of_lt (Nat.lt_succ_self _), Nat.ne_of_gt ll⟩
        have vals : ∀ (i : Nat) (v : Value), ws[i]? = some v → ∃ k t, ns[i]? = some k ∧ v = .int k t := fun i v hv => by
          have hlt : i < ns.length := by rw [← hsz]; exact (Array.getElem?_eq_some_iff.mp hv).1
          obtain ⟨t, e⟩ := PyProof.Rows.IntsAre.int_at hi i v (by rw [Array.getElem?_toList]; exact hv)
          exact ⟨ns[i], t, List.getElem?_eq_getElem hlt, by rw [e, List.getD_eq_getElem?_getD, List.getElem?_eq_getElem hlt] <;> rfl⟩
        refine set_update_ints ((Walks.list h3 _ l neI ws).toS) s.heap.objs.size nof ns hsz hb vals (ws.size - 0) 0 _ (by omega) (Nat.zero_le _) ⟨⟨_, Heap.get?_push_size _ rfl, rfl, rfl⟩, (g3.push _)⟩ ?first ?last
        case first => exact ⟨0, Nat.le_refl 0, setR_new_at (Heap.get?_push_of_some _ gS)⟩
        case last =>
          intro z3 c3 mv le3 R3
          obtain ⟨h', a2, a3, tk', a5⟩ := z3
          have e2 : a2 = s.gens := mv.gens
          have e3 : a3 = s.drawn := mv.drawn
          have e5 : a5 = s.os := mv.os
          subst e2; subst e3; subst e5
          show wpAny _ _ _ _ _ _
          refine wpAny_pure ?_
          show wpAny _ _ (ret Value.none) _ _ _
          refine wpAny_pure ⟨rfl, h', tk', c3, rfl, R3, by rw [← hsz]; exact le3, fun b o e => ?_⟩
          have b0 : b < s.heap.objs.size := Heap.lt_size e
          refine mv.heap b o ?_ (Heap.get?_push_of_some _ (Heap.get?_push_of_some _ e))
          simp only [List.mem_cons, List.mem_singleton, List.not_mem_nil, or_false, not_or]
          exact ⟨Nat.ne_of_lt b0, by rw [zz]; exact Nat.ne_of_lt (Nat.lt_succ_of_lt b0)⟩

      · cases r2 with
        | error e => exact q2
        | ok f2 =>
          cases f2 with
          | ret r =>
            obtain ⟨rfl, h', tk, c', rfl, R3, le3, kp⟩ := q2
            repeat (any_goals (first | assumption | wp_step))
            exact h _ _ _ R3 le3 kp
          | _ => exact q2.elim
    | _ => exact q1.elim
end
/-! ### sorted(set(xs)), ints -/
theorem asc_eq : ∀ (a b : List Int), a.Pairwise (· < ·) → b.Pairwise (· < ·) → (∀ k, k ∈ a ↔ k ∈ b) → a = b
  | [], [], _, _, _ => rfl
  | [], y :: b, _, _, h => absurd ((h y).mpr List.mem_cons_self) (by simp)
  | x :: a, [], _, _, h => absurd ((h x).mp List.mem_cons_self) (by simp)
  | x :: a, y :: b, ha, hb, h => by
    obtain ⟨a1, a2⟩ := List.pairwise_cons.mp ha
    obtain ⟨b1, b2⟩ := List.pairwise_cons.mp hb
    have e : x = y := by
      have m1 := (h x).mp List.mem_cons_self
      have m2 := (h y).mpr List.mem_cons_self
      rcases List.mem_cons.mp m1 with e | m1
      · exact e
      · rcases List.mem_cons.mp m2 with e | m2
        · exact e.symm
        · have := a1 y m2; have := b1 x m1; omega
    subst e
    rw [asc_eq a b a2 b2 fun k => ?_]
    have hk := h k
    constructor
    · intro m
      have : k ≠ x := fun z => by have := a1 k m; omega
      rcases List.mem_cons.mp (hk.mp (List.mem_cons_of_mem _ m)) with z | z
      · exact absurd z this
      · exact z
    · intro m
      have : k ≠ x := fun z => by have := b1 k m; omega
      rcases List.mem_cons.mp (hk.mpr (List.mem_cons_of_mem _ m)) with z | z
      · exact absurd z this
      · exact z
theorem insI_mem (x k : Int) : ∀ l : List Int, k ∈ insI x l ↔ k = x ∨ k ∈ l
  | [] => by simp [insI]
  | y :: l => by
    unfold insI
    split
    · simp
    · split
      · rename_i h; subst h; simp
      · rw [List.mem_cons, insI_mem x k l, List.mem_cons]
        constructor
        · rintro (h | h | h)
          · exact .inr (.inl h)
          · exact .inl h
          · exact .inr (.inr h)
        · rintro (h | h | h)
          · exact .inr (.inl h)
          · exact .inl h
          · exact .inr (.inr h)
theorem insI_asc (x : Int) : ∀ l : List Int, l.Pairwise (· < ·) → (insI x l).Pairwise (· < ·)
  | [], _ => by simp [insI]
  | y :: l, h => by
    obtain ⟨h1, h2⟩ := List.pairwise_cons.mp h
    unfold insI
    split
    · rename_i c
      exact List.pairwise_cons.mpr ⟨fun z m => by
        rcases List.mem_cons.mp m with rfl | m
        · exact c
        · have := h1 z m; omega, h⟩
    · split
      · exact h
      · refine List.pairwise_cons.mpr ⟨fun z m => ?_, insI_asc x l h2⟩
        rcases (insI_mem x z l).mp m with rfl | m
        · omega
        · exact h1 z m
theorem ssI_mem (k : Int) : ∀ ns : List Int, k ∈ ssI ns ↔ k ∈ ns
  | [] => by simp [ssI]
  | n :: ns => by
    show k ∈ insI n (ssI ns) ↔ _
    rw [insI_mem, ssI_mem k ns, List.mem_cons]
theorem ssI_asc : ∀ ns : List Int, (ssI ns).Pairwise (· < ·)
  | [] => .nil
  | n :: ns => insI_asc n (ssI ns) (ssI_asc ns)
section
variable {W : Wd} {X : Cx} {Wx : WX} {r : Rec}
theorem RepDs.ints {K : PySem.W.Frag} {H : Hp} {Z : Addr → Prop} : ∀ {us : List V} {xs : List D} {ns : List Int}, RepDs K H Z us xs → intsOf xs = some ns → us = ns.map V.int
  | [], [], ns, .nil, h => by cases h; rfl
  | u :: us, d :: ds, ns, .cons r rs, h => by
    cases d with
    | int b =>
      obtain ⟨cs, hc, rfl⟩ := Option.map_eq_some_iff.mp (show (intsOf ds).map (b :: ·) = some ns from h)
      cases r
      rw [RepDs.ints rs hc]; rfl
    | _ => cases h
theorem reps_ints {H : Hp} {Z : Addr → Prop} : ∀ ns : List Int, RepDs W.K H Z (ns.map V.int) (ns.map PyData.int)
  | [] => .nil
  | n :: ns => .cons (.int n) (reps_ints ns)
def rdSS (X : Cx) : List V → Hp → VK → Prop := fun us H Q => ∃ x, us = [x] ∧ BCall X (.type "set") [x] H fun y H1 => BCall X (.builtin "sorted") [y] H1 Q
theorem prim_sortset (G : Good W X) : PrimR W .sortset (rdSS X) := by
  intro H Z us ds res Q hz A hp hq
  have hp : pSortset ds = some res := hp
  unfold pSortset at hp
  split at hp
  · obtain ⟨x, rfl, h1⟩ := args1 A
    obtain ⟨a, ws, rfl, g1, g2⟩ := h1.lst
    obtain ⟨ns, hn, hp⟩ := Option.bind_eq_some_iff.mp hp
    split at hp
    · rename_i hc
      cases hp
      have := g2.ints hn
      subst this
      refine ⟨_, rfl, fun pins s σ vs I rv => ?_⟩
      obtain ⟨v, rfl, rx⟩ := vals1 rv
      cases rx
      obtain ⟨zs, n, k1, e, hzz⟩ := I.lst g1
      refine set_of_list ns (I.ok.hd G.calm) ⟨_, e, rfl, n, rfl⟩ (by simpa using ints_of_vals k1) (by unfold scanBound; omega) fun h' tk c R hcn kp => ?_
      have hle : s.heap.objs.size < h'.objs.size := R.lt
      have hf : H s.heap.objs.size = none := I.hok.fresh (Nat.le_refl _)
      refine ⟨.ref s.heap.objs.size, upd H s.heap.objs.size (SetO X.w s.heap.objs.size (fun j => decide (j ∈ ns)) c), I.laid (t' := tk) kp (Nat.le_refl _) (setO_new R), rfl, ?_⟩
      refine BCall.of (cr_sortedSet G.calm) ⟨s.heap.objs.size, _, c, rfl, upd_same, by omega, fun ms p a1 a2 a3 hp => ?_⟩
      have em : ms = ssI ns := asc_eq ms (ssI ns) a1 (ssI_asc ns) fun k => by rw [a2 k, ssI_mem]; simp
      subst em
      have hpH : H p = none := by
        cases q : H p with
        | none => rfl
        | some o => rw [upd_pres hf p o q] at hp; cases hp
      refine hq _ _ Z ⟨fun a o h => upd_pres hp a o (upd_pres hf a o h), fun _ h => h, fun _ h => .inl h, ⟨[p], .ol upd_same (fun z => hz p z hpH) (reps_ints _), fun a m => by cases List.mem_singleton.mp m; exact hpH⟩, fun a z => ?_⟩
      exact zt_upd hp (zt_upd hf hz) a z
    · cases hp
  · cases hp
end
end EV
end SSetL
section SPrim9
set_option Elab.async false
set_option linter.all false
set_option maxRecDepth 100000
set_option maxHeartbeats 2000000
namespace EV
open PySem PySem.Spec PyProof.Rows L2
/-! ### tuple(range(..)), list(range(..)) -/
section
variable {W : Wd} {X : Cx} {Wx : WX} {r : Rec}
theorem tupRgN {e : Expr} {te : L2.St → Hp → (Int → Int → Hp → Prop) → Prop} {p pos : Pos} (hc : X.calm = true) (hg : Gl X "tuple") (hm : X.mg "tuple" = none) (he : PRg X e te) (hs : noStar e = true) :
    PE X (.Call (.Name "tuple" p) [e] [] pos) (fun σ H Q => te σ H fun a b H1 => RgOk a b ∧ TupQ H1 Q (rgV a b)) := by
  refine ⟨fun pins s σ H Q I h => Call_ (ld_blt I hg hm boot_tuple (PyProof.Rows.callWith_type1 (args_cons (thn (he pins s σ H _ I h) ?_) (star_of hs)) (star_of hs)))⟩
  rintro x s1 ⟨rg, a, b, t, u, v, H1, rfl, hr, I1, ok, q⟩
  obtain ⟨b1, b2, b3, b4, b5⟩ := ok
  refine args_nil (call_tuple_range (n := (b - a).toNat) (I1.ok.hd hc) hr (small_one b1 b2 b3 b4) (rangeSize_nat a b) b5 fun h' tk acc hk hi => ?_)
  have I2 : Inv X pins σ H1 { s1 with heap := h', toks := tk } := I1.kept hk
  have hl : (rgV a b).length ≤ sizeLine := by rw [rgV_length, sizeLine_eq]; omega
  have fin := tup_laid (t' := tk) I2 (vals_rg hi) hl q
  unfold tobj at fin
  rw [Array.toArray_toList] at fin
  exact fin
theorem rg_rep {H : Hp} {Z : Addr → Prop} (a b : Int) : RepDs W.K H Z (rgV a b) (rangeL a b) := by
  unfold rgV rangeL
  generalize (b - a).toNat = n
  generalize List.range n = l
  induction l with
  | nil => exact .nil
  | cons x l ih => exact .cons (.int _) ih
theorem small62a_lt {i : Int} (h : small62a i = true) : -(2 ^ 62) ≤ i ∧ i < 2 ^ 62 := by
  have h1 : i.natAbs < 4611686018427387904 := of_decide_eq_true h
  have e : (2 : Int) ^ 62 = 4611686018427387904 := by decide
  rw [e]; omega
def rdR (k : Int → Int → Hp → VK → Prop) : List V → Hp → VK → Prop := fun us H Q => (∃ i, us = [.int i] ∧ k 0 i H Q) ∨ ∃ i j, us = [.int i, .int j] ∧ k i j H Q
theorem rg_args {H : Hp} {Z : Addr → Prop} {us : List V} {ds : List D} {a b : Int} (A : ArgRs W H Z us ds) (h : rgArgs ds = some (a, b)) : RgOk a b ∧ ((us = [.int b] ∧ a = 0) ∨ us = [.int a, .int b]) := by
  unfold rgArgs at h
  have e : (2 : Nat) ^ 24 = 16777216 := by decide
  split at h
  · obtain ⟨x, rfl, h1⟩ := args1 A
    cases h1.int
    obtain ⟨hc, h2⟩ := ite_some h
    cases h2
    simp only [Bool.and_eq_true] at hc
    have := fit_le hc.2
    rw [sizeLine_eq] at this
    have h3 := small62a_lt hc.1
    refine ⟨⟨by decide, by decide, h3.1, h3.2, by rw [e, Int.sub_zero]; exact this⟩, .inl ⟨rfl, rfl⟩⟩
  · obtain ⟨x, y, rfl, h1, h2⟩ := args2 A
    cases h1.int; cases h2.int
    obtain ⟨hc, h2⟩ := ite_some h
    cases h2
    simp only [Bool.and_eq_true] at hc
    have := fit_le hc.2
    rw [sizeLine_eq] at this
    exact ⟨⟨(small62a_lt hc.1.1).1, (small62a_lt hc.1.1).2, (small62a_lt hc.1.2).1, (small62a_lt hc.1.2).2, by rw [e]; exact this⟩, .inr rfl⟩
  · cases h
theorem prim_trange : PrimR W .trange (rdR fun a b H Q => RgOk a b ∧ TupQ H Q (rgV a b)) := by
  intro H Z us ds res Q hz A hp hq
  have hp : (rgArgs ds).map (fun p => PR.dat (.tuple (rangeL p.1 p.2))) = some res := hp
  obtain ⟨⟨a, b⟩, h1, rfl⟩ := Option.map_eq_some_iff.mp hp
  obtain ⟨ok, h2⟩ := rg_args A h1
  have fin : TupQ H Q (rgV a b) := fun p o hn ho => hq _ _ _ (NewV.tup hn ho hz (rg_rep a b))
  rcases h2 with ⟨rfl, rfl⟩ | rfl
  · exact .inl ⟨_, rfl, ok, fin⟩
  · exact .inr ⟨_, _, rfl, ok, fin⟩
theorem prim_lrange : PrimR W .lrange (rdR fun a b H Q => RgOk a b ∧ ∀ q, H q = none → Q (.ref q) (upd H q (.lst (rgV a b)))) := by
  intro H Z us ds res Q hz A hp hq
  have hp : (rgArgs ds).map (fun p => PR.lst (rangeL p.1 p.2)) = some res := hp
  obtain ⟨⟨a, b⟩, h1, rfl⟩ := Option.map_eq_some_iff.mp hp
  obtain ⟨ok, h2⟩ := rg_args A h1
  have fin : ∀ q, H q = none → Q (.ref q) (upd H q (.lst (rgV a b))) := fun p hn => hq _ _ _ (NewV.list hn hz (rg_rep a b))
  rcases h2 with ⟨rfl, rfl⟩ | rfl
  · exact .inl ⟨_, rfl, ok, fin⟩
  · exact .inr ⟨_, _, rfl, ok, fin⟩
theorem snd_trange1 {a : Expr} {p0 p1 pos pos1 : Pos} {es' : List Ex} (hc : X.calm = true) (hg : Gl X "tuple") (hm : X.mg "tuple" = none) (hg2 : Gl X "range") (hm2 : X.mg "range" = none) (hs : noStar a = true) (A : ArgSs W X Wx r [a] es') :
    SndE W X Wx (.Call (.Name "tuple" p0) [.Call (.Name "range" p1) [a] [] pos1] [] pos) (fun ρ => (evDs r es' ρ).bind (prOut .trange)) :=
  snd_pr A prim_trange fun σ H Q q => BE.of (tupRgN hc hg hm (prg_1 hg2 hm2 BE.pe (star_of hs)) rfl) (BE.mono (fun x H1 q1 => by
    rcases q1 with ⟨i, e, q2⟩ | ⟨i, j, e, _⟩
    · cases e; exact ⟨i, rfl, q2⟩
    · cases e) q)
theorem snd_lrange1 {a : Expr} {p0 p1 pos pos1 : Pos} {es' : List Ex} (hc : X.calm = true) (hg : Gl X "list") (hm : X.mg "list" = none) (hg2 : Gl X "range") (hm2 : X.mg "range" = none) (hs : noStar a = true) (A : ArgSs W X Wx r [a] es') :
    SndE W X Wx (.Call (.Name "list" p0) [.Call (.Name "range" p1) [a] [] pos1] [] pos) (fun ρ => (evDs r es' ρ).bind (prOut .lrange)) :=
  snd_pr A prim_lrange fun σ H Q q => BE.of (pe_listRg hc hg hm (prg_1 hg2 hm2 BE.pe (star_of hs)) rfl) (BE.mono (fun x H1 q1 => by
    rcases q1 with ⟨i, e, q2⟩ | ⟨i, j, e, _⟩
    · cases e; exact ⟨i, rfl, q2⟩
    · cases e) q)
end
end EV
end SPrim9
section SRev
set_option Elab.async false
set_option linter.all false
set_option maxRecDepth 100000
set_option maxHeartbeats 2000000
namespace EV
open PySem PySem.Spec PyProof.Rows L2
/-! ### a tuple from its end -/
theorem fm_congr {α β : Type} {f g : α → Option β} : ∀ (l : List α), (∀ m ∈ l, f m = g m) → l.filterMap f = l.filterMap g
  | [], _ => rfl
  | x :: l, h => by
    rw [List.filterMap_cons, List.filterMap_cons, h x List.mem_cons_self, fm_congr l fun m hm => h m (List.mem_cons_of_mem _ hm)]
theorem rev_pick (xs : Array Value) : ((List.range xs.size).filterMap fun (m : Nat) => xs[(((xs.size : Int) - 1) + (m : Int) * (-1)).toNat]?).toArray = xs.toList.reverse.toArray := by
  have e : ∀ m ∈ List.range xs.size, xs[(((xs.size : Int) - 1) + (m : Int) * (-1)).toNat]? = xs.toList.reverse[m]? := fun m hm => by
    have h := List.mem_range.mp hm
    have h2 : (((xs.size : Int) - 1) + (m : Int) * (-1)).toNat = xs.toList.length - 1 - m := by rw [Array.length_toList]; omega
    rw [h2, ← Array.getElem?_toList, List.getElem?_reverse (by rw [Array.length_toList]; exact h)]
  have e2 : (List.range xs.size).filterMap (fun (m : Nat) => xs[(((xs.size : Int) - 1) + (m : Int) * (-1)).toNat]?) = (List.range xs.size).filterMap fun m => xs.toList.reverse[m]? := fm_congr _ e
  rw [e2]
  congr 1
  have hl : xs.size = xs.toList.reverse.length := by simp
  rw [hl]
  generalize xs.toList.reverse = l
  induction l with
  | nil => rfl
  | cons x l ih =>
    rw [List.length_cons, List.range_succ_eq_map, List.filterMap_cons]
    simp only [List.getElem?_cons_zero, List.filterMap_map]
    congr 1
section
variable {prog : Program} {w : World} {A : Around} {E : Value → Shared → Prop} {s : Shared}
theorem sliceApplied_rev {sl : Addr} {vs : Value} {n : Nat} {Q : Int × Int × Nat → Shared → Prop} (hs : s.heap.IsSliceOf sl .none .none vs) (ps : IsPart vs (some (-1)))
    (h : Q ((n : Int) - 1, -1, n) s) : wpAny (model prog w) A (Builtin.Slice.sliceApplied (.ref sl) (pure (n : Int))) Q E s := by
  obtain ⟨os, hos, hcs, hds⟩ := id hs
  unfold Builtin.Slice.sliceApplied Builtin.Slice.sliceFields
  refine wpAny_bind (wpAny_bind (wpAny_field hos hds (x := .none) rfl (wpAny_bind (wpAny_field hos hds (x := .none) rfl (wpAny_bind (wpAny_field hos hds (x := vs) rfl (wpAny_pure ?_)))))))
  refine wpAny_bind (HT.slicePart_ ps ?_)
  show wpAny _ _ (if ((-1 : Int) == 0) = true then _ else _) _ _ s
  rw [if_neg (by decide)]
  refine wpAny_bind (HT.slicePart_ .none (wpAny_bind (HT.slicePart_ .none (wpAny_bind (wpAny_pure ?_)))))
  have e1 : Builtin.Slice.sliceAdjust none none (-1) (n : Int) = ((n : Int) - 1, -1) := rfl
  show wpAny _ _ (match Builtin.Slice.sliceAdjust none none (-1) (n : Int) with | (lo, hi) => pure (lo, (-1 : Int), Builtin.Slice.slicePlaces lo hi (-1))) _ _ s
  rw [e1]
  have e2 : Builtin.Slice.slicePlaces ((n : Int) - 1) (-1) (-1) = n := by
    unfold Builtin.Slice.slicePlaces
    rw [if_neg (by decide)]
    by_cases hn : n = 0
    · subst hn; rfl
    · rw [if_pos (by omega)]
      have : ((n : Int) - 1 - -1 - 1) / (- -1) + 1 = n := by
        rw [show (- -1 : Int) = 1 by decide, Int.ediv_one]; omega
      rw [this]; rfl
  show wpAny _ _ (pure ((n : Int) - 1, (-1 : Int), Builtin.Slice.slicePlaces ((n : Int) - 1) (-1) (-1))) _ _ s
  rw [e2]
  exact wpAny_pure h
theorem getItem_rev {t sl : Addr} {items : Array Value} {vs : Value} {Q : Value → Shared → Prop} (ht : IsTup s.heap t items) (hs : s.heap.IsSliceOf sl .none .none vs) (ps : IsPart vs (some (-1))) (hz : items.size ≤ sizeLine)
    (h : Q (.ref s.heap.objs.size) { s with heap := s.heap.push { cls := .type "tuple", data := .seq items.toList.reverse.toArray } }) : wpAny (model prog w) A (getItem (.ref t) (.ref sl)) Q E s := by
  have hz' : sizeOk (.seq items.toList.reverse.toArray) := by
    show items.toList.reverse.toArray.size ≤ sizeLine
    rw [List.size_toArray, List.length_reverse, Array.length_toList]; exact hz
  obtain ⟨os, hos, hcs, hds⟩ := id hs
  have hTs : s.TypeIs (.ref sl) "slice" := ⟨os, hos, hcs⟩
  unfold getItem
  try with_reducible refine wpAny_holding ?_
  first | refine wpAny_bind (wpAny_pure ?_) | skip
  refine wpAny_bind (wpAny_sequenceKey ht.typeIs (by decide) ?_)
  refine wpAny_bind (wpAny_callSpecial?_slot (name := Str.ofString "__getitem__") ht.typeIs PyProof.Rows.slot_tuple_getitem
    (wpAny_call_entry PyProof.Rows.slot_tuple_getitem ht.typeIs entry_tuple_getitem ?_ (args_tuple_getitem _ _)))
  show wpAny _ _ (Builtin.Tuple.tupleItemsOf (.ref t) >>= _) _ _ s
  refine wpAny_bind (tupleItemsOf_ ht ?_)
  refine wpAny_bind (wpAny_typeOf hTs ?_)
  rw [if_pos (by decide)]
  refine wpAny_bind (sliceApplied_rev hs ps ?_)
  show wpAny _ _ (if ((((items.size : Int) - 1) == 0 && (-1 : Int) == 1 && items.size == items.size)) = true then _ else _) _ _ s
  rw [if_neg (by rw [show ((-1 : Int) == 1) = false from rfl, Bool.and_false, Bool.false_and]; decide), rev_pick]
  first
    | exact wpAny_bind (m := Builtin.Tuple.tupleExact _) (wpAny_newObj_type (wpAny_pure ⟨_, rfl, wpAny_pure h⟩) hz')
    | exact wpAny_bind (m := Builtin.Tuple.tupleExact _) (wpAny_newObj_type (wpAny_bind (wpAny_pure (wpAny_pure ⟨_, rfl, wpAny_pure h⟩))) hz')
end
section
variable {W : Wd} {X : Cx} {Wx : WX} {r : Rec}
/-- x[::-1], by values -/
def BRv (X : Cx) (x : V) (H : Hp) (Q : VK) : Prop := ∀ pins s σ v vs sl, Inv X pins σ H s → RelV x v → s.heap.IsSliceOf sl .none .none vs → IsPart vs (some (-1)) →
  ∃ T id, typeLookup (.type T) "__getitem__" = pure (some (.builtin id)) ∧ s.TypeIs v T ∧ wpAny (model X.prog X.w) X.A (getItem v (.ref sl)) (EP X pins σ Q) X.xe s
theorem pe_rev {e : Expr} {k : Nat} {p1 p2 p3 pos : Pos} : PE X (.Subscript e (.Slice none none (some (.UnaryOp .USub (.Constant (.int 1) k p1) p2)) p3) pos) (fun σ H Q => BE X e σ H fun x H1 => BRv X x H1 Q) := by
  refine ⟨fun pins s σ H Q I h => Subscript_ (thn (h pins s I) ?_)⟩
  rintro v s1 ⟨x, H1, I1, r1, q1⟩
  have hst : PO X (some (.UnaryOp .USub (.Constant (.int 1) k p1) p2)) (tPart (tUn (rU fun i => .int (-i)) (tC (.int 1)))) := po_some (pe_un un_neg pe_int)
  refine wpAny_Slice ?_
  rw [evalPart_none]
  refine wpAny_pure (wpAny_pure (thn (hst.run pins s1 σ H1 (fun o H4 => o = some (-1) ∧ H4 = H1) I1 ⟨1, rfl, -1, rfl, rfl, rfl⟩) ?_))
  rintro vs s4 ⟨o, H4, I4, ps, rfl, rfl⟩
  have I5 : Inv X pins σ H4 { s4 with heap := s4.heap.push { cls := .type "slice", data := .fields #[.none, .none, vs] } } := I4.kept (t' := s4.toks) fun b ob q => Heap.get?_push_of_some _ q
  obtain ⟨T, id, hT, ht, hg⟩ := q1 pins _ σ v vs s4.heap.objs.size I5 r1 (Heap.IsSliceOf.new _ .none .none vs) ps
  show wpAny (model X.prog X.w) X.A (subscriptTail e (.Slice none none (some (.UnaryOp .USub (.Constant (.int 1) k p1) p2)) p3) v (.ref s4.heap.objs.size)) (EP X pins σ Q) X.xe { s4 with heap := s4.heap.push { cls := .type "slice", data := .fields #[.none, .none, vs] } }
  exact tail_any (ops := [v, .ref s4.heap.objs.size]) ht hT hg (by with_unfolding_all rfl)
def rdV (X : Cx) : List V → Hp → VK → Prop := fun us H Q => ∃ x, us = [x] ∧ BRv X x H Q
theorem prim_rev (G : Good W X) : PrimR W .rev (rdV X) := by
  intro H Z us ds res Q hz A hp hq
  have hp : pRev ds = some res := hp
  unfold pRev at hp
  split at hp
  · obtain ⟨x, rfl, h1⟩ := args1 A
    obtain ⟨a, ws, rfl, g1, g2⟩ := h1.lst
    cases hp
    refine ⟨_, rfl, fun pins s σ v vs sl I rx hs ps => ?_⟩
    cases rx
    obtain ⟨zs, n, k1, e, hzz⟩ := I.lst g1
    have hl : s.heap.IsList a zs.toArray := ⟨_, e, rfl, n, rfl⟩
    refine ⟨"list", _, PySem.slot_list_getitem.lookup, hl.typeIs, wpAny_getItem_list_slice hl hs .none .none ps (by decide) ?_ (by rw [List.size_toArray, ← k1.length]; exact hzz)⟩
    rw [PySem.W.krv_pick]
    exact ⟨.ref _, _, I.laid (t' := s.toks) (o := .lst ws.reverse) (fun b ob q => Heap.get?_push_of_some _ q) (Nat.le_refl _) ⟨by rw [List.length_reverse]; exact hzz, zs.reverse, 0, k1.reverse, Heap.get?_push_size _ rfl⟩, rfl, hq _ _ _ (NewV.list (I.hok.fresh (Nat.le_refl _)) hz g2.reverse)⟩
  · obtain ⟨x, rfl, h1⟩ := args1 A
    obtain ⟨a, ws, rfl, g1, g2⟩ := h1.tup
    cases hp
    refine ⟨_, rfl, fun pins s σ v vs sl I rx hs ps => ?_⟩
    cases rx
    obtain ⟨zs, k1, pt, hzz⟩ := I.tuple (X := X) (by rw [G.K]; exact g1)
    refine ⟨"tuple", _, PyProof.Rows.slot_tuple_getitem.lookup, pt.typeIs, getItem_rev pt hs ps (by rw [List.size_toArray, ← k1.length]; exact hzz) ?_⟩
    exact tup_laid (t' := s.toks) I (k1.reverse) (by rw [List.length_reverse]; exact hzz) fun p o hn ho => hq _ _ _ (NewV.tup hn ho hz g2.reverse)
  · cases hp
theorem snd_rev {e : Expr} {k : Nat} {p1 p2 p3 pos : Pos} {es' : List Ex} (G : Good W X) (A : ArgSs W X Wx r [e] es') : SndE W X Wx (.Subscript e (.Slice none none (some (.UnaryOp .USub (.Constant (.int 1) k p1) p2)) p3) pos) (fun ρ => (evDs r es' ρ).bind (prOut .rev)) :=
  snd_pr A (prim_rev G) fun σ H Q q => BE.of pe_rev (BE.mono (fun x H1 q1 => by
    obtain ⟨x', e, q3⟩ := q1
    cases e
    exact q3) q)
end
end EV
end SRev
section SSnd17
set_option Elab.async false
set_option linter.all false
set_option maxRecDepth 100000
set_option maxHeartbeats 1000000
namespace EV
open PySem PySem.Spec PyProof.Rows L2
section
variable {W : Wd} {X : Cx} {Wx : WX} {r : Rec}
/-! ### a op b op c -/
theorem snd_chain {p q : Prim} {a b c : Expr} {a' b' c' : Ex} {op op' : CmpOp} {pos : Pos} (P : PrimR W p (rd2 X (compareOp op))) (P' : PrimR W q (rd2 X (compareOp op'))) (hm : lastMarks [op, op'] [b, c] = false) (A : ArgSs W X Wx r [a, b] [a', b']) (Ac : ArgSs W X Wx r [c] [c']) :
    SndE W X Wx (.Compare a [op, op'] [b, c] pos) (fun ρ => (evChain r p q a' b' c' ρ).bind fun k ρ => .ok (.dat (.bool k)) ρ) := by
  intro Z σ H ρ Fs Q R ns hk hx
  dsimp only at ns hk hx
  refine BE.of (pe_chain BOp.ok BOp.ok BE.pe BE.pe BE.pe hm) (chain_rd P P' A Ac R (Out.bind_ns ns) hx.fst fun k ρ' e H' Z' Fs' n => ?_)
  exact hk _ ρ' (bind_ok e) (.bl k) H' Z' Fs' [] n ⟨.dat (.bl k), fun _ m => (by cases m), fun _ m => (by cases m)⟩
theorem snd_chainT {p q : Prim} {a b c : Expr} {a' b' c' : Ex} {op op' : CmpOp} {pos : Pos} (P : PrimR W p (rd2 X (compareOp op))) (P' : PrimR W q (rd2 X (compareOp op'))) (hm : lastMarks [op, op'] [b, c] = false) (A : ArgSs W X Wx r [a, b] [a', b']) (Ac : ArgSs W X Wx r [c] [c']) :
    SndT W X Wx (.Compare a [op, op'] [b, c] pos) (fun ρ => evChain r p q a' b' c' ρ) := by
  intro Z σ H ρ Fs Q R ns hk hx
  exact BT.of (pt_chain BOp.ok BOp.ok BE.pe BE.pe BE.pe hm) (chain_rd P P' A Ac R ns hx fun k ρ' e H' Z' Fs' n => ⟨k, rfl, hk k ρ' e H' Z' Fs' n⟩)
/-! ### {} -/
theorem snd_dct0 {pos : Pos} {f : Env → Out Val} (h : ∀ ρ, f ρ = .stuck ∨ f ρ = .ok (.od []) ρ) : SndE W X Wx (.Dict [] [] pos) f := by
  intro Z σ H ρ Fs Q R ns hk hx
  rcases h ρ with h | h
  · exact absurd h ns
  · refine BE.of pe_dnewK fun p hn => ?_
    have nv : NewV W H Z (.ref p) (.od []) (upd H p (.dK [])) Z := ⟨upd_pres hn, fun _ h => h, fun _ h => .inl h, ⟨[p], .od upd_same (fun z => R.zok p z hn) rfl .nil, fun a m => by cases List.mem_singleton.mp m; exact hn⟩, zt_upd hn R.zok⟩
    obtain ⟨n, F, v⟩ := nv.nxt R
    exact hk _ ρ h _ _ _ _ F n v
end
end EV
end SSnd17
section SSnd18
set_option Elab.async false
set_option linter.all false
set_option maxRecDepth 100000
set_option maxHeartbeats 1000000
namespace EV
open PySem PySem.Spec PyProof.Rows L2
section
variable {W : Wd} {X : Cx} {Wx : WX} {r : Rec}
/-! ### sorted(set(e)) -/
theorem snd_sortset {e : Expr} {p0 p1 pos pos1 : Pos} {es' : List Ex} (P : PrimR W .sortset (rdSS X)) (hg : Gl X "sorted") (hm : X.mg "sorted" = none) (hg2 : Gl X "set") (hm2 : X.mg "set" = none) (hs : noStar e = true)
    (A : ArgSs W X Wx r [e] es') : SndE W X Wx (.Call (.Name "sorted" p0) [.Call (.Name "set" p1) [e] [] pos1] [] pos) (fun ρ => (evDs r es' ρ).bind (prOut .sortset)) :=
  snd_pr A P fun σ H Q q => BE.of (pe_callB (id := "sorted") BCall.ok hg hm (by decide +kernel) (BEs.pa [.Call (.Name "set" p1) [e] [] pos1] (by rfl)) (by decide) (by decide) (star_of (by rfl)) rfl) (by
    show BE X (.Call (.Name "set" p1) [e] [] pos1) σ H fun y H1 => BCall X (.builtin "sorted") [y] H1 Q
    refine BE.of (pe_callTy (T := "set") BCall.ok hg2 hm2 (by decide +kernel) (BEs.pa [e] (by simpa using hs)) (by decide) (by decide) (star_of hs) rfl) ?_
    refine BE.mono (fun x H1 q1 => ?_) q
    obtain ⟨x', e', q3⟩ := q1
    cases e'
    exact q3)
/-! ### constants -/
def cstOf : Const → Option D
  | .none => some .none
  | .bool b => some (.bool b)
  | .int i => some (.int i)
  | .str x => some (.str x)
  | _ => none
theorem snd_const {c : Const} {d : D} {b : Nat} {pos : Pos} (h : cstOf c = some d) : SndE W X Wx (.Constant c b pos) (fun ρ => .ok (.dat d) ρ) := by
  cases c <;> cases h
  · exact snd_cst pe_non fun _ _ => .non
  · exact snd_cst pe_bl fun _ _ => .bl _
  · exact snd_cst pe_int fun _ _ => .int _
  · exact snd_cst pe_str fun _ _ => .str _
/-! ### a module's constant; a function as a value -/
def glOf : Value → Option D
  | .none => some .none
  | .bool b => some (.bool b)
  | .int i _ => some (.int i)
  | .str x _ => some (.str x)
  | _ => none
theorem snd_glob {x : Str} {u : Value} {d : D} {pos : Pos} (hg : Gl X x) (hm : X.mg x = some u) (h : glOf u = some d) (hd : (x == ("__debug__" : Str)) = false) : SndE W X Wx (.Name x pos) (fun ρ => .ok (.dat d) ρ) := by
  cases u <;> cases h
  · exact snd_cst (pe_glob (v := .non) hg hm rfl hd) fun _ _ => .non
  · exact snd_cst (pe_glob (v := .bl _) hg hm rfl hd) fun _ _ => .bl _
  · exact snd_cst (pe_glob (v := .int _) hg hm ⟨_, rfl⟩ hd) fun _ _ => .int _
  · exact snd_cst (pe_glob (v := .str _) hg hm ⟨_, rfl⟩ hd) fun _ _ => .str _
theorem snd_fnv {x : Str} {f : Nat} {pos : Pos} (hg : Gl X x) (hm : X.mg x = some (.ref (W.fA f))) (hd : (x == ("__debug__" : Str)) = false) : SndE W X Wx (.Name x pos) (fun ρ => .ok (.fn f) ρ) := by
  intro Z σ H ρ Fs Q R ns hk hx
  exact BE.of (pe_glob (v := .ref (W.fA f)) hg hm rfl hd) (hk _ ρ rfl _ H Z Fs [] (.refl R) ⟨.fn f, fun _ m => (by cases m), fun _ m => (by cases m)⟩)
end
end EV
end SSnd18
section SSnd19
set_option Elab.async false
set_option linter.all false
set_option maxRecDepth 100000
set_option maxHeartbeats 1000000
namespace EV
open PySem PySem.Spec PyProof.Rows L2
section
variable {W : Wd} {X : Cx} {Wx : WX} {r : Rec}
/-- what a class of the text's exceptions must have to be asked for -/
structure XcOk (K : PySem.W.Frag) (C : Addr) : Prop where
  cl : (PySem.W.clsIn K C).isSome = true
  ga : PySem.W.findIn K (.ref C) "__getattribute__" = some (some (.builtin "BaseException.__getattribute__"))
  gt : PySem.W.findIn K (.ref C) "__getattr__" = some none
  sub : PySem.W.subIn K (.ref C) (.type "BaseException") = some true
  ca : PySem.W.findIn K (.ref C) "__class__" = some (some (.builtin "object.__class__"))
  sp : PySem.W.specialIn K (.builtin "object.__class__") "__get__" = some (some (.builtin "getset_descriptor.__get__"))
  tk : PySem.W.takesIn K (.builtin "object.__class__") = some true
  mro : PySem.W.mroIn K C (.type "object") = some true
  hd : PySem.W.hasDictIn K C = true
def xcB (K : PySem.W.Frag) (C : Addr) : Bool :=
  (PySem.W.clsIn K C).isSome && (decide (PySem.W.findIn K (.ref C) "__getattribute__" = some (some (.builtin "BaseException.__getattribute__"))) && (decide (PySem.W.findIn K (.ref C) "__getattr__" = some none) && (decide (PySem.W.subIn K (.ref C) (.type "BaseException") = some true) &&
  (decide (PySem.W.findIn K (.ref C) "__class__" = some (some (.builtin "object.__class__"))) && (decide (PySem.W.specialIn K (.builtin "object.__class__") "__get__" = some (some (.builtin "getset_descriptor.__get__"))) && (decide (PySem.W.takesIn K (.builtin "object.__class__") = some true) &&
  (decide (PySem.W.mroIn K C (.type "object") = some true) && PySem.W.hasDictIn K C)))))))
theorem xcB_ok {K : PySem.W.Frag} {C : Addr} (h : xcB K C = true) : XcOk K C := by
  obtain ⟨h1, h⟩ := Bool.and_eq_true_iff.mp h
  obtain ⟨h2, h⟩ := Bool.and_eq_true_iff.mp h
  obtain ⟨h3, h⟩ := Bool.and_eq_true_iff.mp h
  obtain ⟨h4, h⟩ := Bool.and_eq_true_iff.mp h
  obtain ⟨h5, h⟩ := Bool.and_eq_true_iff.mp h
  obtain ⟨h6, h⟩ := Bool.and_eq_true_iff.mp h
  obtain ⟨h7, h⟩ := Bool.and_eq_true_iff.mp h
  obtain ⟨h8, h9⟩ := Bool.and_eq_true_iff.mp h
  exact ⟨h1, of_decide_eq_true h2, of_decide_eq_true h3, of_decide_eq_true h4, of_decide_eq_true h5, of_decide_eq_true h6, of_decide_eq_true h7, of_decide_eq_true h8, h9⟩
/-- a tracked error is an instance of its class -/
theorem repX_inst {pins : List (Addr × Obj)} {σ : L2.St} {H : Hp} {s : Shared} {Z : Addr → Prop} {u : V} {c : Nat} {fs : List D} (I : Inv X pins σ H s) (x : RepX W H Z u c fs) :
    ∃ a ox od, u = .ref a ∧ PySem.W.InstAt s.heap a ox (W.cA c) od ∧
      (fs = [] ∨ ∃ oo us, od = some oo ∧ us.length = (W.fN c).length ∧ RepDs W.K H Z us fs ∧ ∀ n v, ((W.fN c).zip us).lookup n = some v → ∃ w, PySem.W.lookIn n oo = some (some w) ∧ RelV v w) := by
  obtain ⟨a, φ, cls, d, rfl, h2, h3, hc, h4⟩ := x
  have hx : φ s.heap ∧ _ := I.hok a _ h2
  obtain ⟨o, vs, ho, e1, e2, e3⟩ := h3 s.heap hx.1
  rcases h4 with ⟨rfl, rfl⟩ | ⟨dx, us, rfl, g2, g3, g4⟩
  · exact ⟨a, o, none, rfl, ⟨ho, e1.trans hc, by unfold PySem.W.notCls; rw [e3], by rw [e2]; trivial⟩, .inl rfl⟩
  · have hy : ObjOk X.prog X.w H s.heap dx (.xd ((W.fN c).zip us)) := I.hok dx _ g2
    obtain ⟨mA, hns, hr⟩ := hy
    obtain ⟨oo, hoo, hl⟩ := lookIn_ns hns
    refine ⟨a, o, some oo, rfl, ⟨ho, e1.trans hc, by unfold PySem.W.notCls; rw [e3], by rw [e2]; exact hoo⟩, .inr ⟨oo, us, rfl, g3, g4, fun n v l => ?_⟩⟩
    obtain ⟨w, hw, rw'⟩ := RelO.some_of (v := v) (o := mA n) (by rw [← l]; exact hr n)
    exact ⟨w, by rw [hl, hw], rw'⟩
/-! ### isinstance(e, C) -/
theorem snd_isx {cls : Nat → Nat → Bool} {e : Expr} {x : Str} {c : Nat} {p0 p1 pos : Pos} {e' : Ex} (G : Good W X) (S0 : SndE W X Wx e (r.e e')) (hg : Gl X "isinstance") (hm : X.mg "isinstance" = none) (hgx : Gl X x) (hmx : X.mg x = some (.ref (W.cA c))) (hdx : (x == ("__debug__" : Str)) = false) (hs : noStar e = true)
    (hC : ∀ c', XcOk W.K (W.cA c')) (hk1 : ∀ c', PySem.W.kitOne W.K (.ref (W.cA c')) (.ref (W.cA c)) = some (cls c' c)) (hk0 : PySem.W.kitOne W.K (.type "NoneType") (.ref (W.cA c)) = some false) :
    SndE W X Wx (.Call (.Name "isinstance" p0) [e, .Name x p1] [] pos) (fun ρ => (r.e e' ρ).bind fun v ρ => ofO ((isxOf cls c v).map fun b => .dat (.bool b)) ρ) := by
  intro Z σ H ρ Fs Q R ns hk hx
  dsimp only at ns hk hx
  refine BE.of (pe_callB (id := "isinstance") BCall.ok hg hm (by decide +kernel) (BEs.pa [e, .Name x p1] (by simpa [noStar] using hs)) (by decide) (by decide) (star_of hs) rfl) ?_
  show BE X e σ H fun u H1 => BE X (.Name x p1) σ H1 fun w H2 => BCall X (.builtin "isinstance") [u, w] H2 Q
  refine S0.bind R ns hx fun v ρ1 u H1 Z1 Fs1 F1 q n nv ns1 hx1 => ?_
  refine BE.of (pe_glob (v := .ref (W.cA c)) hgx hmx rfl hdx) ?_
  obtain ⟨v2, hv2, e3⟩ := ofO_ns ns1
  obtain ⟨b, hb, rfl⟩ := Option.map_eq_some_iff.mp hv2
  have fin : Q (.bl b) H1 := hk _ ρ1 (by rw [bind_ok q]; exact e3) (.bl b) H1 Z1 Fs1 [] n ⟨.dat (.bl b), fun _ m => (by cases m), fun _ m => (by cases m)⟩
  intro pins s σ' us I rv
  obtain ⟨w1, w2, rfl, r1, r2⟩ := vals2 rv
  cases (show w2 = Value.ref (W.cA c) from r2)
  have hv := nv.v
  unfold isxOf at hb
  split at hb
  · rename_i c' fs
    cases hb
    cases hv with
    | exc rx =>
      obtain ⟨a, ox, od, rfl, J, _⟩ := repX_inst I rx
      cases (show w1 = Value.ref a from r1)
      have C := hC c'
      rw [← G.K] at C
      exact PySem.W.kia_one (PySem.W.kitx_exc C.cl C.ga C.gt C.sub C.ca C.sp C.tk C.mro) I.kIn J (by rw [G.K]; exact hk1 c') (fun z => by cases z) fun tk => ⟨.bl _, H1, I.tok tk, rfl, fin⟩
  · cases hb
    cases hv with
    | dat rd =>
      cases rd
      cases (show w1 = Value.none from r1)
      exact PySem.W.kia_one PySem.W.kitx_none I.kIn True.intro (by rw [G.K]; exact hk0) (fun z => by cases z) fun tk => ⟨.bl _, H1, I.tok tk, rfl, fin⟩
  · cases hb
/-! ### e.f, of an error -/
theorem zip_at {n : Str} : ∀ {ns : List Str} {us : List V} {i : Nat} {v : V}, ns.Nodup → ns[i]? = some n → us[i]? = some v → (ns.zip us).lookup n = some v
  | [], _, _, _, _, h, _ => by simp at h
  | _ :: _, [], _, _, _, _, h => by simp at h
  | m :: ns, u :: us, 0, v, nd, h, h2 => by
    simp at h h2; subst h h2
    simp [List.zip_cons_cons, List.lookup]
  | m :: ns, u :: us, i + 1, v, nd, h, h2 => by
    simp at h h2
    have : n ≠ m := fun e => by subst e; exact (List.nodup_cons.mp nd).1 (List.mem_of_getElem? h)
    rw [List.zip_cons_cons, List.lookup]
    have e : (n == m) = false := beq_eq_false_iff_ne.mpr this
    rw [e]
    exact zip_at (List.nodup_cons.mp nd).2 h h2
theorem snd_fld {e : Expr} {n : Str} {cs : List Nat} {k : Nat} {pos : Pos} {e' : Ex} (G : Good W X) (S0 : SndE W X Wx e (r.e e'))
    (hb0 : attributeBase e n X.env (eval e X.env) = eval e X.env) (hC : ∀ c', XcOk W.K (W.cA c')) (hno : ∀ c', PySem.W.findIn W.K (.ref (W.cA c')) n = some none)
    (hnd : ∀ c', (W.fN c').Nodup) (hat : ∀ c', cs.contains c' = true → k < (W.fN c').length → (W.fN c')[k]? = some n) : SndE W X Wx (.Attribute e n pos) (fun ρ => (r.e e' ρ).bind fun v ρ => ofO ((fldOf cs v k).map .dat) ρ) := by
  intro Z σ H ρ Fs Q R ns hk hx
  dsimp only at ns hk hx
  intro pins s I
  refine attr_of hb0 (wpAny_mono (S0.bind (Q := fun u H1 => ∀ pins s σ' w, Inv X pins σ' H1 s → RelV u w → wpAny (model X.prog X.w) X.A (getAttr w n true) (EP X pins σ' Q) X.xe s) R ns hx (fun v ρ1 u H1 Z1 Fs1 F1 q n' nv ns1 hx1 => ?_) pins s I) (fun w s1 ⟨u, H1, I1, rw1, hh⟩ => hh pins s1 σ w I1 rw1) fun _ _ x => x)
  obtain ⟨v2, hv2, e3⟩ := ofO_ns ns1
  obtain ⟨d, hd, rfl⟩ := Option.map_eq_some_iff.mp hv2
  intro pins s σ' w I1 r1
  unfold fldOf at hd
  split at hd
  · rename_i c' fs
    have hcs : cs.contains c' = true := by
      by_cases z : cs.contains c' = true
      · exact z
      · rw [if_neg z] at hd; cases hd
    rw [if_pos hcs] at hd
    have hv := nv.v
    cases hv with
    | exc rx =>
      obtain ⟨a, ox, od, rfl, J, h⟩ := repX_inst I1 rx
      cases (show w = Value.ref a from r1)
      rcases h with rfl | ⟨oo, us, rfl, hl, hr, hlook⟩
      · simp at hd
      · obtain ⟨u, hu, rd⟩ := hr.get hd
        have hkl : k < (W.fN c').length := by
          rw [← hl]; exact (List.getElem?_eq_some_iff.mp hu).1
        obtain ⟨w, hw, rw2⟩ := hlook n u (zip_at (hnd c') (hat c' hcs hkl) hu)
        have C := hC c'
        rw [← G.K] at C
        exact HandSPX.exc_get I1.kIn J C.ga C.gt C.sub (PySem.W.findObj_own C.hd (by rw [G.K]; exact hno c') rfl hw) (handed_of rw2) ⟨u, H1, I1.tok _, rw2, hk _ ρ1 (by rw [bind_ok q]; exact e3) u H1 Z1 Fs1 [] n' ⟨.dat rd, fun _ m => (by cases m), fun _ m => (by cases m)⟩⟩
  · cases hd
end
end EV
end SSnd19
section SSnd20
set_option Elab.async false
set_option linter.all false
set_option maxRecDepth 100000
set_option maxHeartbeats 1000000
namespace EV
open PySem PySem.Spec PyProof.Rows L2
section
variable {W : Wd} {X : Cx} {Wx : WX} {r : Rec} {pin : List Nat}
/-! ### raise C('m'), C a class without fields of its own -/
theorem snd_raise0 {C : Addr} {bmB : List Value} {B newId initId : String} {x m : Str} {c j : Nat} {p p2 pos pos2 : Pos} (G : Good W X) (tk : Takes X Wx) (F : ExcBaseFacts B newId initId bmB) (q : PySem.W.excIn W.K (W.cA c) bmB newId = true) (gC : X.mg x = some (.ref (W.cA c))) (kC : PySem.W.keepIn W.K (.ref (W.cA c)) = true)
    (r1 : PySem.W.subIn W.K (.ref (W.cA c)) (.type "BaseException") = some true) (r2 : PySem.W.typeIn W.K (.ref (W.cA c)) = some (.type "type")) (hg : Gl X x) (hdb : (x == ("__debug__" : Str)) = false) :
    SndS W X Wx pin (.Raise (some (.Call (.Name x p) [.Constant (.str m) j p2] [] pos)) none pos2) (fun ρ => (evDs r [] ρ).bind fun ds ρ => .exc c ds ρ) := by
  intro Z σ H ρ Fs D R ns hk hx
  rw [← G.K] at q kC r1 r2
  refine BS.of (ps_raise G.calm tk (pmk_own (p := p) (p2 := p2) (pos := pos) F q gC kC (raises_own r1 r2) hg hdb)) ?_
  exact hx c [] ρ rfl _ none σ H Z Fs (.refl R) .refl ⟨rfl, .inl ⟨rfl, rfl⟩⟩
end
end EV
end SSnd20
section SSnd21
set_option Elab.async false
set_option linter.all false
set_option maxRecDepth 100000
set_option maxHeartbeats 1000000
namespace EV
open PySem PySem.Spec PyProof.Rows L2
section
variable {X : Cx} {pins : List (Addr × Obj)} {σ : L2.St} {H : Hp} {s : Shared}
/-- an object that was not there at the entry and is not tracked yet is tracked from now on -/
theorem inv_track {a : Addr} {o : Obj} {φ : Heap → Prop} (I : Inv X pins σ H s) (e : s.heap.get? a = some o) (na : H a = none) (n0 : X.s_0.heap.get? a = none) (nc : ∀ v, o.data ≠ .cell v) (nL : a ≠ X.env.locals) (np : ∀ p ∈ X.pn ++ pins, p.1 ≠ a)
    (ok : ObjOk X.prog X.w (upd H a (.ext φ)) s.heap a (.ext φ)) : Inv X pins σ (upd H a (.ext φ)) s where
  ok := I.ok
  os := I.os
  bare := I.bare
  base := ⟨I.base.keep, I.base.slot, fun b o' q n hx => by
      rw [upd_ne (fun z => by rw [z, n0] at q; cases q)]
      exact I.base.free b o' q n hx, I.base.there,
    fun b xs q => by rw [upd_ne (ne_of_none (I.base.tups b xs q) na)]; exact I.base.tups b xs q,
    fun b o' u q => by rw [upd_ne (ne_of_none (I.base.frzs b o' u q) na)]; exact I.base.frzs b o' u q,
    fun b ps q => by
      obtain ⟨more, z⟩ := I.base.tbls b ps q
      exact ⟨more, by rw [upd_ne (ne_of_none z na)]; exact z⟩⟩
  loc := I.loc
  cell := I.cell
  free := by rw [upd_ne (Ne.symm nL)]; exact I.free
  freeC := fun x c h => by
    have nca : c ≠ a := fun z => by
      obtain ⟨v, w⟩ := I.cell x c h
      rw [z] at w
      obtain ⟨o', e', hd⟩ := w
      rw [e] at e'
      cases e'
      exact nc _ hd
    rw [upd_ne nca]
    exact I.freeC x c h
  pin := fun p hp => by
    obtain ⟨h1, h2, h3⟩ := I.pin p hp
    exact ⟨h1, by rw [upd_ne (np p hp)]; exact h2, h3⟩
  hok := I.hok.laidN (fun _ _ h => h) na ok
  len := I.len
end
end EV
end SSnd21
section SSnd22
set_option Elab.async false
set_option linter.all false
set_option maxRecDepth 100000
set_option maxHeartbeats 2000000
namespace EV
open PySem PySem.Spec PyProof.Rows L2
/-- an object with fields, of the class cls, with the dict d -/
def InsP (a : Addr) (cls : Value) (d : Option Addr) : Heap → Prop := fun h => ∃ o vs, h.get? a = some o ∧ o.cls = cls ∧ o.dict = d ∧ o.data = .fields vs
/-- what 'except x as n: y = n' wishes: slot i is n's, slot j is y's -/
def wKp (K : PySem.W.Frag) (c : Value) (i j : Nat) (Wout : WX) (D : Ends) : WX := fun cls d σ H =>
  ∃ b, PySem.W.exmOne K cls c = some b ∧ (b = true → ∀ a, H a = none → D.nx (((σ.set i (some (.ref a))).set j (some (.ref a))).set i none) (upd H a (.ext (InsP a cls d)))) ∧ (b = false → Wout cls d σ H)
section
variable {X : Cx} {x n y : Str} {c : Value} {i j : Nat} {body : List Stmt} {np np2 yp ap pos pos' : Pos} {tb : WX → TS} {Wout : WX}
theorem ps_try_keep (hs : X.stack = X.env :: X.outer) (hf : X.env.frame = some X.env.locals) (hN : X.N.Nodup) (vo : VarOk X i n) (so : SetOk X j y) (hln : X.env.kindOf n = some .local) (hc : Names X x c) (hex : X.ex = []) (tk : Takes X Wout)
    (hsw : swapsWith (.Name n np2) (some (.Name y yp)) ap.line X.env = pure false)
    (hb : ∀ (W : WX) (pn : List (Addr × Obj)) (xe : Value → Shared → Prop), Takes (X.tr pn xe) W → PassesOwn (model X.prog X.w) X.A X.env xe → PSs (X.tr pn xe) body (tb W)) :
    PS X (.Try body [.ExceptHandler (some (.Name x np)) (some n) [.Assign [.Name y yp] (.Name n np2) ap] pos'] [] [] pos) (fun D σ H => tb (wKp X.K c i j Wout D) D σ H) := by
  refine ⟨fun pins s σ H D I h => ?_⟩
  have ok := I.ok
  have hi := vo.at_
  have hfr : X.A.frames = some (X.env :: X.outer) := by rw [ok.frames, hs]
  have hloc : Loc X.env.scope n := .inl hln
  refine wpAny_Try_except ?_
  refine wpAny_mono ((hb (wKp X.K c i j Wout D) (X.pn ++ pins) (fun e s₁ => wpAny (model X.prog X.w) X.A (noteFrame e X.env) (fun _ s₂ => wpAny (model X.prog X.w) X.A (setFlight e none) (fun _ s₃ =>
    wpAny (model X.prog X.w) X.A (handleBy e X.env [.ExceptHandler (some (.Name x np)) (some n) [.Assign [.Name y yp] (.Name n np2) ap] pos']) (SP X pins D) X.xe s₃) X.xe s₂) X.xe s₁) (fun u s' xx => ?_) PassesOwn.looking).run [] s σ H D (I.toTry _) h) (fun f s1 hsp => ?_) (fun e s1 he => he)
  · obtain ⟨a, B, sI, pins', σ', H', cls, d, rfl, J', nb, up, sky, na, os, ag, b, hb1, hyes, hno⟩ := xx
    have J : Inv X pins σ' H' sI := J'.ofTry ok
    have sky' : Sky B (X.env :: X.outer) a (Zc cls d) X.env.locals s'.heap := by rw [← hs]; exact sky
    show wpAny (model X.prog X.w) X.A (noteFrame (.ref a) X.env) _ _ _
    refine Sky.land Zc.steady hfr hf sky' fun h3 fl3 up3 => ?_
    have J3 : Inv X pins σ' H' { s' with heap := h3 } := J.landed nb fl3.1 (up.trans up3) os ag
    obtain ⟨oe3, vs3, he3, hz3, hd3⟩ := fl3.there
    have notFr : a ∉ frs (X.env :: X.outer) := fun hm => by
      obtain ⟨_, o', e', hnf⟩ := fl3.2.2.1.mem hm
      rw [he3] at e'; cases e'
      exact hnf _ hd3
    have nL : a ≠ X.env.locals := fun z => notFr (List.mem_filterMap.mpr ⟨X.env, List.mem_cons_self, by rw [hf, z]⟩)
    have nF : a ∉ X.fs := fun hm => by
      obtain ⟨e, he, q⟩ := List.mem_filterMap.mp hm
      exact notFr (List.mem_filterMap.mpr ⟨e, List.mem_cons_of_mem _ he, q⟩)
    have nI : sI.heap.get? a = none := by
      cases e : sI.heap.get? a with
      | none => rfl
      | some o =>
        have z := nb a o e (by rw [hs]; exact notFr)
        have z2 : B.get? a = none := fl3.2.1
        rw [z2] at z; cases z
    have n0 : X.s_0.heap.get? a = none := by
      cases e : X.s_0.heap.get? a with
      | none => rfl
      | some o =>
        obtain ⟨o', z⟩ := J.base.there a o e (by rw [hex]; exact fun z => nomatch z)
        rw [nI] at z; cases z
    have npin : ∀ p ∈ X.pn ++ pins, p.1 ≠ a := fun p hp z => by
      have q := (J.pin p hp).1
      rw [z, nI] at q; cases q
    have S3 := J3.suite he3 hd3 na nL nF
    refine wpAny_handleBy_cons (codeAny_handlers_test ?_) (by intro q; cases q)
    have LT : PySem.W.Looks (model X.prog X.w) h3 (typeOf (.ref a)) cls := fun A Q E s k q => wpAny_typeOf_ref (k _ _ he3) (by rw [hz3.1]; exact q)
    have LM := PySem.W.exm_one (M := model X.prog X.w) (J3.kIn) LT hb1
    have test : ∀ {Q : Value → Shared → Prop} {E : Value → Shared → Prop}, Q c { s' with heap := h3 } → wpAny (model X.prog X.w) (X.A.mark (some (.ref a))) (eval (.Name x np) X.env) Q E { s' with heap := h3 } := fun {Q E} q => by
      obtain ⟨hg, hdbg, hm | ⟨hm, hv, hnn⟩⟩ := hc
      · exact ld_glob (X := X.suite a ((a, oe3) :: (X.pn ++ pins))) S3 hg hm q hdbg
      · exact ld_blt (X := X.suite a ((a, oe3) :: (X.pn ++ pins))) S3 hg hm hv q hnn hdbg
    refine test (LM.here ?_)
    cases b with
    | true =>
      refine codeAny_handlers_suite_as ?_
      refine HandSPX.lands_againZ fl3 fun h4 fl4 up4 => ?_
      have J4 : Inv X pins σ' H' { s' with heap := h4 } := J.landed nb fl4.1 ((up.trans up3).trans up4) os ag
      obtain ⟨oe4, vs4, he4, hz4, hd4⟩ := fl4.there
      have S4 := J4.suite he4 hd4 na nL nF
      refine store_ok (X := X.suite a ((a, oe4) :: (X.pn ++ pins))) (v := .ref a) S4 hN hi hloc rfl (fun s5 S5 => ?_) (.inr hln)
      have hil : i < σ'.length := by rw [J4.len]; exact (List.getElem?_eq_some_iff.mp hi).1
      have vo' : VarOk (X.suite a ((a, oe4) :: (X.pn ++ pins))) i n := ⟨vo.at_, vo.vis, vo.nd, vo.nc⟩
      refine wpAny_mono ((pss_one (ps_set (X := X.suite a ((a, oe4) :: (X.pn ++ pins))) (i := j) (x := y) hN so.at_ so.loc (pe_var vo'.at_ vo'.vis vo'.nd vo'.nc) hsw so.fn)).run [] s5 _ H'
        { nx := fun σ6 H6 => σ6 = (σ'.set i (some (.ref a))).set j (some (.ref a)) ∧ H6 = H', rt := fun _ _ => False, bk := fun _ _ => False, ct := fun _ _ => False } S5 ⟨.ref a, List.getElem?_set_self hil, rfl, rfl⟩) (fun f s6 hsp => ?_) (fun _ _ z => False.elim z)
      cases f with
      | next =>
        obtain ⟨σ6, H6, S6, rfl, rfl⟩ := hsp
        obtain ⟨ha6, na6, nL6, nF6, nc6⟩ := S6.pin (a, oe4) (List.mem_append_left _ List.mem_cons_self)
        refine gone_ok (inv_track (φ := InsP a cls d) (S6.unsuite ok) ha6 na6 n0 nc6 nL npin ⟨⟨oe4, vs4, ha6, hz4.1, hz4.2, hd4⟩, ⟨oe4, ha6⟩, fun h1 h2 ⟨o, vs, q, r⟩ k => ⟨o, vs, k o q, r⟩⟩) hN hi hln fun s7 J7 => ⟨_, _, J7, hyes rfl a na⟩
      | brk => obtain ⟨_, _, _, z⟩ := hsp; exact z.elim
      | cont => obtain ⟨_, _, _, z⟩ := hsp; exact z.elim
      | ret u => obtain ⟨_, _, _, _, _, z⟩ := hsp; exact z.elim
    | false =>
      show wpAny _ X.A (handleBy (.ref a) X.env []) _ _ _
      refine wpAny_handleBy_nil ?_
      obtain ⟨k1, k2, k3, oe, vs, T, oT, ts', he, hz, hd, h1, hr⟩ := id fl3
      unfold PySem.passOn
      refine wpAny_bind (wpAny_field he hd h1 ?_)
      rw [if_neg (show ¬ ((Value.ref T == Value.none) = true) from by simp)]
      have fin : wpAny (model X.prog X.w) X.A (setFlight (.ref a) X.env.frame) (fun _ s4 => wpAny (model X.prog X.w) X.A (throw (.ref a) : Sem Flow) (SP X pins D) X.xe s4) X.xe { s' with heap := h3 } := by
        rw [hf]
        refine HandSPX.setFlight_upZ fl3 fun h4 hh4 up4 => wpAny_throw (tk _ _ ?_)
        exact ⟨a, B, sI, pins, σ', H', cls, d, rfl, J, nb, (up.trans up3).trans up4, .inr (.inr (by rw [hs]; exact hh4)), na, os, ag, hno rfl⟩
      first
        | exact wpAny_bind (wpAny_pure (wpAny_bind fin))
        | exact wpAny_bind fin
  · cases f with
    | next =>
      obtain ⟨σ', H', J', q⟩ := hsp
      exact wpAny_execs_nil ⟨σ', H', J'.ofTry ok, q⟩
    | brk =>
      obtain ⟨σ', H', J', q⟩ := hsp
      exact ⟨σ', H', J'.ofTry ok, q⟩
    | cont =>
      obtain ⟨σ', H', J', q⟩ := hsp
      exact ⟨σ', H', J'.ofTry ok, q⟩
    | ret u =>
      obtain ⟨v, σ', H', J', r, q⟩ := hsp
      exact ⟨v, σ', H', J'.ofTry ok, r, q⟩
end
end EV
end SSnd22
section SSnd23
set_option Elab.async false
set_option linter.all false
set_option maxRecDepth 100000
set_option maxHeartbeats 1000000
namespace EV
open PySem PySem.Spec PyProof.Rows L2
section
variable {W : Wd} {X : Cx} {Wx : WX} {r : Rec} {pin : List Nat}
/-- a slot is emptied -/
theorem RelE.wipe1 {H : Hp} {Z : Addr → Prop} {σ : L2.St} {ρ : Env} {Fs : Nat → List Addr} (R : RelE W H Z σ ρ Fs) (i : Nat) : RelE W H Z (σ.set i none) (ρ.set i none) (updF Fs i []) := by
  refine ⟨by simp [R.len], fun j w q => ?_, fun j h => ?_, fun j k a h1 h2 => ?_, R.zok⟩
  · by_cases hj : j = i
    · subst hj
      by_cases hl : j < ρ.length
      · rw [List.getElem?_set_self hl] at q; cases q
      · rw [List.getElem?_eq_none (by simpa using hl)] at q; cases q
    · rw [List.getElem?_set_ne (Ne.symm hj)] at q
      obtain ⟨u', h1, r'⟩ := R.val j w q
      exact ⟨u', by rw [List.getElem?_set_ne (Ne.symm hj)]; exact h1, by rw [updF_ne hj]; exact r'⟩
  · by_cases hj : j = i
    · subst hj; exact updF_same
    · rw [updF_ne hj]
      exact R.nov j fun w q => h w (by rw [List.getElem?_set_ne (Ne.symm hj)]; exact q)
  · by_cases g1 : j = i
    · subst g1; rw [updF_same] at h1; cases h1
    · by_cases g2 : k = i
      · subst g2; rw [updF_same] at h2; cases h2
      · rw [updF_ne g1] at h1; rw [updF_ne g2] at h2; exact R.dis j k a h1 h2
theorem Nxt.wipe1 {H H' : Hp} {Z Z' : Addr → Prop} {Fs Fs' : Nat → List Addr} {σ : L2.St} {ρ : Env} (n : Nxt W H Z Fs σ ρ H' Z' Fs') (i : Nat) : Nxt W H Z Fs (σ.set i none) (ρ.set i none) H' Z' (updF Fs' i []) :=
  ⟨⟨n.e.pres, n.e.zm, n.e.zf, n.e.keep, fun a h => (ow_upd h).elim (fun m => by cases m) fun h => n.e.ofr a h, n.e.zt⟩, n.r.wipe1 i⟩
/-- an error's object, tracked -/
theorem NewV.exc {H : Hp} {Z : Addr → Prop} {a : Addr} {c : Nat} {fs : List D} {cls : Value} {d : Option Addr} (na : H a = none) (hz : ∀ a, Z a → H a ≠ none) (x : ExcR W H Z c fs cls d) : NewV W H Z (.ref a) (.exc c fs) (upd H a (.ext (InsP a cls d))) Z := by
  refine ⟨upd_pres na, fun _ h => h, fun _ h => .inl h, ⟨[], .exc ⟨a, InsP a cls d, cls, d, rfl, upd_same, fun h z => z, x.1, ?_⟩, fun _ m => (by cases m)⟩, zt_upd na hz⟩
  rcases x.2 with h | ⟨dx, us, g1, g2, g3, g4⟩
  · exact .inl h
  · exact .inr ⟨dx, us, g1, upd_pres na _ _ g2, g3, g4.stay (stay_new (upd_pres na) fun _ h => h)⟩
/-- try: body / except C as e: y = e -/
theorem snd_try {cls : Nat → Nat → Bool} {x n y : Str} {c i j : Nat} {body : List Stmt} {body' : List Sm} {np np2 yp ap pos pos' : Pos}
    (hs : X.stack = X.env :: X.outer) (hf : X.env.frame = some X.env.locals) (hN : X.N.Nodup) (vo : VarOk X i n) (so : SetOk X j y) (hln : X.env.kindOf n = some .local) (hc : Names X x (.ref (W.cA c))) (hex : X.ex = []) (hK : X.K = W.K) (tk : Takes X Wx)
    (hsw : swapsWith (.Name n np2) (some (.Name y yp)) ap.line X.env = pure false) (hij : i ≠ j) (hpi : i ∉ pin) (hpj : j ∉ pin) (hk1 : ∀ c', PySem.W.exmOne W.K (.ref (W.cA c')) (.ref (W.cA c)) = some (cls c' c))
    (hb : ∀ (Wo : WX) (pn : List (Addr × Obj)) (xe : Value → Shared → Prop), Takes (X.tr pn xe) Wo → PassesOwn (model X.prog X.w) X.A X.env xe → SndSs W (X.tr pn xe) Wo pin body (evSs r body')) :
    SndS W X Wx pin (.Try body [.ExceptHandler (some (.Name x np)) (some n) [.Assign [.Name y yp] (.Name n np2) ap] pos'] [] [] pos)
      (fun ρ => match evSs r body' ρ with
        | .exc c' fs ρ => if cls c' c then .ok .nx ((ρ.set i none).set j (some (.exc c' fs))) else .exc c' fs ρ
        | o => o) := by
  intro Z σ H ρ Fs D R ns hk hx
  dsimp only at ns hk hx
  refine BS.of (ps_try_keep (tb := fun Wo D σ H => ∀ pn xe, Takes (X.tr pn xe) Wo → PassesOwn (model X.prog X.w) X.A X.env xe → BSs (X.tr pn xe) body D σ H) hs hf hN vo so hln hc hex tk hsw
    (fun Wo pn xe t p => ⟨fun pins s σ H D I h => h pn xe t p pins s I⟩)) fun pn xe t p => ?_
  refine hb _ pn xe t p Z σ H ρ Fs D R (fun q => ns (by rw [q])) (fun fl ρ' q σ' H' Z' Fs' n' p' => hk fl ρ' (by rw [q]) σ' H' Z' Fs' n' p') ?_
  intro c' fs ρ' q ecls d σ' H' Z' Fs' n' p' xr
  rw [q] at hk hx
  dsimp only at hk hx
  have hcl := xr.1
  subst hcl
  refine ⟨cls c' c, by rw [hK]; exact hk1 c', fun hb1 a na => ?_, fun hb0 => ?_⟩
  · rw [if_pos hb1] at hk
    have nw := NewV.exc na n'.r.zok xr
    obtain ⟨n2, F, nv⟩ := nw.nxt n'.r
    have n3 := (n'.trans n2).wipe1 i
    have nv3 : NV W H Fs (upd H' a (.ext (InsP a (.ref (W.cA c')) d))) Z' (updF Fs' i []) (.ref a) (.exc c' fs) F := by
      have nv2 := NV.trans n' nv
      exact ⟨nv2.v, fun b m h => (ow_upd h).elim (fun m => by cases m) fun h => nv2.d b m h, nv2.o⟩
    obtain ⟨Fs4, n4⟩ := n3.set nv3 j
    have e : ((σ'.set i (some (V.ref a))).set j (some (V.ref a))).set i none = (σ'.set i none).set j (some (V.ref a)) := by
      rw [List.set_comm _ _ hij, List.set_set, List.set_comm _ _ (Ne.symm hij)]
    rw [e]
    refine hk .nx _ rfl _ _ _ _ n4 fun k hkp => ?_
    have h1 : k ≠ i := fun z => hpi (by rw [← z]; exact hkp)
    have h2 : k ≠ j := fun z => hpj (by rw [← z]; exact hkp)
    rw [List.getElem?_set_ne (Ne.symm h2), List.getElem?_set_ne (Ne.symm h1)]
    exact p' k hkp
  · rw [if_neg (by rw [hb0]; exact Bool.false_ne_true)] at hx
    exact hx c' fs ρ' rfl _ d σ' H' Z' Fs' n' p' xr
end
end EV
end SSnd23
section SSnd24
set_option Elab.async false
set_option linter.all false
set_option maxRecDepth 100000
set_option maxHeartbeats 2000000
namespace EVX
open PySem PySem.ESX
/-! ### ValueError.__init__ bound to an instance (as HandS.ExcSuper has it for Exception.__init__) -/
abbrev bv (x : Addr) : Obj := { cls := .type "method-wrapper", dict := none, data := .fields #[.builtin "ValueError.__init__", .ref x], slots := #[] }
theorem type_vi : typeOf (.builtin "ValueError.__init__") = pure (.type "wrapper_descriptor") := by show builtinType _ = _; rw [builtinType_eq_fast]; kernel_rfl
theorem nav : (kfb_private% "nameAndClass") (Value.builtin "ValueError.__init__") = (pure (("__init__" : Str), Value.type "ValueError") : Sem (Str × Value)) := by kernel_rfl
section
open PySem.W
variable {prog : Program} {w : World} {M : Model} {A : Around} {E : Value → Shared → Prop} {h : Heap} {g : Array GenState} {d : Drawn} {t : Nat} {os : OsState}
theorem run_wv {x C : Addr} {P : Fin → Shared → Prop} (hin : W.Looks M h (isInstance (.ref x) (.type "ValueError")) true) (hq : P (.done (.ret (.ref h.objs.size))) ⟨h.push (bv x), g, d, t, os⟩) :
    wpAny M A (Builtin.«wrapper_descriptor.__get__» ⟨[.builtin "ValueError.__init__", .ref x, .ref C], []⟩) P E ⟨h, g, d, t, os⟩ := by
  unfold Builtin.«wrapper_descriptor.__get__»
  refine wpAny_bind (wpAny_of_eq (a := (.builtin "ValueError.__init__", some (.ref x), some (.ref C))) (by first | rfl | kernel_rfl) ?_)
  show wpAny M A ((kfb_private% "checkInstance") (.builtin "ValueError.__init__") (.ref x) >>= fun _ => newFields "method-wrapper" [.builtin "ValueError.__init__", .ref x] >>= fun r => ret r) P E _
  refine wpAny_bind ?_
  show wpAny M A ((kfb_private% "nameAndClass") (.builtin "ValueError.__init__") >>= _) _ E _
  refine wpAny_bind (wpAny_of_eq nav ?_)
  show wpAny M A (isInstance (.ref x) (.type "ValueError") >>= _) _ E _
  refine wpAny_bind (hin.at ?_)
  refine KFB.if_not rfl ?_
  refine wpAny_pure ?_
  exact wpAny_bind (wpAny_newObj_type (wpAny_pure hq))
theorem super_gv {so D x C : Addr} {l₀ l : List Value} {K : Frag} {name : Str} {tk : Tok} {Q : Fin → Shared → Prop}
    (hso : h.get? so = some { cls := .type "super", dict := none, data := .fields #[.ref D, .ref x, .ref C], slots := #[] }) (hno : W.Looks (model prog w) h (opaqueClassAbove (.ref C)) none)
    (hC : W.Looks (model prog w) h (mroOf (.ref C)) l₀) (hl : (l₀.dropWhile (· != .ref D)).drop 1 = l) (X : K.In h)
    (hf : alongIn K name l = some (some (.builtin "ValueError.__init__"))) (hxC : x ≠ C) (hn : (name == ("__class__" : Str)) = false) (hin : W.Looks (model prog w) h (isInstance (.ref x) (.type "ValueError")) true)
    (hq : Q (.done (.ret (.ref h.objs.size))) ⟨h.push (bv x), g, d, t, os⟩) :
    wpAny (model prog w) A (Builtin.«super.__getattribute__» ⟨[.ref so, .str name tk], []⟩) Q E ⟨h, g, d, t, os⟩ := by
  have hlk := slot_wd.lookup
  have hne : (Value.ref x == Value.ref C) = false := by simp [hxC]
  have hTf := type_vi
  have hTi : Shared.TypeIs ⟨h, g, d, t, os⟩ (.builtin "ValueError.__init__") "wrapper_descriptor" := type_vi
  have hdt : ({ cls := .type "super", dict := none, data := .fields #[.ref D, .ref x, .ref C], slots := #[] } : Obj).data = .fields #[.ref D, .ref x, .ref C] := rfl
  have f0 : (#[.ref D, .ref x, .ref C] : Array Value)[0]? = some (.ref D) := rfl
  have f1 : (#[.ref D, .ref x, .ref C] : Array Value)[1]? = some (.ref x) := rfl
  have f2 : (#[.ref D, .ref x, .ref C] : Array Value)[2]? = some (.ref C) := rfl
  unfold Builtin.«super.__getattribute__»
  repeat (first
    | (with_reducible refine wpAny_field hso hdt f0 ?_) | (with_reducible refine wpAny_field hso hdt f1 ?_) | (with_reducible refine wpAny_field hso hdt f2 ?_)
    | (with_reducible refine ks_wpAny_notOpaque hno ?_)
    | (with_reducible refine Looks.at hC ?_; rw [hl])
    | (refine ks_forIn_along X (fun _ _ => rfl) rfl ?_ hf)
    | (with_reducible refine wpAny_call_entry slot_wd hTi entry_wd ?_ (args_wd _ _ _))
    | (with_reducible refine run_wv hin ?_)
    | (with_reducible refine ⟨_, rfl, ?_⟩)
    | (simp only [hn, hne, Bool.or_false, Bool.false_eq_true, if_false])
    | wp_step
    | dsimp only)
  all_goals exact hq
end
end EVX
end SSnd24
section SSnd25
set_option Elab.async false
set_option linter.all false
set_option maxRecDepth 100000
set_option maxHeartbeats 2000000
namespace EVX
open PySem PySem.ESX
section
open PySem.W
variable {prog : Program} {w : World} {M : Model} {A : Around} {E : Value → Shared → Prop} {h : Heap} {g : Array GenState} {d : Drawn} {t : Nat} {os : OsState}
theorem getMethod_superV {so D x C : Addr} {l₀ l : List Value} {K : Frag} {name : Str} {pl : Sem Bool} {Q : Value × List Value → Shared → Prop}
    (hso : h.get? so = some { cls := .type "super", dict := none, data := .fields #[.ref D, .ref x, .ref C], slots := #[] }) (hno : W.Looks (model prog w) h (opaqueClassAbove (.ref C)) none)
    (hC : W.Looks (model prog w) h (mroOf (.ref C)) l₀) (hl : (l₀.dropWhile (· != .ref D)).drop 1 = l) (X : K.In h)
    (hf : alongIn K name l = some (some (.builtin "ValueError.__init__"))) (hxC : x ≠ C) (hn : (name == ("__class__" : Str)) = false) (hin : W.Looks (model prog w) h (isInstance (.ref x) (.type "ValueError")) true)
    (hq : Q (.ref h.objs.size, []) ⟨h.push (bv x), g, d, t + 1, os⟩) :
    wpAny (model prog w) A (getMethod (.ref so) name pl) Q E ⟨h, g, d, t, os⟩ := by
  have hlk := F.ks_slot_super_ga.lookup
  have hcan := F.ks_canon_super_ga
  have hT : ∀ t', (⟨h, g, d, t', os⟩ : Shared).TypeIs (.ref so) "super" := fun _ => ⟨_, hso, rfl⟩
  unfold getMethod
  refine wpAny_bind (wpAny_specialOf (hT _) hlk ?_)
  show wpAny _ _ (if (Manifest.canonical "super.__getattribute__" != "object.__getattribute__") = true then _ else _) _ _ _
  rw [if_pos hcan]
  unfold getAttr getAttrBy
  refine wpAny_bind (wpAny_bind (wpAny_mkText (wpAny_holding (wpAny_bind (wpAny_typeOf (hT _) (wpAny_bind (wpAny_of_eq hlk ?_)))))))
  show wpAny _ _ (getAttrByItsOwn (.ref so) (.str name t) (.type "super") (.builtin "super.__getattribute__") true false) _ _ _
  unfold getAttrByItsOwn hookBefore callGetattribute boundAndCalled
  refine wpAny_bind (wpAny_of_eq (show (if onTheHeap (.type "super") then typeLookup (.type "super") "__getattr__" else pure none) = pure none from rfl) ?_)
  refine wpAny_bind (wpAny_attempt (wpAny_holding ?_))
  show wpAny _ _ (bindSpecial (.builtin "super.__getattribute__") (.ref so) >>= _) _ _ _
  refine wpAny_bind (wpAny_of_eq (F.ks_slot_super_ga.bind _) ?_)
  refine wpAny_mono (Q := fun v s' => v = .ref h.objs.size ∧ s' = ⟨h.push (bv x), g, d, t + 1, os⟩) (E := fun _ _ => False)
    (wpAny_call_entry F.ks_slot_super_ga (hT _) F.ks_entry_super_ga (super_gv hso hno hC hl X hf hxC hn hin ⟨_, rfl, rfl, rfl⟩) (F.ks_gaArgs_super _ _)) (fun v s' hv => ?_) fun _ _ z => z.elim
  obtain ⟨rfl, rfl⟩ := hv
  exact wpAny_pure (wpAny_pure hq)
end
/-! ### the wrapper, called -/
section
open PySem.W PySem.Calls PyProof.Rows
variable {prog : Program} {w : World} {M : Model} {A : Around} {E : Value → Shared → Prop} {s : Shared}
theorem callWith_bv {pos : Pos} {u x : Addr} {first : List Value} {args : List (Bool × Sem Value)} {Q : Value → Shared → Prop} (hplain : args.any (·.1) = false)
    (h : wpAny M A (evalArgs (.ref u) true args []) (fun a s₁ => s₁.heap.get? u = some (bv x) ∧ wpAny M A (call (.ref u) (first ++ a.pos) a.kw) Q E s₁) E s) : wpAny M A (callWith pos (.ref u) first args []) Q E s := by
  unfold callWith
  refine wpAny_bind (wpAny_holding (wpAny_mono h (fun a s₁ h₁ => wpAny_bind (wpAny_standAt ?_)) fun _ _ x => x))
  obtain ⟨ho, hcall⟩ := h₁
  simp only [hplain, List.any_nil, Bool.or_false]
  refine wpAny_bind (m := keeperOf (.ref u)) ?_
  unfold keeperOf
  refine wpAny_bind (wpAny_load ho ?_)
  simp only [bv, show (Value.type "method-wrapper" != Value.type "method") = true by decide, show (Value.type "method-wrapper" == Value.type "builtin_function_or_method" || Value.type "method-wrapper" == Value.type "method-wrapper") = true by decide, if_true]
  refine wpAny_pure ?_
  exact wpAny_bind (wpAny_mono hcall (fun r s₂ hr => wpAny_bind (wpAny_holding (wpAny_point (wpAny_pure hr)))) fun _ _ x => x)
theorem callWith_boundV {pos : Pos} {u x : Addr} {first : List Value} {env : Env} {e : Expr} {rest : List Expr} {Q : Value → Shared → Prop}
    (h : wpAny M A (spliced (backTo pos (starEach (e :: rest) env))) (fun vs s₁ => s₁.heap.get? u = some (bv x) ∧ wpAny M A (call (.ref u) (first ++ vs)) Q E s₁) E s)
    (he : starEach (e :: rest) env = (false, eval e env) :: starEach rest env := by rfl) (hplain : (backTo pos (starEach rest env)).any (·.1) = false := by rfl) :
    wpAny M A (callWith pos (.ref u) first (backTo pos (starEach (e :: rest) env)) []) Q E s := by
  rw [he] at h ⊢
  refine callWith_bv (x := x) (by show (false || (backTo pos (starEach rest env)).any (·.1)) = false; rw [hplain]; rfl) ?_
  exact evalArgs_plain h
end
section
open PySem.W PySem.Calls PyProof.Rows
variable {prog : Program} {w : World} {A : Around} {E : Value → Shared → Prop} {h : Heap} {g : Array GenState} {d : Drawn} {t : Nat} {os : OsState}
variable {nm q : Str} {C N : Addr} {bs bm : List Value} {hdct : Bool} {sn : List Str} {sub : List Value} {ab : Bool} {col : Option Bool} {dd : Option Addr} {k0 k1 k2 k3 k5 : Option Value}
theorem call_bv {u e t0 : Addr} {rest : List Value} {Q : Value → Shared → Prop}
    (hC : h.get? C = some (excClassObj nm q C N bs bm hdct sn sub ab col dd k0 k1 k2 k3 k5 "ValueError.__new__")) (he : h.get? e = some (HandSPX.excO C t0)) (hu : h.get? u = some (bv e)) (hrest : rest.length ≤ sizeLine)
    (hq : ∀ h' t1, (∀ b o, b ≠ e → h.get? b = some o → h'.get? b = some o) → h'.get? e = some (HandSPX.excO C t1) → Q .none ⟨h', g, d, t, os⟩) :
    wpAny (model prog w) A (call (.ref u) rest) Q E ⟨h, g, d, t, os⟩ := by
  refine wpAny_call (codeAny_of_tree ?_)
  show wpAny _ A.in1 (callAny (.ref u) ⟨rest, []⟩) _ _ _
  simp only [callAny]
  refine wpAny_bind (wpAny_load hu ?_)
  simp only [bv, show (Value.type "method-wrapper" == Value.type "method" || Value.type "method-wrapper" == Value.type "builtin_function_or_method" || Value.type "method-wrapper" == Value.type "method-wrapper") = true by decide, if_true]
  refine W.KFB.if_so (by decide) ?_
  refine wpAny_bind (check_bound F.excBase_ValueError hC he rfl ?_)
  refine wpAny_bind (wpAny_pure (wpAny_pure ?_))
  refine ⟨Code.quiet_builtin _ (by decide +kernel), codeAny_builtin F.excBase_ValueError.initEntry ?_⟩
  rw [Around.under_plainId F.excBase_ValueError.init.plain _]
  wp_walk
  refine hq _ h.objs.size (fun b o hb ho => ?_) ?_
  · rw [Heap.get?_update_other _ _ (Ne.symm hb)]
    exact Heap.get?_push_of_some _ ho
  · rw [Heap.get?_update_self _ (Heap.get?_push_of_some _ he) rfl]
    rfl
end
end EVX
end SSnd25
section SCmb1
set_option Elab.async false
set_option linter.all false
set_option maxRecDepth 100000
set_option maxHeartbeats 1000000
namespace EV
open PySem PySem.Spec PyProof.Rows L2
/-! ### rules over the evaluator itself: what a generated text names -/
/-- the tables of a law's text -/
structure LawT where
  tbl : List Fn
  fnN : List Str
  clN : List Str
  cls : Nat → Nat → Bool
  blt : List Str
  con : List (Str × D)
  fld : List (List Str)
  ibs : List Bool
/-- what the __init__ of a class of errors does: super().__init__ of a text, then the fields, one by one -/
def spIni (C : Addr) (ns : List Str) (ib : Bool) : Sp := fun vs H Q E => ∃ (a : Addr) (us : List V), vs = .ref a :: us ∧ us.length = ns.length ∧ (ib = true → ∀ u ∈ us, ∃ i : Int, u = .int i ∧ i.natAbs.log2 < 1920) ∧ H a = some (exo a C none) ∧
  ∀ dx, H dx = none → dx ≠ a → Q .non (upd (upd H dx (exd dx (ns.zip us).reverse)) a (exo a C (some dx)))
def IniOk (P : Program) (w : World) (K : PySem.W.Frag) (mg : Str → Option Value) (base : Heap) (C : Addr) (ns : List Str) (ib : Bool) : Prop :=
  OexC K C ∧ ∃ (fI : Addr) (fd : FuncData) (ps : List Str), PySem.W.findIn K (.ref C) "__init__" = some (some (.ref fI)) ∧ PySem.W.typeIn K (.ref fI) = some (.type "function") ∧ FnOk P w K mg base (L2.CX P w) 1 fI fd ps (spIni C ns ib) ∧ Binds K fd ps []
/-- the module's names -/
structure MgOk (T : LawT) (W : Wd) (mg : Str → Option Value) : Prop where
  fn : ∀ f x, T.fnN[f]? = some x → mg x = some (.ref (W.fA f)) ∧ PySem.W.keepIn W.K (.ref (W.fA f)) = true
  cl : ∀ c x, T.clN[c]? = some x → mg x = some (.ref (W.cA c))
  bl : ∀ x, T.blt.contains x = true → mg x = none
  co : ∀ x d, T.con.lookup x = some d → ∃ u, mg x = some u ∧ glOf u = some d
  xc : ∀ c', XcOk W.K (W.cA c')
  k1 : ∀ c c', c < T.clN.length → PySem.W.kitOne W.K (.ref (W.cA c')) (.ref (W.cA c)) = some (T.cls c' c)
  k0 : ∀ c, c < T.clN.length → PySem.W.kitOne W.K (.type "NoneType") (.ref (W.cA c)) = some false
  ex : ∀ c c', c < T.clN.length → PySem.W.exmOne W.K (.ref (W.cA c')) (.ref (W.cA c)) = some (T.cls c' c)
  rs : ∀ c, c < T.clN.length → (T.fld.getD c [] = [] → PySem.W.excIn W.K (W.cA c) [.type "ValueError", .type "Exception", .type "BaseException", .type "object"] "ValueError.__new__" = true) ∧ PySem.W.keepIn W.K (.ref (W.cA c)) = true ∧
    PySem.W.subIn W.K (.ref (W.cA c)) (.type "BaseException") = some true ∧ PySem.W.typeIn W.K (.ref (W.cA c)) = some (.type "type")
  fN : ∀ c, W.fN c = (T.fld.getD c []).reverse
  na : ∀ y, T.fld.flatten.contains y = true → ∀ c', PySem.W.findIn W.K (.ref (W.cA c')) y = some none
def isGl (sc : Scope) (x : Str) : Bool := decide (sc.names.lookup x = some .globalImplicit) && (!(x == ("__debug__" : Str)) && decide (x ≠ ("__name__" : Str)))
def isVar (N : List Str) (sc : Scope) (i : Nat) (x : Str) : Bool := decide (N[i]? = some x) && ((decide (sc.names.lookup x = some .local) || (decide (sc.names.lookup x = some .cell) || decide (sc.names.lookup x = some .free))) && (!(x == ("__debug__" : Str)) && !(x == ("__classdict__" : Str))))
def isSet (b : Bool) (N : List Str) (sc : Scope) (i : Nat) (x : Str) : Bool := decide (N[i]? = some x) && (decide (sc.names.lookup x = some .local) || (b && decide (sc.names.lookup x = some .cell)))
/-- a place where code runs -/
structure CK (T : LawT) (W : Wd) (X : Cx) (Wx : WX) (cl : Nat → List Val → CRes) (b : Bool) (N : List Str) (sc : Scope) (k : Nat) : Prop where
  g : Good W X
  tk : Takes X Wx
  po : PassesOwn (model X.prog X.w) X.A X.env X.xe
  room : Room k X.A
  hN : X.N = N
  hs : X.env.scope = sc
  m : MgOk T W X.mg
  fa : b = true → ∀ x, X.fn x = true
  fns : ∀ f fn, T.tbl[f]? = some fn → FnG X.prog X.w X.K X.mg X.base k (W.fA f) (spEv W fn.np fn.io (cl f))
  k2 : 2 ≤ k
  ini : ∀ c ns ib, T.fld[c]? = some ns → T.ibs[c]? = some ib → ns ≠ [] → IniOk X.prog X.w X.K X.mg X.base (W.cA c) ns ib
structure OkE (T : LawT) (W : Wd) (X : Cx) (Wx : WX) (cl : Nat → List Val → CRes) (e : Expr) (e' : Ex) : Prop where of_ ::
  run : ∀ n, SndE W X Wx e ((evF T.cls cl n).e e')
instance {T : LawT} {W : Wd} {X : Cx} {Wx : WX} {cl : Nat → List Val → CRes} {e : Expr} {e' : Ex} : CoeFun (OkE T W X Wx cl e e') fun _ => ∀ n, SndE W X Wx e ((evF T.cls cl n).e e') := ⟨fun h => h.run⟩
structure OkT (T : LawT) (W : Wd) (X : Cx) (Wx : WX) (cl : Nat → List Val → CRes) (e : Expr) (e' : Ex) : Prop where of_ ::
  run : ∀ n, SndT W X Wx e (evT (evF T.cls cl n) e')
instance {T : LawT} {W : Wd} {X : Cx} {Wx : WX} {cl : Nat → List Val → CRes} {e : Expr} {e' : Ex} : CoeFun (OkT T W X Wx cl e e') fun _ => ∀ n, SndT W X Wx e (evT (evF T.cls cl n) e') := ⟨fun h => h.run⟩
structure OkA (T : LawT) (W : Wd) (X : Cx) (Wx : WX) (cl : Nat → List Val → CRes) (e : Expr) (e' : Ex) : Prop where of_ ::
  run : ∀ n, ArgS W X Wx (evF T.cls cl n) e e'
instance {T : LawT} {W : Wd} {X : Cx} {Wx : WX} {cl : Nat → List Val → CRes} {e : Expr} {e' : Ex} : CoeFun (OkA T W X Wx cl e e') fun _ => ∀ n, ArgS W X Wx (evF T.cls cl n) e e' := ⟨fun h => h.run⟩
structure OkAs (T : LawT) (W : Wd) (X : Cx) (Wx : WX) (cl : Nat → List Val → CRes) (e : List Expr) (e' : List Ex) : Prop where of_ ::
  run : ∀ n, ArgSs W X Wx (evF T.cls cl n) e e'
instance {T : LawT} {W : Wd} {X : Cx} {Wx : WX} {cl : Nat → List Val → CRes} {e : List Expr} {e' : List Ex} : CoeFun (OkAs T W X Wx cl e e') fun _ => ∀ n, ArgSs W X Wx (evF T.cls cl n) e e' := ⟨fun h => h.run⟩
structure OkEs (T : LawT) (W : Wd) (X : Cx) (Wx : WX) (cl : Nat → List Val → CRes) (e : List Expr) (e' : List Ex) : Prop where of_ ::
  run : ∀ n, All2 (fun e e' => SndE W X Wx e ((evF T.cls cl n).e e')) e e'
instance {T : LawT} {W : Wd} {X : Cx} {Wx : WX} {cl : Nat → List Val → CRes} {e : List Expr} {e' : List Ex} : CoeFun (OkEs T W X Wx cl e e') fun _ => ∀ n, All2 (fun e e' => SndE W X Wx e ((evF T.cls cl n).e e')) e e' := ⟨fun h => h.run⟩
structure OkTs (T : LawT) (W : Wd) (X : Cx) (Wx : WX) (cl : Nat → List Val → CRes) (e : List Expr) (e' : List Ex) : Prop where of_ ::
  run : ∀ n, All2 (fun e e' => SndT W X Wx e (evT (evF T.cls cl n) e')) e e'
instance {T : LawT} {W : Wd} {X : Cx} {Wx : WX} {cl : Nat → List Val → CRes} {e : List Expr} {e' : List Ex} : CoeFun (OkTs T W X Wx cl e e') fun _ => ∀ n, All2 (fun e e' => SndT W X Wx e (evT (evF T.cls cl n) e')) e e' := ⟨fun h => h.run⟩
structure OkM (T : LawT) (W : Wd) (X : Cx) (Wx : WX) (cl : Nat → List Val → CRes) (e : List Expr) (e' : List Ex) : Prop where of_ ::
  run : ∀ n, All2 (ArgM W X Wx (evF T.cls cl n)) e e'
instance {T : LawT} {W : Wd} {X : Cx} {Wx : WX} {cl : Nat → List Val → CRes} {e : List Expr} {e' : List Ex} : CoeFun (OkM T W X Wx cl e e') fun _ => ∀ n, All2 (ArgM W X Wx (evF T.cls cl n)) e e' := ⟨fun h => h.run⟩
section
variable {T : LawT} {W : Wd} {X : Cx} {Wx : WX} {cl : Nat → List Val → CRes} {b : Bool} {N : List Str} {sc : Scope} {k : Nat}
theorem and_ok {a b : Bool} (h : (a && b) = true) : a = true ∧ b = true := by simpa using h
theorem not_ok {a : Bool} (h : (!a) = true) : a = false := by simpa using h
theorem CK.gl {x : Str} (C : CK T W X Wx cl b N sc k) (h : isGl sc x = true) : Gl X x ∧ (x == ("__debug__" : Str)) = false ∧ x ≠ ("__name__" : Str) := by
  obtain ⟨h1, h⟩ := and_ok h
  obtain ⟨h2, h3⟩ := and_ok h
  refine ⟨?_, not_ok h2, of_decide_eq_true h3⟩
  show X.env.scope.names.lookup x = _
  rw [C.hs]; exact of_decide_eq_true h1
theorem CK.bl {x : Str} (C : CK T W X Wx cl b N sc k) (h : T.blt.contains x = true) : X.mg x = none := C.m.bl x h
theorem CK.var {i : Nat} {x : Str} (C : CK T W X Wx cl b N sc k) (h : isVar N sc i x = true) : VarOk X i x := by
  obtain ⟨h1, h⟩ := and_ok h
  obtain ⟨h2, h⟩ := and_ok h
  obtain ⟨h3, h4⟩ := and_ok h
  refine ⟨by rw [C.hN]; exact of_decide_eq_true h1, ?_, not_ok h3, not_ok h4⟩
  rw [C.hs]
  rcases Bool.or_eq_true_iff.mp h2 with q | q
  · exact .inl (of_decide_eq_true q)
  · rcases Bool.or_eq_true_iff.mp q with q | q
    · exact .inr (.inl (of_decide_eq_true q))
    · exact .inr (.inr (of_decide_eq_true q))
theorem CK.set {i : Nat} {x : Str} (C : CK T W X Wx cl b N sc k) (h : isSet b N sc i x = true) : SetOk X i x := by
  obtain ⟨h1, h2⟩ := and_ok h
  refine ⟨by rw [C.hN]; exact of_decide_eq_true h1, ?_, ?_⟩
  · rw [C.hs]
    rcases Bool.or_eq_true_iff.mp h2 with q | q
    · exact .inl (of_decide_eq_true q)
    · exact .inr (of_decide_eq_true (and_ok q).2)
  · rw [C.hs]
    rcases Bool.or_eq_true_iff.mp h2 with q | q
    · exact .inr (of_decide_eq_true q)
    · exact .inl (C.fa (and_ok q).1 x)
theorem snd_stuck {e : Expr} : SndE W X Wx e (fun _ => .stuck) := fun Z σ H ρ Fs Q R ns => absurd rfl ns
theorem OkE.mk {e : Expr} {e' : Ex} (h : ∀ n, SndE W X Wx e (stepE T.cls cl (evF T.cls cl n) e')) : OkE T W X Wx cl e e' := .of_ fun n => match n with
  | 0 => snd_stuck
  | n + 1 => h n
/-! arguments -/
def notPk : Ex → Bool
  | .pk _ => false
  | _ => true
theorem a_pk {i : Nat} {x : Str} {pos : Pos} (C : CK T W X Wx cl b N sc k) (h : isVar N sc i x = true) : OkA T W X Wx cl (.Name x pos) (.pk i) := .of_ fun _ => ⟨x, pos, rfl, C.var h⟩
theorem a_e {e : Expr} {e' : Ex} (h : OkE T W X Wx cl e e') (hp : notPk e' = true) : OkA T W X Wx cl e e' := .of_ fun n => by
  have := h n
  cases e' <;> first | exact this | cases hp
theorem as_nil : OkAs T W X Wx cl [] [] := .of_ fun _ => trivial
theorem as_cons {e : Expr} {e' : Ex} {es : List Expr} {es' : List Ex} (h : OkA T W X Wx cl e e') (hs : OkAs T W X Wx cl es es') : OkAs T W X Wx cl (e :: es) (e' :: es') := .of_ fun n => ⟨h n, hs n⟩
theorem es_nil : OkEs T W X Wx cl [] [] := .of_ fun _ => trivial
theorem es_cons {e : Expr} {e' : Ex} {es : List Expr} {es' : List Ex} (h : OkE T W X Wx cl e e') (hs : OkEs T W X Wx cl es es') : OkEs T W X Wx cl (e :: es) (e' :: es') := .of_ fun n => ⟨h n, hs n⟩
theorem ts_nil : OkTs T W X Wx cl [] [] := .of_ fun _ => trivial
theorem ts_cons {e : Expr} {e' : Ex} {es : List Expr} {es' : List Ex} (h : OkT T W X Wx cl e e') (hs : OkTs T W X Wx cl es es') : OkTs T W X Wx cl (e :: es) (e' :: es') := .of_ fun n => ⟨h n, hs n⟩
theorem m_nil : OkM T W X Wx cl [] [] := .of_ fun _ => trivial
theorem m_mt {i : Nat} {x : Str} {pos : Pos} {es : List Expr} {es' : List Ex} (C : CK T W X Wx cl b N sc k) (h : isVar N sc i x = true) (hs : OkM T W X Wx cl es es') : OkM T W X Wx cl (.Name x pos :: es) (.mt i :: es') := .of_ fun n => ⟨⟨x, pos, rfl, C.var h⟩, hs n⟩
theorem m_e1 {e : Expr} {e' : Ex} (h : OkE T W X Wx cl e e') (hp : isMt e' = false) (n : Nat) : ArgM W X Wx (evF T.cls cl n) e e' := by
  have := h n
  cases e' <;> first | exact this | cases hp
theorem m_e {e : Expr} {e' : Ex} {es : List Expr} {es' : List Ex} (h : OkE T W X Wx cl e e') (hp : isMt e' = false) (hs : OkM T W X Wx cl es es') : OkM T W X Wx cl (e :: es) (e' :: es') := .of_ fun n => ⟨m_e1 h hp n, hs n⟩
/-! expressions -/
theorem c_var {i : Nat} {x : Str} {pos : Pos} (C : CK T W X Wx cl b N sc k) (h : isVar N sc i x = true) : OkE T W X Wx cl (.Name x pos) (.var i) := .mk fun _ => snd_var (C.var h)
theorem c_cst {c : Const} {d : D} {j : Nat} {pos : Pos} (h : cstOf c = some d) : OkE T W X Wx cl (.Constant c j pos) (.cst d) := .mk fun _ => snd_const h
theorem c_gl {x : Str} {d : D} {pos : Pos} (C : CK T W X Wx cl b N sc k) (h : isGl sc x = true) (hd : T.con.lookup x = some d) : OkE T W X Wx cl (.Name x pos) (.gl x d) := .mk fun _ => by
  obtain ⟨u, h1, h2⟩ := C.m.co x d hd
  exact snd_glob (C.gl h).1 h1 h2 (C.gl h).2.1
theorem c_fnv {x : Str} {f : Nat} {pos : Pos} (C : CK T W X Wx cl b N sc k) (h : isGl sc x = true) (hf : T.fnN[f]? = some x) : OkE T W X Wx cl (.Name x pos) (.fnv x f) := .mk fun _ => snd_fnv (C.gl h).1 (C.m.fn f x hf).1 (C.gl h).2.1
theorem c_bin {p : Prim} {a d : Expr} {op : Operator} {pos : Pos} {a' d' : Ex} (P : PrimR W p (rd2 X (binaryOp op))) (ha : OkA T W X Wx cl a a') (hd : OkA T W X Wx cl d d') : OkE T W X Wx cl (.BinOp a op d pos) (.pr p [a', d']) := .mk fun n => snd_binop P ⟨ha n, hd n, trivial⟩
theorem c_un {p : Prim} {a : Expr} {op : UnaryOp} {pos : Pos} {a' : Ex} (P : PrimR W p (rd1 X (unaryOp op))) (ha : OkA T W X Wx cl a a') : OkE T W X Wx cl (.UnaryOp op a pos) (.pr p [a']) := .mk fun n => snd_unop P ⟨ha n, trivial⟩
theorem c_cmp {p : Prim} {a d : Expr} {op : CmpOp} {pos : Pos} {a' d' : Ex} (P : PrimR W p (rd2 X (compareOp op))) (hm : behindInMarks op d = false) (ha : OkA T W X Wx cl a a') (hd : OkA T W X Wx cl d d') : OkE T W X Wx cl (.Compare a [op] [d] pos) (.pr p [a', d']) := .mk fun n => snd_cmp P hm ⟨ha n, hd n, trivial⟩
theorem c_isN {p : Prim} {a : Expr} {op : CmpOp} {j : Nat} {pos p2 : Pos} {a' : Ex} (P : PrimR W p (rdN X (compareOp op))) (hm : behindInMarks op (.Constant .none j p2) = false) (ha : OkA T W X Wx cl a a') : OkE T W X Wx cl (.Compare a [op] [.Constant .none j p2] pos) (.pr p [a']) := .mk fun n => snd_cmpN pe_non P hm ⟨ha n, trivial⟩
theorem c_tup {es : List Expr} {es' : List Ex} {j : Nat} {pos : Pos} (hA : OkAs T W X Wx cl es es') (hs : (es.all noStar && (noPk es' && decide (es.length ≤ 1000))) = true) : OkE T W X Wx cl (.Tuple es j pos) (.tup es') := .mk fun n => by
  obtain ⟨h1, h⟩ := and_ok hs
  obtain ⟨h2, h3⟩ := and_ok h
  exact snd_tup (hA n) h1 h2 (of_decide_eq_true h3)
theorem c_lst {es : List Expr} {es' : List Ex} {pos : Pos} (hA : OkAs T W X Wx cl es es') (hs : (es.all noStar && (noPk es' && decide (es.length ≤ 1000))) = true) : OkE T W X Wx cl (.List es pos) (.lst es') := .mk fun n => by
  obtain ⟨h1, h⟩ := and_ok hs
  obtain ⟨h2, h3⟩ := and_ok h
  exact snd_lst (hA n) h1 h2 (of_decide_eq_true h3)
theorem c_dct0 {pos : Pos} : OkE T W X Wx cl (.Dict [] [] pos) (.dct [] []) := .mk fun n => snd_dct0 fun ρ => .inr rfl
theorem c_not {e : Expr} {e' : Ex} {pos : Pos} (h : OkE T W X Wx cl e e') : OkE T W X Wx cl (.UnaryOp .Not e pos) (.not_ e') := .mk fun n => snd_not (h n)
theorem c_and {es : List Expr} {es' : List Ex} {pos : Pos} (h : OkEs T W X Wx cl es es') (hn : es ≠ []) : OkE T W X Wx cl (.BoolOp .And es pos) (.and_ es') := .mk fun n => snd_and es es' (h n) hn
theorem c_or {es : List Expr} {es' : List Ex} {pos : Pos} (h : OkEs T W X Wx cl es es') (hn : es ≠ []) : OkE T W X Wx cl (.BoolOp .Or es pos) (.or_ es') := .mk fun n => snd_or es es' (h n) hn
theorem c_ife {c e f : Expr} {c' e' f' : Ex} {pos : Pos} (hc : OkT T W X Wx cl c c') (he : OkE T W X Wx cl e e') (hf : OkE T W X Wx cl f f') : OkE T W X Wx cl (.IfExp c e f pos) (.ife c' e' f') := .mk fun n => snd_ife (hc n) (he n) (hf n)
theorem c_chain {p q : Prim} {x y z : Expr} {x' y' z' : Ex} {op op' : CmpOp} {pos : Pos} (P : PrimR W p (rd2 X (compareOp op))) (P' : PrimR W q (rd2 X (compareOp op'))) (hm : lastMarks [op, op'] [y, z] = false) (hx : OkA T W X Wx cl x x') (hy : OkA T W X Wx cl y y') (hz : OkA T W X Wx cl z z') :
    OkE T W X Wx cl (.Compare x [op, op'] [y, z] pos) (.chain p q x' y' z') := .mk fun n => snd_chain P P' hm ⟨hx n, hy n, trivial⟩ ⟨hz n, trivial⟩
theorem c_ix {x y : Expr} {x' y' : Ex} {pos : Pos} (C : CK T W X Wx cl b N sc k) (hs : PlainIx y) (hx : OkA T W X Wx cl x x') (hy : OkA T W X Wx cl y y') : OkE T W X Wx cl (.Subscript x y pos) (.pr .idx [x', y']) := .mk fun n => snd_ix (prim_idx C.g) hs ⟨hx n, hy n, trivial⟩
/-- a slice's part -/
structure OkO (T : LawT) (W : Wd) (X : Cx) (Wx : WX) (cl : Nat → List Val → CRes) (o : Option Expr) (e' : Ex) : Prop where of_ ::
  run : ∀ n, ArgT W Wx (evF T.cls cl n) (tI X o) e'
instance {T : LawT} {W : Wd} {X : Cx} {Wx : WX} {cl : Nat → List Val → CRes} {o : Option Expr} {e' : Ex} : CoeFun (OkO T W X Wx cl o e') fun _ => ∀ n, ArgT W Wx (evF T.cls cl n) (tI X o) e' := ⟨fun h => h.run⟩
theorem o_none : OkO T W X Wx cl none (.cst .none) := .of_ fun n => optS_none fun ρ => match n with
  | 0 => .inl rfl
  | n + 1 => .inr rfl
theorem sndR_stuck {t : TE} : SndR W Wx t (fun _ => .stuck) := fun Z σ H ρ Fs Q R ns => absurd rfl ns
theorem o_some {e : Expr} {e' : Ex} (h : OkA T W X Wx cl e e') : OkO T W X Wx cl (some e) (.pr .opti [e']) := .of_ fun n => match n with
  | 0 => sndR_stuck
  | n + 1 => optS_some ⟨h n, trivial⟩
theorem argT_e {e : Expr} {e' : Ex} (h : OkA T W X Wx cl e e') (n : Nat) : ArgT W Wx (evF T.cls cl n) (BE X e) e' := by
  cases e' with
  | pk i =>
    obtain ⟨x, pos, rfl, v⟩ := h n
    exact fun σ H Q u e q => BE.var v e q
  | _ => exact h n
theorem c_slc {e : Expr} {lo hi : Option Expr} {e' l' h' : Ex} {p2 pos : Pos} (C : CK T W X Wx cl b N sc k) (he : OkA T W X Wx cl e e') (hl : OkO T W X Wx cl lo l') (hh : OkO T W X Wx cl hi h') : OkE T W X Wx cl (.Subscript e (.Slice lo hi none p2) pos) (.pr .slc [e', l', h']) :=
  .mk fun n => snd_slc (prim_slc C.g) ⟨argT_e he n, hl n, hh n, trivial⟩
theorem c_rev {e : Expr} {e' : Ex} {j : Nat} {p1 p2 p3 pos : Pos} (C : CK T W X Wx cl b N sc k) (he : OkA T W X Wx cl e e') : OkE T W X Wx cl (.Subscript e (.Slice none none (some (.UnaryOp .USub (.Constant (.int 1) j p1) p2)) p3) pos) (.pr .rev [e']) := .mk fun n => snd_rev C.g ⟨he n, trivial⟩
/-- a built-in name that is not bound anew -/
def isB (T : LawT) (sc : Scope) (x : Str) (e : Expr) : Bool := isGl sc x && (T.blt.contains x && noStar e)
theorem CK.bi {x : Str} {e : Expr} (C : CK T W X Wx cl b N sc k) (h : isB T sc x e = true) : Gl X x ∧ X.mg x = none ∧ x ≠ ("__name__" : Str) ∧ (x == ("__debug__" : Str)) = false ∧ noStar e = true := by
  obtain ⟨h1, h⟩ := and_ok h
  obtain ⟨h2, h3⟩ := and_ok h
  exact ⟨(C.gl h1).1, C.bl h2, (C.gl h1).2.2, (C.gl h1).2.1, h3⟩
theorem c_callB {p : Prim} {x : Str} {id : String} {e : Expr} {e' : Ex} {p0 pos : Pos} (C : CK T W X Wx cl b N sc k) (P : PrimR W p (BCall X (.builtin id))) (hv : bootBuiltins x = some (.builtin id)) (h : isB T sc x e = true) (he : OkA T W X Wx cl e e') : OkE T W X Wx cl (.Call (.Name x p0) [e] [] pos) (.pr p [e']) :=
  .mk fun n => let ⟨h1, h2, h3, h4, h5⟩ := C.bi h; snd_callB P h1 h2 hv h3 h4 h5 ⟨he n, trivial⟩
theorem c_callT {p : Prim} {x : Str} {ty : String} {e : Expr} {e' : Ex} {p0 pos : Pos} (C : CK T W X Wx cl b N sc k) (P : PrimR W p (BCall X (.type ty))) (hv : bootBuiltins x = some (.type ty)) (h : isB T sc x e = true) (he : OkA T W X Wx cl e e') : OkE T W X Wx cl (.Call (.Name x p0) [e] [] pos) (.pr p [e']) :=
  .mk fun n => let ⟨h1, h2, h3, h4, h5⟩ := C.bi h; snd_callT P h1 h2 hv h3 h4 h5 ⟨he n, trivial⟩
theorem c_isi {t : Ty} {e : Expr} {x : Str} {e' : Ex} {p0 p1 pos : Pos} (C : CK T W X Wx cl b N sc k) (h : isB T sc "isinstance" e = true) (hx : isB T sc x e = true) (hv : bootBuiltins x = some (.type (tyN t))) (he : OkA T W X Wx cl e e') : OkE T W X Wx cl (.Call (.Name "isinstance" p0) [e, .Name x p1] [] pos) (.pr (.isi t) [e']) :=
  .mk fun n => let ⟨h1, h2, _, _, h5⟩ := C.bi h; let ⟨g1, g2, g3, g4, _⟩ := C.bi hx; snd_isi (prim_isi C.g t) h1 h2 g1 g2 hv g3 g4 h5 ⟨he n, trivial⟩
theorem c_isx {c : Nat} {e : Expr} {x : Str} {e' : Ex} {p0 p1 pos : Pos} (C : CK T W X Wx cl b N sc k) (h : isB T sc "isinstance" e = true) (hx : isGl sc x = true) (hc : T.clN[c]? = some x) (he : OkE T W X Wx cl e e') : OkE T W X Wx cl (.Call (.Name "isinstance" p0) [e, .Name x p1] [] pos) (.isx e' c) :=
  .mk fun n => let ⟨h1, h2, _, _, h5⟩ := C.bi h; snd_isx C.g (he n) h1 h2 (C.gl hx).1 (C.m.cl c x hc) (C.gl hx).2.1 h5 C.m.xc (fun c' => C.m.k1 c c' (List.getElem?_eq_some_iff.mp hc).1) (C.m.k0 c (List.getElem?_eq_some_iff.mp hc).1)
theorem c_sortset {e : Expr} {e' : Ex} {p0 p1 pos pos1 : Pos} (C : CK T W X Wx cl b N sc k) (h : isB T sc "sorted" e = true) (h' : isB T sc "set" e = true) (he : OkA T W X Wx cl e e') : OkE T W X Wx cl (.Call (.Name "sorted" p0) [.Call (.Name "set" p1) [e] [] pos1] [] pos) (.pr .sortset [e']) :=
  .mk fun n => let ⟨h1, h2, _, _, h5⟩ := C.bi h; let ⟨g1, g2, _, _, _⟩ := C.bi h'; snd_sortset (prim_sortset C.g) h1 h2 g1 g2 h5 ⟨he n, trivial⟩
theorem c_trange {e : Expr} {e' : Ex} {p0 p1 pos pos1 : Pos} (C : CK T W X Wx cl b N sc k) (h : isB T sc "tuple" e = true) (h' : isB T sc "range" e = true) (he : OkA T W X Wx cl e e') : OkE T W X Wx cl (.Call (.Name "tuple" p0) [.Call (.Name "range" p1) [e] [] pos1] [] pos) (.pr .trange [e']) :=
  .mk fun n => let ⟨h1, h2, _, _, h5⟩ := C.bi h; let ⟨g1, g2, _, _, _⟩ := C.bi h'; snd_trange1 C.g.calm h1 h2 g1 g2 h5 ⟨he n, trivial⟩
theorem c_lrange {e : Expr} {e' : Ex} {p0 p1 pos pos1 : Pos} (C : CK T W X Wx cl b N sc k) (h : isB T sc "list" e = true) (h' : isB T sc "range" e = true) (he : OkA T W X Wx cl e e') : OkE T W X Wx cl (.Call (.Name "list" p0) [.Call (.Name "range" p1) [e] [] pos1] [] pos) (.pr .lrange [e']) :=
  .mk fun n => let ⟨h1, h2, _, _, h5⟩ := C.bi h; let ⟨g1, g2, _, _, _⟩ := C.bi h'; snd_lrange1 C.g.calm h1 h2 g1 g2 h5 ⟨he n, trivial⟩
/-- x.split(y), x.partition(y) -/
theorem c_strM {p : Prim} {o e : Expr} {name : Str} {id : String} {o' e' : Ex} {apos cpos : Pos} (P : PrimR W p (rdM X id)) (slot : Slot "str" name id) (hty : typeOf (.builtin id) = pure (.type "method_descriptor")) (h : (baseOk o && (noStar e && (apos.endLine == cpos.line))) = true)
    (ho : OkE T W X Wx cl o o') (hp : notPk o' = true) (he : OkA T W X Wx cl e e') : OkE T W X Wx cl (.Call (.Attribute o name apos) [e] [] cpos) (.pr p [.pr .ostr [o'], e']) := .mk fun n => by
  obtain ⟨h1, h⟩ := and_ok h
  obtain ⟨h2, h3⟩ := and_ok h
  refine snd_strM P slot hty h1 h2 h3 ⟨?_, argT_e he n, trivial⟩
  show SndR W Wx (tS X o) ((evF T.cls cl n).e (.pr .ostr [o']))
  cases n with
  | zero => exact sndR_stuck
  | succ n => exact ostr_s ⟨a_e ho hp n, trivial⟩
theorem c_index {o e : Expr} {o' e' : Ex} {apos cpos : Pos} (C : CK T W X Wx cl b N sc k) (h : (baseOk o && (noStar e && (apos.endLine == cpos.line))) = true) (ho : OkE T W X Wx cl o o') (hp : notPk o' = true) (he : OkA T W X Wx cl e e') :
    OkE T W X Wx cl (.Call (.Attribute o "index" apos) [e] [] cpos) (.pr .index [.pr .oseq [o'], e']) := .mk fun n => by
  obtain ⟨h1, h⟩ := and_ok h
  obtain ⟨h2, h3⟩ := and_ok h
  have hpk : noPk [o'] = true := by cases o' <;> first | rfl | cases hp
  refine snd_index (e0' := .pr .oseq [o']) C.g h1 h2 h3 (fun i q => by cases q) ?_ ?_ ⟨he n, trivial⟩
  · cases n with
    | zero => exact snd_stuck
    | succ n => exact oseq_s ⟨a_e ho hp n, trivial⟩ hpk
  · intro ρ v ρ' q
    cases n with
    | zero => cases q
    | succ n => exact oseq_v q
theorem c_scut {i : Nat} {x : Str} {lo hi : Option Expr} {dl dh : D} {l h : Option Int} {p0 p2 pos : Pos} (C : CK T W X Wx cl b N sc k) (hv : isVar N sc i x = true) (hl : ∀ (σ : L2.St) (H : Hp) (Q : Option Int → Hp → Prop), Q l H → tO X lo σ H Q) (hh : ∀ (σ : L2.St) (H : Hp) (Q : Option Int → Hp → Prop), Q h H → tO X hi σ H Q) (el : opInt dl = some l) (eh : opInt dh = some h) :
    OkE T W X Wx cl (.Subscript (.Name x p0) (.Slice lo hi none p2) pos) (.scut i (.cst dl) (.cst dh)) := .mk fun n => snd_scut C.g (C.var hv) hl hh el eh
theorem c_call {f : Nat} {fn : Fn} {es : List Expr} {es' : List Ex} {x : Str} {p pos : Pos} (C : CK T W X Wx cl b N sc k) (hf : T.tbl[f]? = some fn) (hx : T.fnN[f]? = some x) (h : (isGl sc x && (es.all noStar && (mtOk es' fn.io && decide (es'.length = fn.np)))) = true) (A : OkM T W X Wx cl es es') :
    OkE T W X Wx cl (.Call (.Name x p) es [] pos) (.call f es') := .mk fun n => by
  obtain ⟨h1, h⟩ := and_ok h
  obtain ⟨h2, h⟩ := and_ok h
  obtain ⟨h3, h4⟩ := and_ok h
  have hk : PySem.W.keepIn X.K (.ref (W.fA f)) = true := by rw [C.g.K]; exact (C.m.fn f x hx).2
  exact snd_call C.tk (A n) h3 (of_decide_eq_true h4) (C.fns f _ hf) C.room C.g.gd (C.gl h1).1 (C.m.fn f x hx).1 hk (C.gl h1).2.1 h2
/-- the fields of errors -/
def fldB (T : LawT) (y : Str) (cs : List Nat) (j : Nat) : Bool := T.fld.flatten.contains y && (T.fld.all (fun l => decide l.Nodup) && cs.all fun c => decide ((T.fld.getD c []).reverse[j]? = some y))
theorem c_fld {e : Expr} {y : Str} {cs : List Nat} {j : Nat} {pos : Pos} {e' : Ex} (C : CK T W X Wx cl b N sc k) (he : OkE T W X Wx cl e e') (hb0 : ∀ env, attributeBase e y env (eval e env) = eval e env) (h : fldB T y cs j = true) : OkE T W X Wx cl (.Attribute e y pos) (.fld e' cs j) := .mk fun n => by
  obtain ⟨h1, h⟩ := and_ok h
  obtain ⟨h2, h3⟩ := and_ok h
  refine snd_fld C.g (he n) (hb0 _) C.m.xc (C.m.na y h1) (fun c' => ?_) (fun c' hc _ => ?_)
  · rw [C.m.fN]
    refine (List.reverse_perm _).nodup_iff.mpr ?_
    cases q : T.fld[c']? with
    | none => rw [List.getD_eq_getElem?_getD, q]; exact List.nodup_nil
    | some l =>
      rw [List.getD_eq_getElem?_getD, q]
      exact of_decide_eq_true (List.all_eq_true.mp h2 l (List.mem_of_getElem? q))
  · rw [C.m.fN]
    exact of_decide_eq_true (List.all_eq_true.mp h3 c' (by simpa using hc))
/-! tests -/
theorem t_val {e : Expr} {e' : Ex} (s : OkE T W X Wx cl e e') (he : ∀ whole, isTrue e X.env whole = (do let v ← whole; standAt e.pos; holding [v] (truthy v))) : OkT T W X Wx cl e e' := .of_ fun n => snd_valT (s n) he
theorem sndT_stuck {e : Expr} {f : Env → Out Bool} (h : ∀ ρ, f ρ = .stuck) : SndT W X Wx e f := fun Z σ H ρ Fs Q R ns => absurd (h ρ) ns
theorem OkT.mk {e : Expr} {e' : Ex} (h : ∀ n, SndT W X Wx e (fun ρ => (stepE T.cls cl (evF T.cls cl n) e' ρ).bind boolR)) : OkT T W X Wx cl e e' := .of_ fun n => match n with
  | 0 => sndT_stuck fun _ => rfl
  | n + 1 => h n
theorem t_cmp {p : Prim} {a d : Expr} {op : CmpOp} {pos : Pos} {a' d' : Ex} (P : PrimR W p (rd2 X (compareOp op))) (hm : behindInMarks op d = false) (ha : OkA T W X Wx cl a a') (hd : OkA T W X Wx cl d d') : OkT T W X Wx cl (.Compare a [op] [d] pos) (.pr p [a', d']) := .mk fun n => snd_cmpT P hm ⟨ha n, hd n, trivial⟩
theorem t_isN {p : Prim} {a : Expr} {op : CmpOp} {j : Nat} {pos p2 : Pos} {a' : Ex} (P : PrimR W p (rdN X (compareOp op))) (hm : behindInMarks op (.Constant .none j p2) = false) (ha : OkA T W X Wx cl a a') : OkT T W X Wx cl (.Compare a [op] [.Constant .none j p2] pos) (.pr p [a']) := .mk fun n => snd_cmpNT pe_non P hm ⟨ha n, trivial⟩
theorem t_not {e : Expr} {e' : Ex} {pos : Pos} (h : OkT T W X Wx cl e e') : OkT T W X Wx cl (.UnaryOp .Not e pos) (.not_ e') := .mk fun n => by
  have q := snd_notT (pos := pos) (h n)
  have e1 : (fun ρ => (stepE T.cls cl (evF T.cls cl n) (.not_ e') ρ).bind boolR) = fun ρ => (evT (evF T.cls cl n) e' ρ).bind fun b ρ => .ok (!b) ρ := by
    funext ρ
    show ((evT (evF T.cls cl n) e' ρ).bind fun b ρ => Out.ok (Val.dat (.bool (!b))) ρ).bind boolR = _
    rw [bind_bind]; rfl
  rw [e1]; exact q
theorem t_and {es : List Expr} {es' : List Ex} {pos : Pos} (h : OkTs T W X Wx cl es es') (hn : es ≠ []) : OkT T W X Wx cl (.BoolOp .And es pos) (.and_ es') := .mk fun n => by
  have q := (snd_andT (pos := pos) es es' (h n) hn).t
  have e1 : (fun ρ => (stepE T.cls cl (evF T.cls cl n) (.and_ es') ρ).bind boolR) = evAndT (evF T.cls cl n) es' := by
    funext ρ; exact evAnd_T _ _ _
  rw [e1]; exact q
theorem t_or {es : List Expr} {es' : List Ex} {pos : Pos} (h : OkTs T W X Wx cl es es') (hn : es ≠ []) : OkT T W X Wx cl (.BoolOp .Or es pos) (.or_ es') := .mk fun n => by
  have q := (snd_orT (pos := pos) es es' (h n) hn).t
  have e1 : (fun ρ => (stepE T.cls cl (evF T.cls cl n) (.or_ es') ρ).bind boolR) = evOrT (evF T.cls cl n) es' := by
    funext ρ; exact evOr_T _ _ _
  rw [e1]; exact q
theorem t_chain {p q : Prim} {x y z : Expr} {x' y' z' : Ex} {op op' : CmpOp} {pos : Pos} (P : PrimR W p (rd2 X (compareOp op))) (P' : PrimR W q (rd2 X (compareOp op'))) (hm : lastMarks [op, op'] [y, z] = false) (hx : OkA T W X Wx cl x x') (hy : OkA T W X Wx cl y y') (hz : OkA T W X Wx cl z z') :
    OkT T W X Wx cl (.Compare x [op, op'] [y, z] pos) (.chain p q x' y' z') := .mk fun n => by
  have s := snd_chainT (Wx := Wx) (pos := pos) P P' hm ⟨hx n, hy n, trivial⟩ ⟨hz n, trivial⟩
  have e1 : (fun ρ => (stepE T.cls cl (evF T.cls cl n) (.chain p q x' y' z') ρ).bind boolR) = fun ρ => evChain (evF T.cls cl n) p q x' y' z' ρ := by
    funext ρ
    show ((evChain (evF T.cls cl n) p q x' y' z' ρ).bind fun k ρ => Out.ok (Val.dat (.bool k)) ρ).bind boolR = _
    rw [bind_bind]
    cases evChain (evF T.cls cl n) p q x' y' z' ρ <;> rfl
  rw [e1]; exact s
end
end EV
end SCmb1
section SCmb2
set_option Elab.async false
set_option linter.all false
set_option maxRecDepth 100000
set_option maxHeartbeats 1000000
namespace EV
open PySem PySem.Spec PyProof.Rows L2
section
variable {T : LawT} {W : Wd} {X : Cx} {Wx : WX} {cl : Nat → List Val → CRes} {b : Bool} {N : List Str} {sc : Scope} {k : Nat} {pin : List Nat} {pr : Bool}
/-- within a comprehension's block -/
theorem CK.blk (C : CK T W X Wx cl b N sc k) {s : Shared} {H0 : Hp} {scope : Scope} {cs : List (Str × Addr)} {Ca : Addr} {fp : List Addr} : CK T W (X.blk s H0 scope (compEnvC scope cs Ca X.env) fp) W0 cl false N (relS scope sc) k where
  g := ⟨C.g.K, C.g.calm, C.g.nd, C.g.un, C.g.hd, C.g.gd, C.g.sm⟩
  tk := takes0
  po := PassesOwn.never
  room := C.room
  hN := C.hN
  hs := by
    show relabel scope X.env = relS scope sc
    rw [← C.hs]; rfl
  m := C.m
  fa := fun h => by cases h
  fns := C.fns
  k2 := C.k2
  ini := C.ini
/-! targets -/
structure OkG (pr : Bool) (W : Wd) (X : Cx) (pin : List Nat) (tg : Expr) (t : Tgt) : Prop where of_ ::
  run : SndG pr W X pin tg t
theorem g_nm {i : Nat} {x : Str} {pos : Pos} (C : CK T W X Wx cl b N sc k) (h : isSet b N sc i x = true) (hp : i ∉ pin) : OkG false W X pin (.Name x pos) (.nm i) := .of_ <| snd_nm C.g.nd (C.set h) hp
theorem tg_nil : TgNames X pin [] [] := trivial
theorem tg_cons {i : Nat} {x : Str} {pos : Pos} {es : List Expr} {is : List Nat} (C : CK T W X Wx cl b N sc k) (h : isSet b N sc i x = true) (hp : i ∉ pin) (r : TgNames X pin es is) : TgNames X pin (.Name x pos :: es) (i :: is) := ⟨⟨x, pos, rfl, C.set h, hp⟩, r⟩
theorem g_tup {es : List Expr} {is : List Nat} {j : Nat} {pos : Pos} (C : CK T W X Wx cl b N sc k) (h : TgNames X pin es is) : OkG pr W X pin (.Tuple es j pos) (.tup is) := .of_ <| snd_tgt C.g.K C.g.calm C.g.nd h
/-! what is walked -/
structure OkI (pr : Bool) (T : LawT) (W : Wd) (X : Cx) (Wx : WX) (cl : Nat → List Val → CRes) (tg iter : Expr) (kd : ItK) (as : List Ex) : Prop where of_ ::
  run : ∀ n, SndI pr W X Wx tg iter (evI (evF T.cls cl n) kd as)
instance {pr : Bool} {T : LawT} {W : Wd} {X : Cx} {Wx : WX} {cl : Nat → List Val → CRes} {tg iter : Expr} {kd : ItK} {as : List Ex} : CoeFun (OkI pr T W X Wx cl tg iter kd as) fun _ => ∀ n, SndI pr W X Wx tg iter (evI (evF T.cls cl n) kd as) := ⟨fun h => h.run⟩
theorem noPk1 {e' : Ex} (h : notPk e' = true) : noPk [e'] = true := by cases e' <;> first | rfl | cases h
theorem i_val {tg iter : Expr} {e' : Ex} (C : CK T W X Wx cl b N sc k) (he : OkE T W X Wx cl iter e') (hp : notPk e' = true) : OkI pr T W X Wx cl tg iter .val [e'] := .of_ fun n => sndI_val C.g.K ⟨a_e he hp n, trivial⟩ (noPk1 hp)
theorem i_range1 {tg a : Expr} {a' : Ex} {p pos : Pos} (C : CK T W X Wx cl b N sc k) (h : isB T sc "range" a = true) (ha : OkE T W X Wx cl a a') (hp : notPk a' = true) : OkI pr T W X Wx cl tg (.Call (.Name "range" p) [a] [] pos) .range [a'] :=
  .of_ fun n => let ⟨h1, h2, _, _, h5⟩ := C.bi h; sndI_range1 h1 h2 h5 ⟨a_e ha hp n, trivial⟩ (noPk1 hp)
theorem noPk2 {e' f' : Ex} (h : notPk e' = true) (h2 : notPk f' = true) : noPk [e', f'] = true := by cases e' <;> first | exact noPk1 h2 | cases h
theorem i_range2 {tg a d : Expr} {a' d' : Ex} {p pos : Pos} (C : CK T W X Wx cl b N sc k) (h : isB T sc "range" a = true) (hd : noStar d = true) (ha : OkE T W X Wx cl a a') (hp : notPk a' = true) (hb : OkE T W X Wx cl d d') (hp2 : notPk d' = true) : OkI pr T W X Wx cl tg (.Call (.Name "range" p) [a, d] [] pos) .range [a', d'] :=
  .of_ fun n => let ⟨h1, h2, _, _, h5⟩ := C.bi h; sndI_range2 h1 h2 (by simp [h5, hd]) ⟨a_e ha hp n, a_e hb hp2 n, trivial⟩ (noPk2 hp hp2)
theorem i_enum {a : Expr} {elts : List Expr} {j : Nat} {a' : Ex} {tpos p pos : Pos} (C : CK T W X Wx cl b N sc k) (h : isB T sc "enumerate" a = true) (ha : OkE T W X Wx cl a a') (hp : notPk a' = true) : OkI true T W X Wx cl (.Tuple elts j tpos) (.Call (.Name "enumerate" p) [a] [] pos) .enum [a'] :=
  .of_ fun n => let ⟨h1, h2, _, _, h5⟩ := C.bi h; sndI_enum C.g.K h1 h2 h5 ⟨a_e ha hp n, trivial⟩ (noPk1 hp)
theorem i_zip {a d : Expr} {elts : List Expr} {j : Nat} {a' d' : Ex} {tpos p pos : Pos} (C : CK T W X Wx cl b N sc k) (h : isB T sc "zip" a = true) (hd : noStar d = true) (ha : OkE T W X Wx cl a a') (hp : notPk a' = true) (hb : OkE T W X Wx cl d d') (hp2 : notPk d' = true) : OkI true T W X Wx cl (.Tuple elts j tpos) (.Call (.Name "zip" p) [a, d] [] pos) .zip [a', d'] :=
  .of_ fun n => let ⟨h1, h2, _, _, h5⟩ := C.bi h; sndI_zip C.g.K h1 h2 (by simp [h5, hd]) ⟨a_e ha hp n, a_e hb hp2 n, trivial⟩ (noPk2 hp hp2)
/-! comprehensions -/
structure OkQ (T : LawT) (W : Wd) (X : Cx) (Wx : WX) (cl : Nat → List Val → CRes) (ifs : List Expr) (cs : List Ex) : Prop where of_ ::
  run : ∀ n, SndTs W X Wx ifs (evTs (evF T.cls cl n) cs)
instance {T : LawT} {W : Wd} {X : Cx} {Wx : WX} {cl : Nat → List Val → CRes} {ifs : List Expr} {cs : List Ex} : CoeFun (OkQ T W X Wx cl ifs cs) fun _ => ∀ n, SndTs W X Wx ifs (evTs (evF T.cls cl n) cs) := ⟨fun h => h.run⟩
theorem q_nil : OkQ T W X Wx cl [] [] := .of_ fun _ => snd_tests_nil
theorem q_one {c : Expr} {c' : Ex} (h : OkT T W X Wx cl c c') : OkQ T W X Wx cl [c] [c'] := .of_ fun n => snd_tests_one (h n)
theorem not_pinC {i n : Nat} {own : List Nat} (h : own.contains i = true) : i ∉ pinC n own := fun m => (mem_pinC.mp m).2 (by simpa using h)
/-- what stands within -/
structure InB (pr : Bool) (T : LawT) (W : Wd) (cl : Nat → List Val → CRes) (N : List Str) (sc : Scope) (k : Nat) (own : List Nat) (tg : Expr) (t : Tgt) (ifs : List Expr) (cs : List Ex) (elt : Expr) (e' : Ex) : Prop where of_ ::
  run : ∀ X' : Cx, CK T W X' W0 cl false N sc k → (∀ n, OkG pr W X' (pinC n own) tg t) ∧ OkQ T W X' W0 cl ifs cs ∧ OkE T W X' W0 cl elt e'
theorem InB.at {scope : Scope} {own : List Nat} {tg : Expr} {t : Tgt} {ifs : List Expr} {cs : List Ex} {elt : Expr} {e' : Ex} (C : CK T W X Wx cl b N sc k) (h : InB pr T W cl N (relS scope sc) k own tg t ifs cs elt e') (n : Nat) : InC pr W X (evF T.cls cl n) scope own tg t ifs cs elt e' := fun s H0 Ca cs' fp =>
  let ⟨h1, h2, h3⟩ := h.run _ (C.blk (s := s) (H0 := H0) (scope := scope) (cs := cs') (Ca := Ca) (fp := fp))
  ⟨fun n => (h1 n).run, h2 n, h3 n⟩
theorem c_lc {elt tg iter : Expr} {ifs : List Expr} {scope : Scope} {own : List (Str × Nat)} {pos : Pos} {e' : Ex} {t : Tgt} {kd : ItK} {as cs : List Ex} {ow : List Nat} (pr : Bool) (C : CK T W X Wx cl b N sc k) (ok : BlkOk N sc scope own) (how : own.map (·.2) = ow) (hfs : ∀ env x, foldedSetIterable iter env x = pure x)
    (si : OkI pr T W X Wx cl tg iter kd as) (inn : InB pr T W cl N (relS scope sc) k ow tg t ifs cs elt e') : OkE T W X Wx cl (.ListComp elt [⟨tg, iter, ifs, 0⟩] scope pos) (.lc e' t kd as cs ow) := .mk fun n => by
  subst how
  have ok' : BlkOk X.N X.env.scope scope own := by rw [C.hN, C.hs]; exact ok
  exact snd_lc C.g.calm C.g.nd ok' (fun x => hfs _ x) (si n) (inn.at C n)
/-! statements -/
structure OkS (T : LawT) (W : Wd) (X : Cx) (Wx : WX) (cl : Nat → List Val → CRes) (pin : List Nat) (st : Stmt) (s' : Sm) : Prop where of_ ::
  run : ∀ n, SndS W X Wx pin st ((evF T.cls cl n).s s')
instance {T : LawT} {W : Wd} {X : Cx} {Wx : WX} {cl : Nat → List Val → CRes} {pin : List Nat} {st : Stmt} {s' : Sm} : CoeFun (OkS T W X Wx cl pin st s') fun _ => ∀ n, SndS W X Wx pin st ((evF T.cls cl n).s s') := ⟨fun h => h.run⟩
structure OkSs (T : LawT) (W : Wd) (X : Cx) (Wx : WX) (cl : Nat → List Val → CRes) (pin : List Nat) (st : List Stmt) (s' : List Sm) : Prop where of_ ::
  run : ∀ n, SndSs W X Wx pin st (evSs (evF T.cls cl n) s')
instance {T : LawT} {W : Wd} {X : Cx} {Wx : WX} {cl : Nat → List Val → CRes} {pin : List Nat} {st : List Stmt} {s' : List Sm} : CoeFun (OkSs T W X Wx cl pin st s') fun _ => ∀ n, SndSs W X Wx pin st (evSs (evF T.cls cl n) s') := ⟨fun h => h.run⟩
theorem sndS_stuck {st : Stmt} : SndS W X Wx pin st (fun _ => .stuck) := fun Z σ H ρ Fs D R ns => absurd rfl ns
theorem OkS.mk {st : Stmt} {s' : Sm} (h : ∀ n, SndS W X Wx pin st (stepS T.cls (evF T.cls cl n) s')) : OkS T W X Wx cl pin st s' := .of_ fun n => match n with
  | 0 => sndS_stuck
  | n + 1 => h n
theorem ss_nil : OkSs T W X Wx cl pin [] [] := .of_ fun _ => snd_nil
theorem ss_cons {st : Stmt} {s' : Sm} {sts : List Stmt} {ss' : List Sm} (h : OkS T W X Wx cl pin st s') (hs : OkSs T W X Wx cl pin sts ss') : OkSs T W X Wx cl pin (st :: sts) (s' :: ss') := .of_ fun n => snd_cons (h n) (hs n)
theorem not_mem {i : Nat} {l : List Nat} (h : (!l.contains i) = true) : i ∉ l := fun m => by
  have h2 : l.contains i = false := not_ok h
  have h3 : l.contains i = true := by simpa using m
  rw [h2] at h3; cases h3
theorem s_set {e : Expr} {e' : Ex} {i : Nat} {x : Str} {pos pos' : Pos} (C : CK T W X Wx cl b N sc k) (h : (isSet b N sc i x && !pin.contains i) = true) (hs : ∀ env, env.scope = sc → swapsWith e (some (.Name x pos')) pos.line env = pure false) (he : OkE T W X Wx cl e e') : OkS T W X Wx cl pin (.Assign [.Name x pos'] e pos) (.set i e') :=
  .mk fun n => snd_set C.g.nd (C.set (and_ok h).1) (not_mem (and_ok h).2) (hs _ C.hs) (he n)
/-- x = [..] where the comprehension's value is stored at once -/
theorem s_setLc {i : Nat} {y : Str} {py spos : Pos} {elt tg iter : Expr} {ifs : List Expr} {scope : Scope} {own : List (Str × Nat)} {pos : Pos} {e' : Ex} {t : Tgt} {kd : ItK} {as cs : List Ex} {ow : List Nat} (pr : Bool) (C : CK T W X Wx cl b N sc k) (h : (decide (N[i]? = some y) && (decide (sc.names.lookup y = some .local) && !pin.contains i)) = true)
    (hsw : ∀ env, env.scope = sc → swapsWith (.ListComp elt [⟨tg, iter, ifs, 0⟩] scope pos) (some (.Name y py)) spos.line env = pure true)
    (ok : BlkOk N sc scope own) (how : own.map (·.2) = ow) (hfs : ∀ env x, foldedSetIterable iter env x = pure x) (si : OkI pr T W X Wx cl tg iter kd as) (inn : InB pr T W cl N (relS scope sc) k ow tg t ifs cs elt e') :
    OkS T W X Wx cl pin (.Assign [.Name y py] (.ListComp elt [⟨tg, iter, ifs, 0⟩] scope pos) spos) (.set i (.lc e' t kd as cs ow)) := by
  obtain ⟨h1, h⟩ := and_ok h
  obtain ⟨h2, hp⟩ := and_ok h
  subst how
  have ok' : BlkOk X.N X.env.scope scope own := by rw [C.hN, C.hs]; exact ok
  refine .of_ fun n => ?_
  cases n with
  | zero => exact sndS_stuck
  | succ n => cases n with
    | zero => exact fun Z σ H ρ Fs D R ns => absurd rfl ns
    | succ n => exact snd_setLc C.g.calm C.g.nd (by rw [C.hN]; exact of_decide_eq_true h1) (by rw [C.hs]; exact of_decide_eq_true h2) (not_mem hp) (hsw _ C.hs) ok' (fun x => hfs _ x) (si n) (inn.at C n)
theorem s_setT {e : Expr} {e' : Ex} {es : List Expr} {is : List Nat} {j : Nat} {pt pos : Pos} (C : CK T W X Wx cl b N sc k) (ht : TgNames X pin es is) (hs : ∀ env, swapsWithSole [.Tuple es j pt] e pos.line env = pure false) (hw : ∀ env, env.scope = sc → swappedStores [.Tuple es j pt] e env = pure none) (he : OkE T W X Wx cl e e') (hp : notPk e' = true) :
    OkS T W X Wx cl pin (.Assign [.Tuple es j pt] e pos) (.setT is e') := .mk fun n => snd_setT C.g.K C.g.calm C.g.nd ht (hs _) (hw _ C.hs) ⟨a_e he hp n, trivial⟩ (noPk1 hp)
theorem s_par2 {i j : Nat} {x y : Str} {a c : Expr} {es' : List Ex} {px py pt pos : Pos} {kt k2 pt2} (C : CK T W X Wx cl b N sc k) (hij : (decide (N[i]? = some x) && (decide (N[j]? = some y) && (decide (i ≠ j) && (!pin.contains i && !pin.contains j)))) = true)
    (h : (decide (sc.names.lookup x = some .local) && (decide (sc.names.lookup y = some .local) && [a, c].all noStar)) = true) (hw : ∀ env, env.scope = sc → swappedStores [.Tuple [.Name x px, .Name y py] kt pt] (.Tuple [a, c] k2 pt2) env = pure (some [x, y]))
    (hss : ∀ env, swapsWithSole [.Tuple [.Name x px, .Name y py] kt pt] (.Tuple [a, c] k2 pt2) pos.line env = pure false) (A : OkEs T W X Wx cl [a, c] es') :
    OkS T W X Wx cl pin (.Assign [.Tuple [.Name x px, .Name y py] kt pt] (.Tuple [a, c] k2 pt2) pos) (.setP [i, j] es') := .mk fun n => by
  obtain ⟨hi, hij⟩ := and_ok hij
  obtain ⟨hj, hij⟩ := and_ok hij
  obtain ⟨hne, hij⟩ := and_ok hij
  obtain ⟨hp1, hp2⟩ := and_ok hij
  obtain ⟨l1, h⟩ := and_ok h
  obtain ⟨l2, hst⟩ := and_ok h
  refine snd_par2 C.g.calm C.g.nd (by rw [C.hN]; exact of_decide_eq_true hi) (by rw [C.hN]; exact of_decide_eq_true hj) (of_decide_eq_true hne) (by rw [C.hs]; exact of_decide_eq_true l1) (by rw [C.hs]; exact of_decide_eq_true l2) hst ?_ (hw _ C.hs) (hss _) (A n)
  intro l hl
  rcases List.mem_cons.mp hl with rfl | hl
  · exact not_mem hp1
  · rw [List.mem_singleton.mp hl]; exact not_mem hp2
theorem s_par3 {i j l : Nat} {x y z : Str} {a c d : Expr} {es' : List Ex} {px py pz pt pos : Pos} {kt k2 pt2} (C : CK T W X Wx cl b N sc k) (hij : (decide (N[i]? = some x) && (decide (N[j]? = some y) && (decide (N[l]? = some z) && (decide (i ≠ j) && (decide (i ≠ l) && (decide (j ≠ l) && (!pin.contains i && (!pin.contains j && !pin.contains l)))))))) = true)
    (h : (decide (sc.names.lookup x = some .local) && (decide (sc.names.lookup y = some .local) && (decide (sc.names.lookup z = some .local) && [a, c, d].all noStar))) = true) (hw : ∀ env, env.scope = sc → swappedStores [.Tuple [.Name x px, .Name y py, .Name z pz] kt pt] (.Tuple [a, c, d] k2 pt2) env = pure (some [x, y, z]))
    (hss : ∀ env, swapsWithSole [.Tuple [.Name x px, .Name y py, .Name z pz] kt pt] (.Tuple [a, c, d] k2 pt2) pos.line env = pure false) (A : OkEs T W X Wx cl [a, c, d] es') :
    OkS T W X Wx cl pin (.Assign [.Tuple [.Name x px, .Name y py, .Name z pz] kt pt] (.Tuple [a, c, d] k2 pt2) pos) (.setP [i, j, l] es') := .mk fun n => by
  obtain ⟨hi, hij⟩ := and_ok hij
  obtain ⟨hj, hij⟩ := and_ok hij
  obtain ⟨hl, hij⟩ := and_ok hij
  obtain ⟨hne, hij⟩ := and_ok hij
  obtain ⟨hne2, hij⟩ := and_ok hij
  obtain ⟨hne3, hij⟩ := and_ok hij
  obtain ⟨hp1, hij⟩ := and_ok hij
  obtain ⟨hp2, hp3⟩ := and_ok hij
  obtain ⟨l1, h⟩ := and_ok h
  obtain ⟨l2, h⟩ := and_ok h
  obtain ⟨l3, hst⟩ := and_ok h
  refine snd_par3 C.g.calm C.g.nd (by rw [C.hN]; exact of_decide_eq_true hi) (by rw [C.hN]; exact of_decide_eq_true hj) (by rw [C.hN]; exact of_decide_eq_true hl) (of_decide_eq_true hne) (of_decide_eq_true hne2) (of_decide_eq_true hne3) (by rw [C.hs]; exact of_decide_eq_true l1) (by rw [C.hs]; exact of_decide_eq_true l2) (by rw [C.hs]; exact of_decide_eq_true l3) hst ?_ (hw _ C.hs) (hss _) (A n)
  intro m hm
  rcases List.mem_cons.mp hm with rfl | hm
  · exact not_mem hp1
  · rcases List.mem_cons.mp hm with rfl | hm
    · exact not_mem hp2
    · rw [List.mem_singleton.mp hm]; exact not_mem hp3
theorem s_ret {e : Expr} {e' : Ex} {pos : Pos} (he : OkE T W X Wx cl e e') : OkS T W X Wx cl pin (.Return (some e) pos) (.ret e') := .mk fun n => snd_ret (he n)
theorem s_expr {e : Expr} {e' : Ex} {pos : Pos} (hs : ∀ env, swapsWith e none pos.line env = pure false) (he : OkE T W X Wx cl e e') : OkS T W X Wx cl pin (.Expr e pos) (.expr e') := .mk fun n => snd_expr (hs _) (he n)
theorem s_if {c : Expr} {c' : Ex} {a d : List Stmt} {a' d' : List Sm} {pos : Pos} (hc : OkT T W X Wx cl c c') (ha : OkSs T W X Wx cl pin a a') (hd : OkSs T W X Wx cl pin d d') : OkS T W X Wx cl pin (.If c a d pos) (.if_ c' a' d') := .mk fun n => snd_if (hc n) (ha n) (hd n)
theorem s_pass {pos : Pos} : OkS T W X Wx cl pin (.Pass pos) .pass := .mk fun _ => snd_pass
theorem s_brk {pos : Pos} : OkS T W X Wx cl pin (.Break pos) .brk := .mk fun _ => snd_brk
theorem s_cont {pos : Pos} : OkS T W X Wx cl pin (.Continue pos) .cont := .mk fun _ => snd_cont
theorem s_for {tg iter : Expr} {t : Tgt} {kd : ItK} {as : List Ex} {body : List Stmt} {body' : List Sm} {pos : Pos} (pr : Bool) (C : CK T W X Wx cl b N sc k) (hfs : ∀ env x, foldedSetIterable iter env x = pure x) (si : OkI pr T W X Wx cl tg iter kd as) (sg : OkG pr W X pin tg t) (sb : OkSs T W X Wx cl pin body body') :
    OkS T W X Wx cl pin (.For tg iter body [] pos) (.for_ t kd as body') := .mk fun n => snd_for C.po C.g.calm (fun x => hfs _ x) (si n) sg.run (sb n)
theorem s_setIx {i : Nat} {x : Str} {e q : Expr} {e' q' : Ex} {p0 p1 pos : Pos} (C : CK T W X Wx cl b N sc k) (h : isVar N sc i x = true) (he : OkE T W X Wx cl e e') (hq : OkA T W X Wx cl q q') (hs : ∀ env, swapsWithSole [.Subscript (.Name x p0) q p1] e pos.line env = pure false) (hw : ∀ env, swappedStores [.Subscript (.Name x p0) q p1] e env = pure none)
    (ha : ∀ env v, assign (.Subscript (.Name x p0) q p1) env v = (do
      let ov ← holding [v] (eval (.Name x p0) env)
      let iv ← holding [v, ov] (eval q env)
      standAt p1
      holding [v, ov, iv] (setItem ov iv v)
      release [v, ov, iv] [])) : OkS T W X Wx cl pin (.Assign [.Subscript (.Name x p0) q p1] e pos) (.setIx i q' e') :=
  .mk fun n => snd_setIx (C.var h) (he n) ⟨hq n, trivial⟩ (hs _) (hw _) (fun v => ha _ v)
theorem s_mut {m : Mut} {id : String} {fz : Bool} {i : Nat} {x : Str} {e : Expr} {es : List Expr} {es' : List Ex} {p0 apos cpos pos : Pos} {name : Str} (C : CK T W X Wx cl b N sc k) (M : MutR W X m id fz) (slot : Slot "list" name id) (hty : typeOf (.builtin id) = pure (.type "method_descriptor")) (h : isVar N sc i x = true)
    (h2 : ((!fz || noPk es') && ((e :: es).all noStar && (decide ((e :: es).length < 30) && (apos.endLine == cpos.line)))) = true) (hs : ∀ env, swapsWith (.Call (.Attribute (.Name x p0) name apos) (e :: es) [] cpos) none pos.line env = pure false) (A : OkAs T W X Wx cl (e :: es) es') :
    OkS T W X Wx cl pin (.Expr (.Call (.Attribute (.Name x p0) name apos) (e :: es) [] cpos) pos) (.mut m i es') := .mk fun n => by
  obtain ⟨h3, h2⟩ := and_ok h2
  obtain ⟨h4, h2⟩ := and_ok h2
  obtain ⟨h5, h6⟩ := and_ok h2
  exact snd_mut (C.var h) M slot hty (A n) (fun z => by subst z; simpa using h3) h4 (of_decide_eq_true h5) h6 (hs _)
theorem s_raise0 {c j : Nat} {x m : Str} {p p2 pos pos2 : Pos} (C : CK T W X Wx cl b N sc k) (h : (isGl sc x && decide (T.fld.getD c [] = [])) = true) (hc : T.clN[c]? = some x) : OkS T W X Wx cl pin (.Raise (some (.Call (.Name x p) [.Constant (.str m) j p2] [] pos)) none pos2) (.raise c []) := .mk fun n =>
  let ⟨r1, r2, r3, r4⟩ := C.m.rs c (List.getElem?_eq_some_iff.mp hc).1
  snd_raise0 (r := evF T.cls cl n) (C := W.cA c) C.g C.tk F.excBase_ValueError (r1 (of_decide_eq_true (and_ok h).2)) (C.m.cl c x hc) r2 r3 r4 (C.gl (and_ok h).1).1 (C.gl (and_ok h).1).2.1
/-- at a def's own level -/
structure CD (X : Cx) : Prop where
  st : X.stack = X.env :: X.outer
  fr : X.env.frame = some X.env.locals
  ex : X.ex = []
theorem CK.tr (C : CK T W X Wx cl b N sc k) {Wo : WX} {pn : List (Addr × Obj)} {xe : Value → Shared → Prop} (tk : Takes (X.tr pn xe) Wo) (po : PassesOwn (model X.prog X.w) X.A X.env xe) : CK T W (X.tr pn xe) Wo cl b N sc k :=
  ⟨⟨C.g.K, C.g.calm, C.g.nd, C.g.un, C.g.hd, C.g.gd, C.g.sm⟩, tk, po, C.room, C.hN, C.hs, C.m, C.fa, C.fns, C.k2, C.ini⟩
theorem s_try {x e y : Str} {c i j : Nat} {body : List Stmt} {body' : List Sm} {np np2 yp ap pos pos' : Pos} (C : CK T W X Wx cl b N sc k) (Cd : CD X) (hv : (isVar N sc i e && (isSet b N sc j y && (decide (sc.names.lookup e = some .local) && (decide (i ≠ j) && (!pin.contains i && !pin.contains j))))) = true) (hx : isGl sc x = true) (hc : T.clN[c]? = some x)
    (hsw : ∀ env, swapsWith (.Name e np2) (some (.Name y yp)) ap.line env = pure false) (hb : ∀ X' Wo, CK T W X' Wo cl b N sc k → CD X' → OkSs T W X' Wo cl pin body body') :
    OkS T W X Wx cl pin (.Try body [.ExceptHandler (some (.Name x np)) (some e) [.Assign [.Name y yp] (.Name e np2) ap] pos'] [] [] pos) (.try_ body' c i j) := .mk fun n => by
  obtain ⟨h1, hv⟩ := and_ok hv
  obtain ⟨h2, hv⟩ := and_ok hv
  obtain ⟨h3, hv⟩ := and_ok hv
  obtain ⟨h4, hv⟩ := and_ok hv
  obtain ⟨h5, h6⟩ := and_ok hv
  have hln : X.env.kindOf e = some .local := by show X.env.scope.names.lookup e = _; rw [C.hs]; exact of_decide_eq_true h3
  exact snd_try Cd.st Cd.fr C.g.nd (C.var h1) (C.set h2) hln ⟨(C.gl hx).1, (C.gl hx).2.1, .inl (C.m.cl c x hc)⟩ Cd.ex C.g.K C.tk (hsw _) (of_decide_eq_true h4) (not_mem h5) (not_mem h6) (fun c' => C.m.ex c c' (List.getElem?_eq_some_iff.mp hc).1)
    fun Wo pn xe tk po => hb _ Wo (C.tr tk po) ⟨Cd.st, Cd.fr, Cd.ex⟩ n
end
end EV
end SCmb2
section SCmb3
set_option Elab.async false
set_option linter.all false
set_option maxRecDepth 100000
set_option maxHeartbeats 1000000
namespace EV
open PySem PySem.Spec PyProof.Rows L2
/-! the built-in names -/
theorem B_len : bootBuiltins (Str.ofString "len") = some (.builtin "len") := by kernel_rfl
theorem B_abs : bootBuiltins (Str.ofString "abs") = some (.builtin "abs") := by kernel_rfl
theorem B_repr : bootBuiltins (Str.ofString "repr") = some (.builtin "repr") := by kernel_rfl
theorem B_all : bootBuiltins (Str.ofString "all") = some (.builtin "all") := by kernel_rfl
theorem B_any : bootBuiltins (Str.ofString "any") = some (.builtin "any") := by kernel_rfl
theorem B_sorted : bootBuiltins (Str.ofString "sorted") = some (.builtin "sorted") := by kernel_rfl
theorem B_int : bootBuiltins (Str.ofString "int") = some (.type "int") := by kernel_rfl
theorem B_str : bootBuiltins (Str.ofString "str") = some (.type "str") := by kernel_rfl
theorem B_bool : bootBuiltins (Str.ofString "bool") = some (.type "bool") := by kernel_rfl
theorem B_tuple : bootBuiltins (Str.ofString "tuple") = some (.type "tuple") := by kernel_rfl
theorem B_list : bootBuiltins (Str.ofString "list") = some (.type "list") := by kernel_rfl
theorem B_dict : bootBuiltins (Str.ofString "dict") = some (.type "dict") := by kernel_rfl
section
variable {T : LawT} {W : Wd} {X : Cx} {Wx : WX} {cl : Nat → List Val → CRes} {b : Bool} {N : List Str} {sc : Scope} {k : Nat} {pin : List Nat}
theorem tpart_none {σ : L2.St} {H : Hp} {Q : Option Int → Hp → Prop} (q : Q none H) : tO X none σ H Q := q
theorem tpart_int {i : Int} {j : Nat} {pos : Pos} {σ : L2.St} {H : Hp} {Q : Option Int → Hp → Prop} (q : Q (some i) H) : tO X (some (.Constant (.int i) j pos)) σ H Q := BE.of pe_int ⟨i, rfl, q⟩
/-- a comprehension's names -/
def blkB (N : List Str) (sc scope : Scope) (own : List (Str × Nat)) : Bool :=
  decide (scope.kind = .function) && (scope.names.all (fun y => decide (scope.names.lookup y.1 = some y.2)) && (own.all (fun p => decide (N[p.2]? = some p.1)) &&
    (scope.names.all (fun y => !decide (y.2 = .free) || (decide (sc.names.lookup y.1 = some .cell) || decide (sc.names.lookup y.1 = some .free))) &&
      scope.names.all (fun y => !(decide (y.2 = .local) || decide (y.2 = .cell)) || ((own.map (·.1)).contains y.1 || !N.contains y.1)))))
theorem blkB_ok {scope : Scope} {own : List (Str × Nat)} (h : blkB N sc scope own = true) : BlkOk N sc scope own := by
  obtain ⟨h1, h⟩ := and_ok h
  obtain ⟨h2, h⟩ := and_ok h
  obtain ⟨h3, h⟩ := and_ok h
  obtain ⟨h4, h5⟩ := and_ok h
  refine ⟨of_decide_eq_true h1, fun y m => of_decide_eq_true (List.all_eq_true.mp h2 y m), fun p m => of_decide_eq_true (List.all_eq_true.mp h3 p m), fun y m e => ?_, fun y m e => ?_⟩
  · have q := List.all_eq_true.mp h4 y m
    rcases Bool.or_eq_true_iff.mp q with q | q
    · rw [decide_eq_true e] at q; cases q
    · rcases Bool.or_eq_true_iff.mp q with q | q
      · exact .inl (of_decide_eq_true q)
      · exact .inr (of_decide_eq_true q)
  · have q := List.all_eq_true.mp h5 y m
    rcases Bool.or_eq_true_iff.mp q with q | q
    · have z : (decide (y.2 = .local) || decide (y.2 = .cell)) = true := by
        rcases e with e | e
        · rw [decide_eq_true e]; rfl
        · rw [decide_eq_true e, Bool.or_true]
      rw [z] at q; cases q
    · rcases Bool.or_eq_true_iff.mp q with q | q
      · exact .inl (by simpa using q)
      · refine .inr fun m2 => ?_
        have z : N.contains y.1 = true := by simpa using m2
        rw [z] at q; cases q
/-- raise C(e, ..), C a class of errors with fields -/
theorem ofO_ok {α β : Type} {o : Option α} {a : α} {ρ : Env} {f : α → Env → Out β} (h : o = some a) : (ofO o ρ).bind f = f a ρ := by rw [h]; rfl
theorem zip_rev {α β : Type} : ∀ (as : List α) (bs : List β), as.length = bs.length → (as.zip bs).reverse = as.reverse.zip bs.reverse
  | [], [], _ => rfl
  | a :: as, b :: bs, h => by
    have h' : as.length = bs.length := by simpa using h
    rw [List.zip_cons_cons, List.reverse_cons, List.reverse_cons, List.reverse_cons, zip_rev as bs h', List.zip_append (by simp [h'])]
    rfl
  | [], _ :: _, h => by simp at h
  | _ :: _, [], h => by simp at h
theorem snd_raiseF {r : Rec} {c n : Nat} {ib : Bool} {x : Str} {e : Expr} {es : List Expr} {es' : List Ex} {p pos pos2 : Pos} {ns0 : List Str} (G : Good W X) (tk : Takes X Wx) (hr : Room 2 X.A) (hI : IniOk X.prog X.w X.K X.mg X.base (W.cA c) ns0 ib) (hfN : W.fN c = ns0.reverse) (hn : ns0.length = n) (hn2 : n ≤ 1000)
    (hg : Gl X x) (hdb : (x == ("__debug__" : Str)) = false) (gC : X.mg x = some (.ref (W.cA c))) (hs : (e :: es).all noStar = true) (hpk : noPk es' = true) (A : ArgSs W X Wx r (e :: es) es') :
    SndS W X Wx pin (.Raise (some (.Call (.Name x p) (e :: es) [] pos)) none pos2) (fun ρ => (evDs r es' ρ).bind fun ds ρ => (ofO (iniOk n ib ds) ρ).bind fun _ ρ => .exc c ds.reverse ρ) := by
  intro Z σ H ρ Fs D R ns hk hx
  dsimp only at ns hk hx
  obtain ⟨TC, fI, fd, ps, iC, tI, F1, hb⟩ := hI
  have hs' : noStar e = true ∧ es.all noStar = true := by simpa using hs
  refine BS.of (ps_raise G.calm tk (pmk_oex (CX := L2.CX X.prog X.w) (p := p) (pos := pos) TC iC tI F1 hr hb .nil passL hg gC (BEs.pa (e :: es) hs) hdb (star_of hs'.1) ((back_any pos _).1.trans (star_all es hs'.2).1))) ?_
  refine snd_Ds (e :: es) es' A Z σ H ρ Fs _ R (Out.bind_ns ns) (fun ds ρ1 q us H1 Z1 Fs1 n1 ar hrs => ?_) hx.e.fst
  have rs := hrs hpk
  rw [bind_ok q] at ns hx
  have h0 : ∃ z, iniOk n ib ds = some z := by
    cases h : iniOk n ib ds with
    | none => rw [h] at ns; exact absurd rfl ns
    | some z => exact ⟨z, rfl⟩
  obtain ⟨z, hz⟩ := h0
  rw [ofO_ok hz] at hx
  unfold iniOk at hz
  split at hz
  · rename_i hcond
    obtain ⟨c1, c2⟩ := and_ok hcond
    have hlen : ds.length = n := by simpa using c1
    have hul : us.length = n := by rw [rs.length, hlen]
    refine ⟨by omega, fun a ha => ?_⟩
    rw [List.append_nil]
    refine ⟨a, us, rfl, by rw [hul, hn], fun hib u hu => ?_, upd_same, fun dx hdx hne => ⟨rfl, dx, (ns0.zip us).reverse, upd_same, ?_, ?_, ?_⟩⟩
    · subst hib
      obtain ⟨i, hi⟩ := List.mem_iff_getElem?.mp hu
      obtain ⟨d, hd, rd⟩ := rs.getV hi
      have c3 : ds.all smallD = true := by simpa using c2
      have c4 := List.all_eq_true.mp c3 d (List.mem_of_getElem? hd)
      cases d with
      | int i => cases rd; exact ⟨i, rfl, of_decide_eq_true c4⟩
      | _ => cases c4
    · rw [upd_ne hne, upd_same]
    · rw [upd_ne hne] at hdx; exact hdx
    · have hdx' : H1 dx = none := by rw [upd_ne hne] at hdx; exact hdx
      have eH : upd (del (upd (upd (upd H1 a (exo a (W.cA c) none)) dx (exd dx (ns0.zip us).reverse)) a (exo a (W.cA c) (some dx))) a) dx (.xd (ns0.zip us).reverse) = upd H1 dx (.xd ((W.fN c).zip us.reverse)) := by
        rw [hfN, zip_rev _ _ (by rw [hn, hul])]
        funext b
        by_cases hb : b = dx
        · rw [hb, upd_same, upd_same]
        · rw [upd_ne hb, upd_ne hb]
          by_cases hba : b = a
          · rw [hba, del_same, ha]
          · rw [del_ne hba, upd_ne hba, upd_ne hb, upd_ne hba]
      show Wx (.ref (W.cA c)) (some dx) σ _
      rw [eH]
      have st : Stay H1 (upd H1 dx (.xd ((W.fN c).zip us.reverse))) Z1 Z1 := stay_new (upd_pres hdx') fun _ h => h
      refine hx c ds.reverse ρ1 rfl (.ref (W.cA c)) (some dx) σ _ Z1 Fs1 (n1.trans ⟨⟨fun b o h _ => upd_pres hdx' b o h, fun _ h => h, fun _ h => .inl h, fun b h => ?_, fun _ h => .inr h, zt_upd hdx' n1.r.zok⟩, n1.r.ext (O := fun _ => False) (O' := fun _ => False) ⟨fun b o h _ => upd_pres hdx' b o h, fun _ h => h, fun _ h => .inl h, fun b h => ?_, fun _ h => h.elim, zt_upd hdx' n1.r.zok⟩ (fun _ h => h.elim) fun _ _ h => h⟩) .refl ⟨rfl, .inr ⟨dx, us.reverse, rfl, upd_same, ?_, rs.reverse.stay st⟩⟩
      · by_cases hb : b = dx
        · rw [hb]; exact hdx'
        · rw [upd_ne hb] at h; exact h
      · by_cases hb : b = dx
        · rw [hb]; exact hdx'
        · rw [upd_ne hb] at h; exact h
      · rw [hfN, List.length_reverse, List.length_reverse, hul, hn]
  · cases hz
theorem s_raiseF {c n : Nat} {ib : Bool} {x : Str} {e : Expr} {es : List Expr} {es' : List Ex} {p pos pos2 : Pos} (C : CK T W X Wx cl b N sc k) (h : (isGl sc x && ((e :: es).all noStar && (noPk es' && (decide ((T.fld.getD c []).length = n) && (decide (n ≤ 1000) && decide (1 ≤ n)))))) = true) (hc : T.clN[c]? = some x) (hi : T.ibs[c]? = some ib) (A : OkAs T W X Wx cl (e :: es) es') :
    OkS T W X Wx cl pin (.Raise (some (.Call (.Name x p) (e :: es) [] pos)) none pos2) (.raiseF c n ib es') := .mk fun m => by
  obtain ⟨h1, h⟩ := and_ok h
  obtain ⟨h2, h⟩ := and_ok h
  obtain ⟨h3, h⟩ := and_ok h
  obtain ⟨h4, h⟩ := and_ok h
  obtain ⟨h5, h6⟩ := and_ok h
  have h4' := of_decide_eq_true h4
  have h6' := of_decide_eq_true h6
  have hf : T.fld[c]? = some (T.fld.getD c []) := by
    rw [List.getD_eq_getElem?_getD] at h4' ⊢
    cases q : T.fld[c]? with
    | none => rw [q] at h4'; simp at h4'; omega
    | some l => rfl
  have hI := C.ini c _ ib hf hi (fun z => by rw [z] at h4'; simp at h4'; omega)
  exact snd_raiseF C.g C.tk (C.room.mono C.k2) hI (C.m.fN c) h4' (of_decide_eq_true h5) (C.gl h1).1 (C.gl h1).2.1 (C.m.cl c x hc) h2 h3 (A m)
end
end EV
end SCmb3
section SIni1
set_option Elab.async false
set_option linter.all false
set_option maxRecDepth 100000
set_option maxHeartbeats 2000000
namespace EV
open PySem PySem.Spec PyProof.Rows L2 PySem.W
/-! ### the __init__ of a class of errors: super().__init__(a text), then self.f = the parameter -/
/-- what is known of the def -/
structure IniDef (P : Program) (K : Frag) (mg : Str → Option Value) (f C cc cda : Addr) (qual : Str) (params : Arguments) (body : List Stmt) (scope : Scope) (fd : FuncData) : Prop where
  ex : ∃ (oc : Value) (od : Option Addr) (name : Str) (kV doc pm : Value) (an : Option Addr) (ct : Value) (osl : Array (Option Value)), fd = ksFn name qual params body scope .none kV doc pm an (.ref cda) ct cc ∧ K.lookup f = some ⟨oc, od, .func fd, osl⟩
  hcd : codeIn K (.ref cda) qual = true
  code : ∃ (ccl : Value) (cdd : Option Addr) (vs : Array Value) (ccs : Array (Option Value)) (file : Str) (tf : Tok), K.lookup cda = some ⟨ccl, cdd, .fields vs, ccs⟩ ∧ vs[2]? = some (.str file tf) ∧ ((P.main.file : Str) == file) = true
  cell : ∃ (cl : Value) (cld : Option Addr) (csl : Array (Option Value)), K.lookup cc = some ⟨cl, cld, .cell (some (.ref C)), csl⟩
  cls : OexC K C
  sub : mroIn K C (.ref C) = some true
  sve : mroIn K C (.type "ValueError") = some true
  along : ks_superIn K C C "__init__" = some (some (.builtin "ValueError.__init__"))
  sup : mg "super" = none
  top : (P.main.scope.names.lookup ("super" : Str)).isSome = false
  any : nsIn K cStatics "thirdparty.any" = some none
structure IniSc (scope : Scope) (x : Str) : Prop where
  kind : scope.kind = .function
  co : scope.isCoroutine = false
  gen : scope.isGenerator = false
  nocell : ∀ y ∈ scope.names, y.2 ≠ .cell
  free : ∀ y ∈ scope.names, y.2 = .free → y.1 = "__class__"
  self : scope.names.lookup ("self" : Str) = some .local
  par : scope.names.lookup x = some .local
  cl : scope.names.lookup ("__class__" : Str) = some .free
  sup : scope.names.lookup ("super" : Str) = some .globalImplicit
  ne : ("self" : Str) ≠ x
  d1 : (x == ("__debug__" : Str)) = false
  d2 : (x == ("__classdict__" : Str)) = false
def iniCx (P : Program) (w : World) (K : Frag) (mg : Str → Option Value) (base : Heap) (x : Str) (env : PySem.Env) (A : Around) (outer : List PySem.Env) (s : Shared) (H : Hp) (E : XK) : Cx where
  prog := P
  w := w
  K := K
  mg := mg
  base := base
  A := A.deeper env
  N := ["self", x]
  s_0 := s
  H_0 := H
  env := env
  outer := outer
  stack := env :: outer
  ex := []
  fn := fun _ => false
  calm := true
  pn := []
  xe := fun e s' => wpAny (model P w) (A.deeper env) (leaving env e) (fun _ s'' => L2.CX P w outer H s E e s'') (fun e' s'' => L2.CX P w outer H s E e' s'') s'
section
variable {P : Program} {w : World} {K : Frag} {mg : Str → Option Value} {base : Heap} {f C cc cda : Addr} {qual x : Str} {params : Arguments} {body : List Stmt} {scope : Scope} {fd : FuncData} {A : Around} {outer : List PySem.Env} {s : Shared} {H : Hp} {E : XK}
abbrev iniEnv (qual : Str) (scope : Scope) (L f cda cc : Addr) : PySem.Env := ksEnv qual scope L f (.ref cda) cc
theorem ini_start (D : IniDef P K mg f C cc cda qual params body scope fd) (S : IniSc scope x) (hr : Room 1 A) (e0 : Env0 P w K mg base A outer s H) {u0 u1 : Value} {v0 v1 : V} (r0 : RelV v0 u0) (r1 : RelV v1 u1) {h₀ : Heap} {t : Nat}
    (hns : h₀.Ns s.heap.objs.size (fun y => ([(("self" : Str), u0), (x, u1)] : List (Str × Value)).reverse.lookup y)) (hk : ∀ b o, s.heap.get? b = some o → h₀.get? b = some o) :
    Inv (iniCx P w K mg base x (iniEnv qual scope s.heap.objs.size f cda cc) A outer s H E) [] [some v0, some v1] H { s with heap := h₀, toks := t } := by
  obtain ⟨cl, cld, csl, hcell⟩ := D.cell
  have hbc := e0.mod.kin _ _ hcell
  have one : ∀ {y : Str} {c : Addr}, ([(("__class__" : Str), cc)] : List (Str × Addr)).lookup y = some c → y = "__class__" ∧ c = cc := by
    intro y c h
    rw [List.lookup_cons] at h
    cases q : y == ("__class__" : Str) with
    | true => rw [q] at h; exact ⟨eq_of_beq q, (Option.some.inj h).symm⟩
    | false => rw [q] at h; cases h
  have noA : ∀ b : Addr, b ∉ ([] : List Addr) := fun b z => by cases z
  have ok : (iniCx P w K mg base x (iniEnv qual scope s.heap.objs.size f cda cc) A outer s H E).Ok := by
    refine ⟨e0.mod, S.kind, rfl, rfl, Nat.le_refl _, fun y z c h1 h2 => (one h1).1.trans (one h2).1.symm, fun y hy => ?_, fun y c h => (by cases h), fun _ => hr.hd, Around.frames_deeper e0.frames, .inr ⟨rfl, rfl⟩, fun b z => (by cases z), e0.bs, e0.bsz, fun b _ _ => noA b, fun b z => (by cases z), e0.funs, e0.frf⟩
    have hy' : scope.names.lookup y = some .cell ∨ scope.names.lookup y = some .free := hy
    rcases hy' with q | q
    · exact absurd rfl (S.nocell _ (PySem.mem_of_lookup q))
    · have e := S.free _ (PySem.mem_of_lookup q) rfl
      have e' : y = "__class__" := e
      subst e'
      exact ⟨cc, rfl⟩
  refine ⟨ok, rfl, e0.bare, Un.kept hk, ⟨_, hns, fun i y v h1 h2 _ => ?_⟩, fun y c h => ?_, e0.hok.fresh (Nat.le_refl _), fun y c h => ?_, fun p hp => absurd (show p ∈ ([] : List (Addr × Obj)) from hp) (by simp), e0.hok.kept hk, rfl⟩
  · have h1' : ([("self" : Str), x])[i]? = some y := h1
    match i, h1', h2 with
    | 0, h1', h2 =>
      simp at h1' h2; subst h1' h2
      refine ⟨u0, r0, .inl ⟨S.self, ?_⟩⟩
      show List.lookup ("self" : Str) ([(x, u1), (("self" : Str), u0)] : List (Str × Value)) = _
      rw [List.lookup_cons, show (("self" : Str) == x) = false from by simpa using S.ne]
      rfl
    | 1, h1', h2 =>
      simp at h1' h2; subst h1' h2
      refine ⟨u1, r1, .inl ⟨S.par, ?_⟩⟩
      show List.lookup x ([(x, u1), (("self" : Str), u0)] : List (Str × Value)) = _
      rw [List.lookup_cons, beq_self_eq_true]
    | i + 2, h1', h2 => simp at h1'
  · obtain ⟨rfl, rfl⟩ := one h
    exact ⟨_, ⟨_, hk _ _ (e0.bs _ _ hbc).1, rfl⟩⟩
  · obtain ⟨rfl, rfl⟩ := one h
    exact (e0.bs _ _ hbc).2
end
end EV
end SIni1
section SIni2
set_option Elab.async false
set_option linter.all false
set_option maxRecDepth 100000
set_option maxHeartbeats 4000000
namespace EV
open PySem PySem.Spec PyProof.Rows L2 PySem.W
/-- the body's form -/
def iniBody (x fld : Str) (msg : Expr) (p0 p1 ap cp ep q1 q2 q3 q4 : Pos) : List Stmt :=
  [.Expr (.Call (.Attribute (.Call (.Name "super" p0) [] [] p1) "__init__" ap) [msg] [] cp) ep, .Assign [.Attribute (.Name "self" q1) fld q2] (.Name x q3) q4]
/-- what the text may say of the parameter y -/
def MsgOk (scope : Scope) (x : Str) (ib : Bool) (msg : Expr) : Prop := ∀ X : Cx, X.N = [("self" : Str), x] → X.env.scope = scope → ∀ (σ : L2.St) (H : Hp) (Q : VK) (y : V), σ[1]? = some (some y) → (ib = true → ∃ i : Int, y = .int i ∧ i.natAbs.log2 < 1920) → (∀ z, Q (.str z) H) → BE X msg σ H Q
/-- the form of super().__init__(msg) -/
def CallF (msg : Expr) (p0 p1 ap cp : Pos) : Prop := ∀ env : PySem.Env, ∃ pl : Sem Bool, eval (.Call (.Attribute (.Call (.Name "super" p0) [] [] p1) "__init__" ap) [msg] [] cp) env = (do
  let ov ← attributeBase (.Call (.Name "super" p0) [] [] p1) "__init__" env (eval (.Call (.Name "super" p0) [] [] p1) env)
  standAt ap.atName
  let (f, first) ← holding [ov] (getMethod ov "__init__" pl)
  callWith cp f first (backTo cp (starEach [msg] env)) [])
section
variable {P : Program} {w : World} {K : Frag} {mg : Str → Option Value} {base : Heap} {f C cc cda : Addr} {qual x : Str} {params : Arguments} {body : List Stmt} {scope : Scope} {fd : FuncData}
theorem ini_run {fld : Str} {msg : Expr} {p0 p1 ap cp ep q1 q2 q3 q4 : Pos} {ib : Bool} {ar : Arg} (D : IniDef P K mg f C cc cda qual params (iniBody x fld msg p0 p1 ap cp ep q1 q2 q3 q4) scope fd) (S : IniSc scope x)
    (hpar : (params.posonlyargs ++ params.args).head? = some ar) (har : ar.arg = "self") (hmsg : noStar msg = true) (he : CallF msg p0 p1 ap cp) (hm : MsgOk scope x ib msg) (hno : findIn K (.ref C) fld = some none) :
    FnOk P w K mg base (L2.CX P w) 1 f fd ["self", x] (spIni C [fld] ib) := by
  refine ⟨fun vs H Q E h => ?_, fun A outer s H args us vs Q E hr e0 hb rv h => ?_⟩
  · obtain ⟨a, us, rfl, hl, _⟩ := h
    simpa using hl
  obtain ⟨a, us', rfl, hl, hib, ha, hq⟩ := h
  obtain ⟨y, rfl⟩ : ∃ y, us' = [y] := by
    match us', hl with
    | [y], _ => exact ⟨y, rfl⟩
  obtain ⟨u0, u1, rfl, r0, r1⟩ : ∃ u0 u1, us = [u0, u1] ∧ RelV (.ref a) u0 ∧ RelV y u1 := by
    cases rv with
    | cons ra rs => cases rs with
      | cons rb rt => cases rt; exact ⟨_, _, rfl, ra, rb⟩
  obtain rfl : u0 = Value.ref a := r0
  obtain ⟨oc, od, name, kV, doc, pm, an, ct, osl, rfl, lk⟩ := D.ex
  have stays : ∀ b o, base.get? b = some o → s.heap.get? b = some o := fun b o e => (e0.bs b o e).1
  have KX : K.In s.heap := e0.mod.kin.keeps stays
  have lim : s.heap.NoLimit := e0.mod.nolimit.keeps stays
  have loc : ∀ z ∈ (["self", x] : List Str).zip [Value.ref a, u1], scope.names.lookup z.1 = some .local := by
    intro z hz
    have hz' : z = (("self" : Str), Value.ref a) ∨ z = (x, u1) := by simpa using hz
    rcases hz' with rfl | rfl
    · exact S.self
    · exact S.par
  refine ks_codeAny_call_defAt (fd := ksFn name qual params (iniBody x fld msg p0 p1 ap cp ep q1 q2 q3 q4) scope .none kV doc pm an (.ref cda) ct cc) hr.depth (KX _ _ lk) rfl lim (codeRec_of KX D.hcd) rfl hb S.nocell loc (fun h₀ hns hk => ?_) S.co S.gen S.kind
  have I0 := ini_start (w := w) (E := E) (t := s.toks + ((["self", x] : List Str).zip [Value.ref a, u1]).length) D S hr e0 (v0 := .ref a) (u0 := .ref a) rfl r1 hns hk
  obtain ⟨oc1, cdd, vs1, ccs, file, tf, hcode, hvs, hfile⟩ := D.code
  obtain ⟨cl, cld, csl, hcell⟩ := D.cell
  obtain ⟨nm, cq, cN, cbs, cbm, csn, csub, cab, ccol, cdc, k0, k1, k2, k3, k5, hC, hbm⟩ := D.cls.cls
  have hcl : ∃ cd, clsIn K C = some cd := by
    unfold clsIn
    rw [hC]
    exact ⟨_, rfl⟩
  obtain ⟨cd, hcd⟩ := hcl
  have hal : alongIn K "__init__" ((cd.mro.dropWhile (· != .ref C)).drop 1) = some (some (.builtin "ValueError.__init__")) := by
    have e := D.along
    unfold ks_superIn at e
    rw [hcd] at e
    exact e
  have cob : ∀ {h : Heap}, K.In h → ∃ oD, h.get? C = some oD ∧ oD.data = .cls cd := by
    intro h Y
    refine ⟨_, Y _ _ hC, ?_⟩
    unfold clsIn at hcd
    rw [hC] at hcd
    exact congrArg Data.cls (Option.some.inj hcd)
  have K0 : K.In h₀ := I0.kIn
  obtain ⟨mb, hb1, hb2⟩ := I0.mod.blt
  obtain ⟨t1, ho⟩ := exo_at I0.hok ha
  obtain ⟨oD, hD1, hD2⟩ := cob K0
  refine ks_wpAt_execs_cons (ks_wpAt_Expr_any (ks_wpAt_MethodCall ?_ (he _).choose_spec) (by simp [interactive, Env.blockKind, callEnv, newEnv, S.kind, ScopeKind.isAnnotationScope]) rfl)
  refine ks_wpAt_super_base (env := iniEnv qual scope s.heap.objs.size f cda cc) S.sup S.cl (by decide) rfl (K0 _ _ lk) rfl hpar rfl (K0 _ _ hcode) rfl hvs hfile D.top ?_
  refine ks_loadName_global S.kind S.sup (PySem.Calls.loadGlobal_builtin (env := iniEnv qual scope s.heap.objs.size f cda cc) (I0.mod.glob.keeps I0.bk) D.sup (hb1.keeps I0.bk) ((hb2 _ (by decide +kernel)).trans PyProof.Rows.Boot.«super») ⟨rfl, ?_⟩)
  refine wpAny_loadName_free S.kind S.cl rfl ⟨_, K0 _ _ hcell, rfl⟩ ?_
  rw [har]
  refine wpAny_loadName_local (v := Value.ref a) S.kind S.self hns ?_ ?_
  · show List.lookup ("self" : Str) ([(x, u1), (("self" : Str), Value.ref a)] : List (Str × Value)) = _
    rw [List.lookup_cons, show (("self" : Str) == x) = false from by simpa using S.ne]
    rfl
  refine ks_wpAny_isType_cls hD1 hD2 ⟨rfl, ?_⟩
  refine ks_wpAny_call_super hD1 hD2 ho rfl (fun c e => by cases e) (looks_mroIn K0 D.sub) (fun h2 e2 kk2 => ?_)
  have I2 := I0.kept (t' := s.toks + ((["self", x] : List Str).zip [Value.ref a, u1]).length) kk2
  have K2 : K.In h2 := I2.kIn
  have J2 : InstAt h2 a _ C none := ⟨kk2 _ _ ho, rfl, rfl, trivial⟩
  refine EVX.getMethod_superV e2 (looks_opaque K2 D.any) (l₀ := cd.mro) ((looks_clsIn K2 hcd).andThen .now) rfl K2 hal (ks_ne K2 J2 hcd) (by decide) (J2.type.andThen (looks_mroIn K2 D.sve)) ?_
  have I3 := (I2.kept (h' := h2.push (EVX.bv a)) (t' := s.toks + ((["self", x] : List Str).zip [Value.ref a, u1]).length + 1) fun b o e => Heap.get?_push_of_some _ e).pins_of (pins' := [(h2.objs.size, EVX.bv a)]) (fun p hp => by
    obtain rfl := List.mem_singleton.mp hp
    exact ⟨Heap.get?_push_at rfl rfl, I2.hok.fresh (Nat.le_refl _), Nat.ne_of_gt I2.lt, I2.nofs (Nat.le_refl _), fun v e => by cases e⟩)
  have hBE : BEs (iniCx P w K mg base x (iniEnv qual scope s.heap.objs.size f cda cc) A outer s H E) [msg] [some (.ref a), some y] H (fun us H1 => ∃ z, us = [.str z] ∧ H1 = H) :=
    hm _ rfl rfl _ H _ y rfl (fun z => by
      obtain ⟨i, hi⟩ := hib z y List.mem_cons_self
      exact ⟨i, hi⟩) fun z => ⟨z, rfl, rfl⟩
  refine EVX.callWith_boundV (x := a) (thn ((BEs.pa [msg] (by simp [hmsg])).run cp _ _ _ H _ I3 hBE) ?_) (star_of hmsg) rfl
  rintro us3 ⟨hp, g3, d3, t3, os3⟩ ⟨vs3, H3, I4, r4, z, rfl, rfl⟩
  obtain ⟨u3, rfl, tk3, rfl⟩ : ∃ u3, us3 = [u3] ∧ ∃ tk, u3 = Value.str z tk := by
    cases r4 with
    | cons ra rs => cases rs; exact ⟨_, rfl, ra⟩
  have hp1 := (I4.pin (h2.objs.size, EVX.bv a) (by simp)).1
  refine ⟨hp1, ?_⟩
  obtain ⟨t4, ho4⟩ := exo_at I4.hok ha
  refine EVX.call_bv (I4.kIn _ _ hC) ho4 hp1 (by show 1 ≤ sizeLine; rw [sizeLine_eq]; decide) (fun h5 t5 k5' hx5 => ?_)
  have I5 := ((I4.pins_of (pins' := []) fun p hp => by cases hp).write (t' := t3) (x := a) (e := a) (o := exo a C none) (by rw [ha]; exact True.intro) (.inl rfl) k5' ⟨_, hx5⟩ (exo_ok hx5))
  have eu : upd H3 a (exo a C none) = H3 := by
    funext b
    by_cases hb : b = a
    · rw [hb, upd_same, ha]
    · rw [upd_ne hb]
  rw [eu] at I5
  refine wpAt_of_wpAny ?_
  have V0 : VarOk (iniCx P w K mg base x (iniEnv qual scope s.heap.objs.size f cda cc) A outer s H3 E) 0 "self" := ⟨rfl, .inl S.self, by decide, by decide⟩
  have V1 : VarOk (iniCx P w K mg base x (iniEnv qual scope s.heap.objs.size f cda cc) A outer s H3 E) 1 x := ⟨rfl, .inl S.par, S.d1, S.d2⟩
  have P2 := pss_one (ps_ost (X := iniCx P w K mg base x (iniEnv qual scope s.heap.objs.size f cda cc) A outer s H3 E) (f := fld) (p' := q2) (pos := q4) (pe_var (pos := q1) V0.at_ V0.vis V0.nd V0.nc) (pe_var (pos := q3) V1.at_ V1.vis V1.nd V1.nc) rfl)
  refine wpAny_mono (P2.run [] _ [some (.ref a), some y] H3 { nx := fun _ H' => Q .non H', rt := fun _ _ => False, bk := fun _ _ => False, ct := fun _ _ => False } I5 ?_) (fun fl s' hs => ?_) fun _ _ z => z
  · exact ⟨_, rfl, _, rfl, a, C, rfl, D.cls, hno, .inl ⟨ha, fun dx h1 h2 => hq dx h1 h2⟩⟩
  · match fl, hs with
    | .next, ⟨σ', H', J, q⟩ => exact ⟨.non, H', J.os, J.bare, J.base, J.hok, rfl, q⟩
    | .ret u, ⟨v, σ', H', J, rv, q⟩ => exact q.elim
    | .brk, ⟨_, _, _, q⟩ => exact q.elim
    | .cont, ⟨_, _, _, q⟩ => exact q.elim
end
end EV
end SIni2
section SIni3
set_option Elab.async false
set_option linter.all false
set_option maxRecDepth 100000
set_option maxHeartbeats 4000000
namespace EV
open PySem PySem.Spec PyProof.Rows L2 PySem.W
/-! the texts of errors -/
theorem msg_const {scope : Scope} {x m : Str} {ib : Bool} {j : Nat} {p : Pos} : MsgOk scope x ib (.Constant (.str m) j p) := fun X _ _ σ H Q y _ _ q => BE.of pe_str (q m)
theorem int_len {i : Int} (h : i.natAbs.log2 < 1920) : (toString i : Str).length ≤ 1921 := by
  have e := int_text_length_le (k := 1920) (by decide) h
  rw [PySem.ofString_length]; omega
theorem msg_int {scope : Scope} {x m : Str} {j : Nat} {p p2 p3 p4 : Pos} (S : IniSc scope x) (hm : m.length ≤ 1000) : MsgOk scope x true (.JoinedStr [.Constant (.str m) j p, .FormattedValue (.Name x p2) (-1) none p3] p4) := fun X hN hS σ H Q y hy hi q => by
  obtain ⟨i, rfl, hi2⟩ := hi rfl
  have hv : Vis X.env.scope x := by rw [hS]; exact .inl S.par
  refine BE.of (pe_joined (.cons pe_str (.cons (pe_fmt (pe_var (i := 1) (by rw [hN]; rfl) hv S.d1 S.d2)) .nil))) ?_
  have l1 := int_len hi2
  have l0 : (Str.empty ++ m).length = m.length := by
    rw [Str.length_append]; show 0 + _ = _; omega
  refine ⟨m, rfl, by rw [l0, sizeLine_eq]; omega, ?_⟩
  refine ⟨_, hy, .inr ⟨i, rfl, hi2, _, rfl, ?_, q _⟩⟩
  rw [Str.length_append, l0, sizeLine_eq]; omega
/-! ### the head's facts -/
def oexB (K : Frag) (C : Addr) : Bool := match K.lookup C with
  | some ⟨.type t, _, .cls cd, sl⟩ => (t == "type" && (cd.hasDict && !cd.hasDel)) && ((match cd.mro with
    | .ref D :: bm => D == C && PySem.HandSPX.refsVE bm
    | _ => false) && match sl.toList with
      | [_, _, _, _, some (.builtin n), _] => n == "ValueError.__new__"
      | _ => false)
  | _ => false
theorem oexB_ok {K : Frag} {C : Addr} (h : oexB K C = true) (sa : PySem.W.findIn K (.ref C) "__setattr__" = some (some (.builtin "object.__setattr__"))) (exC : PySem.W.subIn K (.ref C) (.type "BaseException") = some true) (tyC : PySem.W.typeIn K (.ref C) = some (.type "type")) (kC : PySem.W.keepIn K (.ref C) = true) : OexC K C := by
  refine ⟨?_, sa, exC, tyC, kC⟩
  unfold oexB at h
  cases q : K.lookup C with
  | none => rw [q] at h; cases h
  | some o =>
    rw [q] at h
    obtain ⟨oc, od, dt, sl⟩ := o
    cases oc with
    | type t =>
      cases dt with
      | cls cd =>
        obtain ⟨nm, bs, mro, ns, qn, hd, sn, sb, ab, col, del⟩ := cd
        dsimp only at h
        have h' := Bool.and_eq_true_iff.mp h
        have h1 := Bool.and_eq_true_iff.mp h'.1
        have h2 := Bool.and_eq_true_iff.mp h1.2
        have h3 := Bool.and_eq_true_iff.mp h'.2
        have e1 : t = "type" := eq_of_beq h1.1
        subst e1
        have e2 : hd = true := h2.1
        subst e2
        have e3 : del = false := by simpa using h2.2
        subst e3
        obtain ⟨bm, rfl, hbm⟩ : ∃ bm, mro = .ref C :: bm ∧ PySem.HandSPX.refsVE bm = true := by
          have z := h3.1
          split at z
          · rename_i D bm
            have z' := Bool.and_eq_true_iff.mp z
            have : D = C := eq_of_beq z'.1
            subst this
            exact ⟨bm, rfl, z'.2⟩
          · cases z
        obtain ⟨l, rfl⟩ : ∃ l : List (Option Value), sl = l.toArray := ⟨sl.toList, by simp⟩
        obtain ⟨k0, k1, k2, k3, k5, rfl⟩ : ∃ k0 k1 k2 k3 k5, l = [k0, k1, k2, k3, some (.builtin "ValueError.__new__"), k5] := by
          have z := h3.2
          split at z
          · rename_i k0 k1 k2 k3 n k5 e
            have : n = "ValueError.__new__" := eq_of_beq z
            subst this
            exact ⟨k0, k1, k2, k3, k5, by simpa using e⟩
          · cases z
        exact ⟨nm, qn, ns, bs, bm, sn, sb, ab, col, od, k0, k1, k2, k3, k5, rfl, hbm⟩
      | _ => cases h
    | _ => cases dt <;> cases h
/-- a class of errors with a field: where its __init__ stands, what it is -/
structure IniD where
  c : Str
  fld : Str
  x : Str
  ib : Bool
  qual : Str
  params : Arguments
  body : List Stmt
  scope : Scope
abbrev FnI : Type := Option (Str × Arguments × FuncBody × Scope × Addr × List Str × Value × Addr)
def IniD.val (d : IniD) : FnI := some (d.qual, d.params, .stmts d.body, d.scope, mainGlobals, ["__class__"], .none, builtinsNs)
def IniD.ad (K : Frag) (d : IniD) : Addr := He.ma K (He.ga K d.c) "__init__"
def IniD.obs (K : Frag) (d : IniD) : FnI := match K.lookup (d.ad K) with
  | some ⟨_, _, .func fd, _⟩ => some (fd.qualname, fd.params, fd.body, fd.scope, fd.globals, fd.closure.map (·.1), fd.defaults, fd.builtins)
  | _ => none
def IniD.ok (file : Str) (K : Frag) (d : IniD) : Bool :=
  (oexB K (He.ga K d.c) && (decide (findIn K (.ref (He.ga K d.c)) "__setattr__" = some (some (.builtin "object.__setattr__"))) && (decide (mroIn K (He.ga K d.c) (.ref (He.ga K d.c)) = some true) && decide (mroIn K (He.ga K d.c) (.type "ValueError") = some true)))) &&
  ((decide (ks_superIn K (He.ga K d.c) (He.ga K d.c) "__init__" = some (some (.builtin "ValueError.__init__"))) && (decide (findIn K (.ref (He.ga K d.c)) "__init__" = some (some (.ref (d.ad K)))) && decide (typeIn K (.ref (d.ad K)) = some (.type "function")))) &&
  (decide (nsIn K cStatics "thirdparty.any" = some none) && match K.lookup (d.ad K) with
    | some ⟨_, _, .func fd, _⟩ => (match fd.closure with
      | [(_, cc)] => (match K.lookup cc with
        | some ⟨_, _, .cell (some (.ref D)), _⟩ => D == He.ga K d.c
        | _ => false)
      | _ => false) && (match fd.code with
        | .ref cda => codeIn K (.ref cda) d.qual && (match K.lookup cda with
          | some ⟨_, _, .fields vs, _⟩ => (match (vs[2]? : Option Value) with
            | some (.str z _) => file == z
            | _ => false)
          | _ => false)
        | _ => false)
    | _ => false))
end EV
namespace EV
open PySem PySem.Spec PyProof.Rows L2 PySem.W
theorem IniD.is {P : Program} {K : Frag} {mg : Str → Option Value} {d : IniD} (e : d.obs K = d.val) (c : d.ok (P.main.file : Str) K = true) (sup : mg "super" = none) (top : (P.main.scope.names.lookup ("super" : Str)).isSome = false) (exC : PySem.W.subIn K (.ref (He.ga K d.c)) (.type "BaseException") = some true) (tyC : PySem.W.typeIn K (.ref (He.ga K d.c)) = some (.type "type")) (kC : PySem.W.keepIn K (.ref (He.ga K d.c)) = true) :
    (∃ fd cc cda, IniDef P K mg (d.ad K) (He.ga K d.c) cc cda d.qual d.params d.body d.scope fd) ∧ findIn K (.ref (He.ga K d.c)) "__init__" = some (some (.ref (d.ad K))) ∧ typeIn K (.ref (d.ad K)) = some (.type "function") := by
  unfold IniD.ok at c
  obtain ⟨ca, cb⟩ := Bool.and_eq_true_iff.mp c
  obtain ⟨a1, ca⟩ := Bool.and_eq_true_iff.mp ca
  obtain ⟨a2, ca⟩ := Bool.and_eq_true_iff.mp ca
  obtain ⟨a3, a4⟩ := Bool.and_eq_true_iff.mp ca
  obtain ⟨cb, cc⟩ := Bool.and_eq_true_iff.mp cb
  obtain ⟨b1, cb⟩ := Bool.and_eq_true_iff.mp cb
  obtain ⟨b2, b3⟩ := Bool.and_eq_true_iff.mp cb
  obtain ⟨d1, d2⟩ := Bool.and_eq_true_iff.mp cc
  refine ⟨?_, of_decide_eq_true b2, of_decide_eq_true b3⟩
  have T := oexB_ok a1 (of_decide_eq_true a2) exC tyC kC
  unfold IniD.obs at e
  cases q : K.lookup (d.ad K) with
  | none => rw [q] at d2; cases d2
  | some o =>
    rw [q] at d2 e
    obtain ⟨oc, od, dt, osl⟩ := o
    cases dt with
    | func fd =>
      obtain ⟨n1, n2, n3, n4, n5, n6, n7, n8, n9, n10, n11, n12, n13, n14, n15⟩ := fd
      have e2 : (some (n2, n3, n4, n5, n6, n7.map (·.1), n8, n15) : FnI) = (some (d.qual, d.params, FuncBody.stmts d.body, d.scope, mainGlobals, [("__class__" : Str)], Value.none, builtinsNs) : FnI) := e
      simp only [Option.some.injEq, Prod.mk.injEq] at e2
      obtain ⟨h1, h2, h3, h4, h5, h6, h8, h7⟩ := e2
      obtain ⟨f1, f2⟩ := Bool.and_eq_true_iff.mp d2
      dsimp only at f1 f2
      split at f1
      · rename_i xx cc
        split at f1
        · rename_i cl cld D csl hcell
          have eD : D = He.ga K d.c := eq_of_beq f1
          split at f2
          · rename_i cda
            obtain ⟨g1, g2⟩ := Bool.and_eq_true_iff.mp f2
            split at g2
            · rename_i cl2 cld2 vs csl2 hcode
              split at g2
              · rename_i z tk hz
                have ex : xx = ("__class__" : Str) := by simpa using h6
                subst h1 h2 h3 h4 h5 h7 h8 ex eD
                exact ⟨_, cc, cda, ⟨⟨oc, od, _, _, _, _, _, _, _, rfl, q⟩, g1, ⟨_, _, _, _, _, _, hcode, hz, g2⟩, ⟨_, _, _, hcell⟩, T, of_decide_eq_true a3, of_decide_eq_true a4, of_decide_eq_true b1, sup, top, of_decide_eq_true d1⟩⟩
              · cases g2
            · cases g2
          · cases f2
        · cases f1
      · cases f1
    | _ => cases d2
/-- the def's form, as its class wants it -/
structure IniF (d : IniD) : Prop where
  sc : IniSc d.scope d.x
  bd : ∃ msg p0 p1 ap cp ep q1 q2 q3 q4, d.body = iniBody d.x d.fld msg p0 p1 ap cp ep q1 q2 q3 q4 ∧ noStar msg = true ∧ CallF msg p0 p1 ap cp ∧ MsgOk d.scope d.x d.ib msg
  pa : ∃ ar : Arg, (d.params.posonlyargs ++ d.params.args).head? = some ar ∧ ar.arg = "self"
  bind : ∀ (name : Str) (kV doc pm : Value) (an : Option Addr) (cda cc : Addr) (ct : Value) (us : List Value), us.length = 2 → bindArgs (ksFn name d.qual d.params d.body d.scope .none kV doc pm an (.ref cda) ct cc) ⟨us, []⟩ = pure (([("self" : Str), d.x]).zip us)
theorem IniF.iniOk {P : Program} {w : World} {K : Frag} {mg : Str → Option Value} {base : Heap} {d : IniD} (F : IniF d) (h : (∃ fd cc cda, IniDef P K mg (d.ad K) (He.ga K d.c) cc cda d.qual d.params d.body d.scope fd) ∧ findIn K (.ref (He.ga K d.c)) "__init__" = some (some (.ref (d.ad K))) ∧ typeIn K (.ref (d.ad K)) = some (.type "function"))
    (hno : findIn K (.ref (He.ga K d.c)) d.fld = some none) : IniOk P w K mg base (He.ga K d.c) [d.fld] d.ib := by
  obtain ⟨⟨fd, cc, cda, D⟩, h1, h2⟩ := h
  obtain ⟨msg, p0, p1, ap, cp, ep, q1, q2, q3, q4, hb, hmsg, he, hm⟩ := F.bd
  obtain ⟨ar, ha1, ha2⟩ := F.pa
  obtain ⟨oc, od, name, kV, doc, pm, an, ct, osl, hfd, lk⟩ := D.ex
  refine ⟨D.cls, _, fd, ["self", d.x], h1, h2, ?_, .all fun us hl => ?_⟩
  · rw [hb] at D
    exact ini_run D F.sc ha1 ha2 hmsg he hm hno
  · rw [hfd]
    exact F.bind name kV doc pm an cda cc ct us hl
end EV
end SIni3
section SHeadX
set_option Elab.async false
set_option linter.all false
set_option maxRecDepth 100000
set_option maxHeartbeats 2000000
namespace EV
open PySem PySem.Spec PyProof.Rows L2
/-! ### what the head shows of the module: one Bool -/
def conB (K : PySem.W.Frag) (p : Str × D) : Bool := match p.2 with
  | .int i => (He.Fa.int p.1 i).ok K
  | .str z => (He.Fa.str p.1 z).ok K
  | _ => false
def exB (K : PySem.W.Frag) (b : Bool) (x : Str) : Bool := (!b || PySem.W.excIn K (He.ga K x) He.veBase "ValueError.__new__") && (PySem.W.keepIn K (.ref (He.ga K x)) && (decide (PySem.W.subIn K (.ref (He.ga K x)) (.type "BaseException") = some true) && decide (PySem.W.typeIn K (.ref (He.ga K x)) = some (.type "type"))))
def clB (T : LawT) (K : PySem.W.Frag) (c : Nat) (x : Str) : Bool := (He.Fa.glo x).ok K && (xcB K (He.ga K x) && (exB K (decide (T.fld.getD c [] = [])) x && (decide (PySem.W.kitOne K (.type "NoneType") (.ref (He.ga K x)) = some false) && T.fld.flatten.all fun y => decide (PySem.W.findIn K (.ref (He.ga K x)) y = some none))))
def cl2B (T : LawT) (K : PySem.W.Frag) (c c' : Nat) : Bool := let x := T.clN.getD c (T.clN.getD 0 Str.empty); let y := T.clN.getD c' (T.clN.getD 0 Str.empty)
  decide (PySem.W.kitOne K (.ref (He.ga K y)) (.ref (He.ga K x)) = some (T.cls c' c)) && decide (PySem.W.exmOne K (.ref (He.ga K y)) (.ref (He.ga K x)) = some (T.cls c' c))
def facB (T : LawT) (K : PySem.W.Frag) : Bool :=
  (K.lookup sysModules).isSome && ((T.fnN.all fun x => (He.Fa.glo x).ok K && (He.Fa.keep x).ok K) && (((List.range T.clN.length).all fun c => clB T K c (T.clN.getD c Str.empty)) && (((List.range T.clN.length).all fun c => (List.range T.clN.length).all (cl2B T K c)) && ((T.blt.all fun x => (He.Fa.free x).ok K) && ((T.con.all (conB K)) && (He.Fa.free "super").ok K)))))
def lawW (T : LawT) (K : PySem.W.Frag) : Wd where
  K := K
  cA := fun c => He.ga K (T.clN.getD c (T.clN.getD 0 Str.empty))
  fA := fun f => He.ga K (T.fnN.getD f Str.empty)
  fN := fun c => (T.fld.getD c []).reverse
theorem getD_of {α : Type} {l : List α} {i : Nat} {x d : α} (h : l[i]? = some x) : l.getD i d = x := by rw [List.getD_eq_getElem?_getD, h]; rfl
theorem getD_out {α : Type} {l : List α} {i : Nat} {d : α} (h : l.length ≤ i) : l.getD i d = d := by rw [List.getD_eq_getElem?_getD, List.getElem?_eq_none h]; rfl
theorem con_mem {x : Str} {d : D} : ∀ {l : List (Str × D)}, l.lookup x = some d → (x, d) ∈ l
  | [], h => by cases h
  | (y, e) :: l, h => by
    rw [List.lookup_cons] at h
    cases q : x == y with
    | true =>
      rw [q] at h
      have e1 : x = y := eq_of_beq q
      have e2 : e = d := Option.some.inj h
      subst e1 e2
      exact List.mem_cons_self
    | false => rw [q] at h; exact List.mem_cons_of_mem _ (con_mem h)
structure ClsOk (T : LawT) : Prop where
  pos : 0 < T.clN.length
  out : ∀ c', T.clN.length ≤ c' → ∀ c, T.cls c' c = T.cls 0 c
theorem facB_ok {T : LawT} {K : PySem.W.Frag} {h : Heap} {mg : Str → Option Value} (c : facB T K = true) (cT : ClsOk T) (Y : K.In h) (G : h.Ns mainGlobals mg) : MgOk T (lawW T K) mg ∧ (∃ o, K.lookup sysModules = some o) ∧ mg "super" = none := by
  obtain ⟨c0, c⟩ := and_ok c
  obtain ⟨c1, c⟩ := and_ok c
  obtain ⟨c2, c⟩ := and_ok c
  obtain ⟨c3, c⟩ := and_ok c
  obtain ⟨c4, c⟩ := and_ok c
  obtain ⟨c5, c6⟩ := and_ok c
  have atc : ∀ (c : Nat) (x : Str), T.clN[c]? = some x → clB T K c x = true := fun c x h => by
    have q := List.all_eq_true.mp c2 c (List.mem_range.mpr (List.getElem?_eq_some_iff.mp h).1)
    rw [getD_of h] at q
    exact q
  have z0 : ∃ x, T.clN[0]? = some x := ⟨T.clN[0]'cT.pos, List.getElem?_eq_getElem cT.pos⟩
  -- every number is a class
  have num : ∀ c', ∃ i x, i < T.clN.length ∧ T.clN[i]? = some x ∧ T.clN.getD c' (T.clN.getD 0 Str.empty) = x ∧ T.clN.getD i (T.clN.getD 0 Str.empty) = x ∧ ∀ c, T.cls c' c = T.cls i c := by
    intro c'
    by_cases h : c' < T.clN.length
    · exact ⟨c', T.clN[c'], h, List.getElem?_eq_getElem h, getD_of (List.getElem?_eq_getElem h), getD_of (List.getElem?_eq_getElem h), fun _ => rfl⟩
    · obtain ⟨x, hx⟩ := z0
      refine ⟨0, x, cT.pos, hx, ?_, getD_of hx, cT.out c' (Nat.le_of_not_lt h)⟩
      rw [getD_out (Nat.le_of_not_lt h)]; exact getD_of hx
  have pair : ∀ c c', c < T.clN.length → cl2B T K c c' = true := by
    intro c c' hc
    obtain ⟨i, x, hi, hx, e1, e2, e3⟩ := num c'
    have q := List.all_eq_true.mp (List.all_eq_true.mp c3 c (List.mem_range.mpr hc)) i (List.mem_range.mpr hi)
    unfold cl2B at q ⊢
    simp only [e1, e3 c]
    simp only [e2] at q
    exact q
  refine ⟨⟨fun f x hx => ?_, fun c x hx => ?_, fun x hx => ?_, fun x d hd => ?_, fun c' => ?_, fun c c' hc => ?_, fun c hc => ?_, fun c c' hc => ?_, fun c hc => ?_, fun _ => rfl, fun y hy c' => ?_⟩, Option.isSome_iff_exists.mp c0, He.free_ok Y G c6⟩
  · have q := List.all_eq_true.mp c1 x (List.mem_of_getElem? hx)
    obtain ⟨q1, q2⟩ := and_ok q
    have e : (lawW T K).fA f = He.ga K x := by show He.ga K (T.fnN.getD f Str.empty) = _; rw [getD_of hx]
    rw [e]
    exact ⟨He.glo_ok Y G q1, He.keep_ok q2⟩
  · have e : (lawW T K).cA c = He.ga K x := by show He.ga K (T.clN.getD c _) = _; rw [getD_of hx]
    rw [e]
    exact He.glo_ok Y G (and_ok (atc c x hx)).1
  · exact He.free_ok Y G (List.all_eq_true.mp c4 x (by simpa using hx))
  · have q := List.all_eq_true.mp c5 (x, d) (con_mem hd)
    cases d with
    | int i =>
      obtain ⟨t, e⟩ := He.int_ok Y G q
      exact ⟨_, e, rfl⟩
    | str z =>
      obtain ⟨t, e⟩ := He.str_ok Y G q
      exact ⟨_, e, rfl⟩
    | _ => cases q
  · obtain ⟨i, x, hi, hx, e1, e2, e3⟩ := num c'
    have e : (lawW T K).cA c' = He.ga K x := by show He.ga K (T.clN.getD c' _) = _; rw [e1]
    rw [e]
    exact xcB_ok (and_ok (and_ok (atc i x hx)).2).1
  · exact of_decide_eq_true (and_ok (pair c c' hc)).1
  · have hx : T.clN[c]? = some T.clN[c] := List.getElem?_eq_getElem hc
    have e : (lawW T K).cA c = He.ga K T.clN[c] := by show He.ga K (T.clN.getD c _) = _; rw [getD_of hx]
    rw [e]
    exact of_decide_eq_true (and_ok (and_ok (and_ok (and_ok (atc c _ hx)).2).2).2).1
  · exact of_decide_eq_true (and_ok (pair c c' hc)).2
  · have hx : T.clN[c]? = some T.clN[c] := List.getElem?_eq_getElem hc
    have e : (lawW T K).cA c = He.ga K T.clN[c] := by show He.ga K (T.clN.getD c _) = _; rw [getD_of hx]
    rw [e]
    obtain ⟨q1, q⟩ := and_ok (and_ok (and_ok (and_ok (atc c _ hx)).2).2).1
    obtain ⟨q2, q⟩ := and_ok q
    obtain ⟨q3, q4⟩ := and_ok q
    refine ⟨fun hz => ?_, q2, of_decide_eq_true q3, of_decide_eq_true q4⟩
    rw [decide_eq_true hz] at q1
    exact (Bool.or_eq_true_iff.mp q1).resolve_left (by decide)
  · obtain ⟨i, x, hi, hx, e1, e2, e3⟩ := num c'
    have e : (lawW T K).cA c' = He.ga K x := by show He.ga K (T.clN.getD c' _) = _; rw [e1]
    rw [e]
    have q := (and_ok (and_ok (and_ok (and_ok (atc i x hx)).2).2).2).2
    exact of_decide_eq_true (List.all_eq_true.mp q y (by simpa using hy))
/-! ### the head's Hook -/
structure LawX where
  T : LawT
  fns : List He.DefD
  inis : List IniD
  file : Str
abbrev AlX : Type := (Bool × List He.FnW) × Bool × List FnI
def LawX.see (L : LawX) (K : PySem.W.Frag) : AlX := (He.obsD [] L.fns K, facB L.T K && L.inis.all fun d => d.ok L.file K, L.inis.map fun d => d.obs K)
def LawX.due (L : LawX) : AlX := (He.valD L.fns, true, L.inis.map IniD.val)
def asX (g : Addr → Option Obj) (n : Nat) : List Addr := sysModules :: cStatics :: He.asD g n
def LawX.hook (n : Nat) (L : LawX) : PySem.W.Hook where
  α := AlX
  obs s := L.see (He.frG s.heap.get? (asX s.heap.get? n))
  val _ := L.due
  says _ h := ∃ K : PySem.W.Frag, K.In h ∧ L.see K = L.due
  of _ _ e := ⟨_, He.frG_in, e⟩
  keeps _ _ _ z k := let ⟨K, hK, c⟩ := z; ⟨K, hK.keeps k, c⟩
def LawX.ob (n : Nat) (L : LawX) (s : PySem.W.SharedT) : AlX := L.see (He.frG (HandSHeadRun.getT s) (asX (HandSHeadRun.getT s) n))
theorem LawX.ob_eq (n : Nat) (L : LawX) (s : PySem.W.SharedT) : L.ob n s = (L.hook n).obs s.abs := by
  have e : HandSHeadRun.getT s = s.abs.heap.get? := funext fun a => HandSHeadRun.getT_eq s a
  show L.see (He.frG (HandSHeadRun.getT s) (asX (HandSHeadRun.getT s) n)) = L.see (He.frG s.abs.heap.get? (asX s.abs.heap.get? n))
  rw [e]
end EV
end SHeadX
section SHeadY
set_option Elab.async false
set_option linter.all false
set_option maxRecDepth 100000
set_option maxHeartbeats 2000000
namespace EV
open PySem PySem.Spec PyProof.Rows L2
/-! ### every def answers as the evaluator says, level by level -/
/-- one def: its form, its body -/
structure FnP (T : LawT) (d : He.DefD) (fn : Fn) (N ps : List Str) (st : Stmt) : Prop where
  pa : d.params = defArgs st
  bo : d.body = defBody st
  sc : d.scope = defScope st
  df : d.dfl = [] ∧ d.kwd = []
  at_ : d.at_ = (d.name, none)
  S : FnScope N ps (defScope st)
  bind : ∀ (kV doc pm : Value) (an : Option Addr) (cdv ct : Value) (us : List Value), us.length = ps.length → bindArgs (PySem.W.fnOf d.name d.qual (defArgs st) (defBody st) (defScope st) .none kV doc pm an cdv ct) ⟨us, []⟩ = pure (ps.zip us)
  np : ps.length = fn.np
  ns : N.length = fn.ns
  io : ∀ j ∈ fn.io, j < fn.np
  io1 : fn.io.length ≤ 1
  body : ∀ {W : Wd} {X : Cx} {Wx : WX} {cl : Nat → List Val → CRes} {k : Nat}, CK T W X Wx cl true N (defScope st) k → CD X → OkSs T W X Wx cl fn.io (defBody st) fn.body
structure LawOk (L : LawX) : Prop where
  cls : ClsOk L.T
  len : L.T.tbl.length ≤ L.fns.length
  nm : ∀ (f : Nat) (d : He.DefD), L.fns[f]? = some d → L.T.fnN[f]? = some d.name
  fns : ∀ (f : Nat) (d : He.DefD) (fn : Fn), L.fns[f]? = some d → L.T.tbl[f]? = some fn → ∃ N ps st, FnP L.T d fn N ps st
  ini : ∀ d ∈ L.inis, IniF d
  fld : ∀ (c : Nat) (ns : List Str) (ib : Bool), L.T.fld[c]? = some ns → L.T.ibs[c]? = some ib → ns ≠ [] → ∃ d ∈ L.inis, L.T.clN[c]? = some d.c ∧ ns = [d.fld] ∧ ib = d.ib
section
variable {P : Program} {w : World} {K : PySem.W.Frag} {mg : Str → Option Value} {base : Heap} {L : LawX}
theorem see_parts (c : L.see K = L.due) : He.SaysD [] L.fns K ∧ facB L.T K = true ∧ (∀ d ∈ L.inis, d.ok L.file K = true) ∧ ∀ d ∈ L.inis, d.obs K = d.val := by
  have e1 : He.obsD [] L.fns K = He.valD L.fns := congrArg (fun z : AlX => z.1) c
  have e2 : (facB L.T K && L.inis.all fun d => d.ok L.file K) = true := congrArg (fun z : AlX => z.2.1) c
  have e3 : L.inis.map (fun d => d.obs K) = L.inis.map IniD.val := congrArg (fun z : AlX => z.2.2) c
  obtain ⟨f1, f2⟩ := and_ok e2
  refine ⟨e1, f1, fun d m => List.all_eq_true.mp f2 d m, fun d m => ?_⟩
  obtain ⟨i, hi⟩ := List.mem_iff_getElem?.mp m
  have e4 : (L.inis.map fun d => d.obs K)[i]? = (L.inis.map IniD.val)[i]? := by rw [e3]
  rw [List.getElem?_map, List.getElem?_map, hi] at e4
  exact Option.some.inj e4
theorem fnG_stuck {k : Nat} {f : Addr} {W : Wd} {np : Nat} {io : List Nat} {cl : List Val → CRes} (h : ∀ vs, cl vs = .stuck) : FnG P w K mg base k f (spEv W np io cl) := fun A outer s H us vs Q E _ _ _ _ hsp => by
  obtain ⟨_, vs, Fs, Z, _, ns, _⟩ := hsp
  exact absurd (h vs) ns
theorem fns_ok (O : LawOk L) (Y : K.In base) (G : base.Ns mainGlobals mg) (c : L.see K = L.due) (hf : L.file = (P.main.file : Str)) (top : (P.main.scope.names.lookup ("super" : Str)).isSome = false) :
    ∀ l f fn, L.T.tbl[f]? = some fn → FnG P w K mg base (l + 3) ((lawW L.T K).fA f) (spEv (lawW L.T K) fn.np fn.io (evL L.T.cls L.T.tbl l f)) := by
  obtain ⟨cD, cF, cI, cV⟩ := see_parts c
  obtain ⟨M, ⟨osm, hsm⟩, hsup⟩ := facB_ok cF O.cls Y G
  intro l
  induction l with
  | zero => intro f fn _; exact fnG_stuck fun _ => rfl
  | succ l ih =>
    intro f fn hfn
    have hlt : f < L.fns.length := Nat.lt_of_lt_of_le (List.getElem?_eq_some_iff.mp hfn).1 O.len
    obtain ⟨d, hd⟩ : ∃ d, L.fns[f]? = some d := ⟨_, List.getElem?_eq_getElem hlt⟩
    obtain ⟨N, ps, st, B⟩ := O.fns f d fn hd hfn
    obtain ⟨fd, F⟩ := cD.def_ f hd
    have eA : (lawW L.T K).fA f = He.fAd K d.at_ := by
      show He.ga K (L.T.fnN.getD f Str.empty) = _
      rw [getD_of (O.nm f d hd), B.at_]
      rfl
    rw [eA]
    have F2 : L2.Fun K d.name d.qual st (He.fAd K d.at_) fd ∧ BindsBy fd ps := by
      obtain ⟨oc, od, dV, kV, doc, pm, an, cdv, ct, osl, hfd, lk, hcd, hD, hK⟩ := F.ex
      have hz : d.dvs K = [] := by show d.dfl.map _ = []; rw [B.df.1]; rfl
      rw [hz] at hD
      rcases hD with ⟨_, rfl⟩ | ⟨e, _⟩
      · rw [B.pa, B.bo, B.sc] at hfd
        refine ⟨⟨⟨oc, od, kV, doc, pm, an, cdv, ct, osl, hfd, lk, hcd⟩, F.kp⟩, fun us hl => ?_⟩
        rw [hfd]
        exact B.bind kV doc pm an cdv ct us hl
      · exact absurd rfl e
    refine fnG_ev (k := l + 3) F2.1 B.S F2.2 hfn B.np B.ns B.io B.io1 fun cdv A outer s H E hr hg => ?_
    refine (B.body (k := l + 3) ?_ ⟨rfl, rfl, rfl⟩).run FUEL
    refine ⟨⟨rfl, rfl, B.S.nd, ?_, hr.hd, hg, ⟨osm, Y _ _ hsm⟩⟩, takes_of rfl rfl rfl rfl, passes_of rfl, hr, rfl, rfl, M, fun _ _ => rfl, ih, Nat.le_add_left 2 (l + 1), ?_⟩
    · have := hr.un
      show (A.deeper _).units + 180 < cLine
      omega
    · intro c ns ib h1 h2 h3
      obtain ⟨d', hm, hcl, rfl, rfl⟩ := O.fld c ns ib h1 h2 h3
      have q := M.rs c (List.getElem?_eq_some_iff.mp hcl).1
      have e : (lawW L.T K).cA c = He.ga K d'.c := by show He.ga K (L.T.clN.getD c _) = _; rw [getD_of hcl]
      rw [e] at q ⊢
      have hna := M.na d'.fld (by
        have : d'.fld ∈ L.T.fld.flatten := List.mem_flatten.mpr ⟨_, List.mem_of_getElem? h1, List.mem_cons_self⟩
        simpa using this) c
      rw [e] at hna
      have hok := cI d' hm
      rw [hf] at hok
      exact (O.ini d' hm).iniOk (IniD.is (P := P) (cV d' hm) hok hsup top q.2.2.1 q.2.2.2 q.2.1) hna
end
end EV
end SHeadY
section SHeadZ
set_option Elab.async false
set_option linter.all false
set_option maxRecDepth 100000
set_option maxHeartbeats 2000000
namespace EV
open PySem PySem.Spec PyProof.Rows L2
/-! ### the law's call -/
abbrev scrO (vs : List Value) : Obj := { cls := .type "list", data := .seq vs.toArray }
section
variable {P : Program} {w : World} {K : PySem.W.Frag} {mg mb : Str → Option Value} {k : Nat} {fa a : Addr} {W : Wd} {cl : List Val → CRes} {s₁ : Shared} {vs : List Value} {ns : List Int}
/-- what is tracked at the entry: the script, or nothing -/
structure Ent (K : PySem.W.Frag) (a : Addr) (vs : List Value) (ns : List Int) (H : Hp) : Prop where
  only : ∀ b u, H b = some u → b = a ∧ u = .frz (scrO vs) (.lst (ns.map V.int)) ∧ K.lookup a = none
  sq : SqZ K H a (ns.map V.int)
theorem ent_ex (ha : s₁.heap.get? a = some (scrO vs)) (hi : IntsAre vs ns) (hl : ns.length ≤ sizeLine) (KX : K.In s₁.heap) : ∃ H, Ent K a vs ns H := by
  have rv := vals_ints hi
  have lv := hi.length
  cases q : K.lookup a with
  | none =>
    refine ⟨fun b => if b = a then some (.frz (scrO vs) (.lst (ns.map V.int))) else none, fun b u e => ?_, .inl ⟨scrO vs, if_pos rfl⟩⟩
    have e' : (if b = a then some (HO.frz (scrO vs) (.lst (ns.map V.int))) else none) = some u := e
    by_cases hb : b = a
    · rw [if_pos hb] at e'; exact ⟨hb, (Option.some.inj e').symm, q⟩
    · rw [if_neg hb] at e'; cases e'
  | some o =>
    have e := KX a o q
    rw [ha] at e
    have eo : o = scrO vs := (Option.some.inj e).symm
    subst eo
    exact ⟨fun _ => none, fun b u e => (by cases e), .inr (.inr ⟨scrO vs, vs.toArray, _, q, rfl, rfl, rfl, by rw [List.size_toArray, lv]; exact hl, by simpa using rv⟩)⟩
theorem ints_rep {H : Hp} {Z : Addr → Prop} : ∀ ns : List Int, RepDs K H Z (ns.map V.int) (ns.map PyData.int)
  | [] => .nil
  | n :: ns => .cons (.int n) (ints_rep ns)
theorem law_callG (KX : K.In s₁.heap) (hns : s₁.heap.Ns mainGlobals mg) (hb : s₁.heap.Ns builtinsNs mb) (hbb : ∀ x : Str, x ≠ "__name__" → mb x = bootBuiltins x) (hlim : s₁.heap.NoLimit) (hg : s₁.gens = #[])
    (ha : s₁.heap.get? a = some (scrO vs)) (hi : IntsAre vs ns) (hl : ns.length ≤ sizeLine) (hr : Room k callerA) (hW : W.K = K)
    (F : ∀ base : Heap, K.In base → base.Ns mainGlobals mg → FnG P w K mg base k fa (spEv W 1 [] cl)) (hcl : cl [.scr (ns.map PyData.int)] = .ret (.dat (.bool true)) []) :
    codeAny (model P w) callerA (.call (.ref fa) ⟨[.ref a], []⟩) (fun r s' => r = .ok (.ret (.bool true)) ∧ OldK s₁.heap s'.heap ∧ s'.os = s₁.os ∧ AllBare s'.gens) s₁ := by
  obtain ⟨H, E⟩ := ent_ex ha hi hl KX
  have no_dict : ∀ {b : Addr} {o : Obj}, s₁.heap.get? b = some o → (∀ its n, o.data ≠ .seq its n) → H b = none := by
    intro b o e hd
    cases q : H b with
    | none => rfl
    | some u =>
      obtain ⟨rfl, _, _⟩ := E.only b u q
      rw [ha] at e
      cases e
      exact absurd rfl (hd _ _)
  have nsB : ∀ {b : Addr} {m : Str → Option Value}, s₁.heap.Ns b m → (hidT s₁.heap H).Ns b m := by
    rintro b m ⟨o, es, ep, e, d, r⟩
    exact ⟨o, es, ep, hidT_get e (no_dict e fun its n z => by rw [d] at z; cases z), d, r⟩
  have kB : K.In (hidT s₁.heap H) := by
    intro b o e
    refine hidT_get (KX b o e) ?_
    cases q : H b with
    | none => rfl
    | some u =>
      obtain ⟨rfl, _, n⟩ := E.only b u q
      rw [n] at e; cases e
  have hok : HOk P w H s₁.heap := by
    intro b u e
    obtain ⟨rfl, rfl, _⟩ := E.only b u e
    exact ⟨ha, by rw [List.length_map]; exact hl, vs, _, vals_ints hi, ha⟩
  have mod : Mod K mg (hidT s₁.heap H) := ⟨kB, nsB hns, ⟨mb, nsB hb, hbb⟩, let ⟨mc, z1, z2⟩ := hlim; ⟨mc, nsB z1, z2⟩⟩
  have e0 : Env0 P w K mg (hidT s₁.heap H) callerA [] s₁ H := {
    frames := rfl
    mod := mod
    bs := fun b o e => of_hidT e
    bsz := Nat.le_of_eq (hidT_size _ _)
    funs := True.intro
    frf := fun b z => by cases z
    hok := hok
    bare := .of_eq hg }
  have R0 : RelE W H (fun _ => False) ([V.ref a].map some) ([Val.scr (ns.map PyData.int)].map some) fun _ => [] := by
    refine ⟨rfl, fun i v q => ?_, fun _ _ => rfl, fun _ _ _ m => (by cases m), fun _ z => z.elim⟩
    cases i with
    | zero =>
      simp at q; subst q
      exact ⟨_, rfl, .scr (by rw [hW]; exact E.sq) (ints_rep ns)⟩
    | succ i => simp at q
  have sp : spEv W 1 [] cl [V.ref a] H (fun v _ => v = .bl true) fun _ _ _ => False := by
    refine ⟨rfl, [.scr (ns.map PyData.int)], fun _ => [], fun _ => False, R0, by rw [hcl]; exact fun z => (by cases z), fun v outs e u H' Z' Fs' F' _ nv => ?_, fun c fs outs e => ?_⟩
    · rw [hcl] at e
      cases e
      have rv := nv.v
      cases rv with
      | dat r => cases r; rfl
    · rw [hcl] at e; cases e
  refine codeAny_mono (F _ kB (nsB hns) callerA [] s₁ H [.ref a] [.ref a] _ _ hr rfl e0 (.cons rfl .nil) sp) fun r s' h => ?_
  match r, h with
  | .error e, h =>
    obtain ⟨_, _, _, _, _, _, _, _, _, _, _, _, z⟩ := h
    exact z.elim
  | .ok (.ret u), h =>
    obtain ⟨v, H', os, bare, un, hok', r', q⟩ := h
    have q' : v = V.bl true := q
    subst q'
    have eu : u = Value.bool true := r'
    subst eu
    refine ⟨rfl, OldK.of_keep fun b o e => ?_, os, bare⟩
    cases q : H b with
    | none => exact un.keep b o e q (fun z => by cases z) fun z => by cases z
    | some u =>
      obtain ⟨rfl, rfl, _⟩ := E.only b u q
      have z1 := (hok b _ q).1
      have z2 := (hok' b _ (un.frzs b _ _ q)).1
      rw [e] at z1
      cases z1
      exact z2
  | .ok .next, h => exact False.elim h
  | .ok .brk, h => exact False.elim h
  | .ok .cont, h => exact False.elim h
end
/-- THE END: the law holds if the evaluator says True -/
theorem walk_ev {l : PySem.W.OpenLaw} {n lv fl : Nat} {q : Program} {loose : List Str} {XP : (Str → Option Value) → Heap → Prop} {d : DefRec} {L : LawX} {m : Nat} {fn : Fn}
    (hn : l.most = some n) (hn2 : n ≤ sizeLine) (hdf : d.params.defaults = []) (hr : Room (lv + 3) callerA) (O : LawOk L) (hfile : L.file = (l.prog.main.file : Str)) (top : (l.prog.main.scope.names.lookup ("super" : Str)).isSome = false)
    (hfl : L.T.tbl[fl]? = some fn) (hnp : fn.np = 1) (hio : fn.io = []) (hnm : L.T.fnN[fl]? = some d.name)
    (ev : ∀ ns : List Int, ns.length ≤ n → (∀ k ∈ ns, Builtin.Int.intBits k ≤ 1048576) → evL L.T.cls L.T.tbl lv fl [.scr (ns.map PyData.int)] = .ret (.dat (.bool true)) []) :
    PySem.W.WalkO q loose XP (L.hook m).says l.row.toRowW d [] (fun f vs => PySem.call f vs) := by
  refine Att.attach_callB hn hdf fun w s₀ s₁ mg mb fa o pm cd doc a vs ns G Y ho hd hcd hmg hobj hints hlen hbits hg => ?_
  obtain ⟨K, KX, c⟩ := Y
  have M := (facB_ok (see_parts c).2.1 O.cls KX G.T.g).1
  have e := (M.fn fl d.name hnm).1
  rw [hmg] at e
  have efa : fa = (lawW L.T K).fA fl := by
    have z := Option.some.inj e
    exact Value.ref.inj z
  refine law_callG (W := lawW L.T K) (cl := evL L.T.cls L.T.tbl lv fl) (k := lv + 3) KX G.T.g G.T.b G.T.builtins G.T.nolimit hg hobj hints (Nat.le_trans hlen hn2) hr rfl (fun base kb gb => ?_) (ev ns hlen hbits)
  have z := fns_ok (P := l.prog) (w := w) O kb gb c hfile top lv fl fn hfl
  rw [hnp, hio] at z
  rw [efa]
  exact z
end EV
end SHeadZ
section SK20Ir
set_option Elab.async false
set_option linter.all false
set_option maxRecDepth 100000
namespace K20
open PySem EV
/-- is_name : thing sign -/
def f_is_name : Fn := ⟨1, 2, [], [(.if_ (.or_ [(.not_ (.pr (.isi .str) [(.pk 0)])), (.not_ (.chain .le .le (.cst (.int 1)) (.pr .len [(.pk 0)]) (.gl "MOST_SIGNS" (.int 8))))]) [(.ret (.cst (.bool false)))] []), (.ret (.pr .all [(.lc (.pr .isin [(.pk 1), (.gl "SMALL" (.str ⟨#[97,98,99,100,101,102,103,104,105,106,107,108,109,110,111,112,113,114,115,116,117,118,119,120,121,122]⟩))]) (.nm 1) .val [(.var 0)] [] [1])]))]⟩
def n_is_name : List Str := ["thing", "sign"]
/-- figures_in : text most sign -/
def f_figures_in : Fn := ⟨2, 3, [], [(.if_ (.or_ [(.not_ (.chain .le .le (.cst (.int 1)) (.pr .len [(.pk 0)]) (.pr .len [(.pr .tostr [(.pk 1)])]))), (.not_ (.pr .all [(.lc (.pr .isin [(.pk 2), (.gl "FIGURES" (.str ⟨#[48,49,50,51,52,53,54,55,56,57]⟩))]) (.nm 2) .val [(.var 0)] [] [2])]))]) [(.ret (.cst .none))] []), (.if_ (.or_ [(.and_ [(.pr .eq [(.pr .idx [(.pk 0), (.cst (.int 0))]), (.cst (.str ⟨#[48]⟩))]), (.pr .ne [(.pk 0), (.cst (.str ⟨#[48]⟩))])]), (.pr .gt [(.pr .toint [(.pk 0)]), (.pk 1)])]) [(.ret (.cst .none))] []), (.ret (.pr .toint [(.pk 0)]))]⟩
def n_figures_in : List Str := ["text", "most", "sign"]
/-- is_letter : thing name mark age -/
def f_is_letter : Fn := ⟨1, 4, [], [(.if_ (.not_ (.pr (.isi .str) [(.pk 0)])) [(.ret (.cst (.bool false)))] []), (.setT [1, 2, 3] (.pr .partition [(.pr .ostr [(.var 0)]), (.cst (.str ⟨#[64]⟩))])), (.ret (.and_ [(.call 0 [(.var 1)]), (.or_ [(.pr .eq [(.pk 2), (.cst (.str ⟨#[]⟩))]), (.pr .notnone [(.call 1 [(.var 3), (.gl "MOST_AGE" (.int 9999))])])])]))]⟩
def n_is_letter : List Str := ["thing", "name", "mark", "age"]
/-- is_number : thing most -/
def f_is_number : Fn := ⟨2, 2, [], [(.ret (.and_ [(.pr (.isi .int) [(.pk 0)]), (.not_ (.pr (.isi .bool) [(.pk 0)])), (.chain .le .le (.cst (.int 0)) (.pk 0) (.pk 1))]))]⟩
def n_is_number : List Str := ["thing", "most"]
/-- are_places : thing one other place -/
def f_are_places : Fn := ⟨1, 4, [], [(.if_ (.or_ [(.not_ (.pr (.isi .tuple) [(.pk 0)])), (.pr .gt [(.pr .len [(.pk 0)]), (.gl "MAX_PLACES" (.int 64))])]) [(.ret (.cst (.bool false)))] []), (.if_ (.not_ (.pr .all [(.lc (.call 3 [(.var 3), (.gl "MAX_PLACE" (.int 1000000))]) (.nm 3) .val [(.var 0)] [] [3])])) [(.ret (.cst (.bool false)))] []), (.ret (.pr .all [(.lc (.pr .lt [(.pk 1), (.pk 2)]) (.tup [1, 2]) .zip [(.var 0), (.pr .slc [(.pk 0), (.pr .opti [(.cst (.int 1))]), (.cst .none)])] [] [1, 2])]))]⟩
def n_are_places : List Str := ["thing", "one", "other", "place"]
/-- is_road : places thing place -/
def f_is_road : Fn := ⟨2, 3, [], [(.if_ (.or_ [(.not_ (.pr (.isi .tuple) [(.pk 1)])), (.pr .ne [(.pr .len [(.pk 1)]), (.cst (.int 4))]), (.not_ (.call 2 [(.pr .idx [(.pk 1), (.cst (.int 0))])]))]) [(.ret (.cst (.bool false)))] []), (.if_ (.not_ (.pr .all [(.lc (.and_ [(.call 3 [(.var 2), (.gl "MAX_PLACE" (.int 1000000))]), (.pr .isin [(.pk 2), (.pk 0)])]) (.nm 2) .val [(.pr .slc [(.pk 1), (.pr .opti [(.cst (.int 1))]), (.pr .opti [(.cst (.int 3))])])] [] [2])])) [(.ret (.cst (.bool false)))] []), (.ret (.call 3 [(.pr .idx [(.pk 1), (.cst (.int 3))]), (.gl "MAX_COST" (.int 1000000))]))]⟩
def n_is_road : List Str := ["places", "thing", "place"]
/-- is_net : thing places roads one other road -/
def f_is_net : Fn := ⟨1, 6, [], [(.if_ (.or_ [(.not_ (.pr (.isi .tuple) [(.pk 0)])), (.pr .ne [(.pr .len [(.pk 0)]), (.cst (.int 2))]), (.not_ (.call 4 [(.pr .idx [(.pk 0), (.cst (.int 0))])]))]) [(.ret (.cst (.bool false)))] []), (.setT [1, 2] (.var 0)), (.if_ (.or_ [(.not_ (.pr (.isi .tuple) [(.pk 2)])), (.pr .gt [(.pr .len [(.pk 2)]), (.gl "MAX_ROADS" (.int 200))])]) [(.ret (.cst (.bool false)))] []), (.if_ (.not_ (.pr .all [(.lc (.call 5 [(.var 1), (.var 5)]) (.nm 5) .val [(.var 2)] [] [5])])) [(.ret (.cst (.bool false)))] []), (.ret (.pr .all [(.lc (.pr .le [(.pk 3), (.pk 4)]) (.tup [3, 4]) .zip [(.var 2), (.pr .slc [(.pk 2), (.pr .opti [(.cst (.int 1))]), (.cst .none)])] [] [3, 4])]))]⟩
def n_is_net : List Str := ["thing", "places", "roads", "one", "other", "road"]
/-- need_net : net -/
def f_need_net : Fn := ⟨1, 1, [], [(.if_ (.not_ (.call 6 [(.var 0)])) [(.raise 1 [])] [])]⟩
def n_need_net : List Str := ["net"]
/-- with_road : net road -/
def f_with_road : Fn := ⟨2, 2, [], [(.expr (.call 7 [(.var 0)])), (.if_ (.not_ (.call 5 [(.pr .idx [(.pk 0), (.cst (.int 0))]), (.var 1)])) [(.raise 2 [])] []), (.if_ (.pr .eq [(.pr .len [(.pr .idx [(.pk 0), (.cst (.int 1))])]), (.gl "MAX_ROADS" (.int 200))]) [(.raiseF 3 1 true [(.gl "MAX_ROADS" (.int 200))])] []), (.ret (.tup [(.pr .idx [(.pk 0), (.cst (.int 0))]), (.pr .tuple [(.pr .sorted [(.pr .add [(.pr .idx [(.pk 0), (.cst (.int 1))]), (.tup [(.var 1)])])])])]))]⟩
def n_with_road : List Str := ["net", "road"]
/-- without_road : net road place -/
def f_without_road : Fn := ⟨2, 3, [], [(.expr (.call 7 [(.var 0)])), (.if_ (.or_ [(.not_ (.call 5 [(.pr .idx [(.pk 0), (.cst (.int 0))]), (.var 1)])), (.pr .notin [(.pk 1), (.pr .idx [(.pk 0), (.cst (.int 1))])])]) [(.raise 2 [])] []), (.set 2 (.pr .index [(.pr .oseq [(.pr .idx [(.pk 0), (.cst (.int 1))])]), (.pk 1)])), (.ret (.tup [(.pr .idx [(.pk 0), (.cst (.int 0))]), (.pr .add [(.pr .slc [(.pr .idx [(.pk 0), (.cst (.int 1))]), (.cst .none), (.pr .opti [(.pk 2)])]), (.pr .slc [(.pr .idx [(.pk 0), (.cst (.int 1))]), (.pr .opti [(.pr .add [(.pk 2), (.cst (.int 1))])]), (.cst .none)])])]))]⟩
def n_without_road : List Str := ["net", "road", "place"]
/-- _law_spread : _law_small _law_spot _law_prime _law_found _law_lap -/
def f__law_spread : Fn := ⟨2, 5, [], [(.set 2 (.cst (.int 1000000000000002493))), (.set 3 (.pr .mod [(.pr .toint [(.pr .add [(.pr .add [(.pr .mul [(.pk 0), (.cst (.int 7046029254386353087))]), (.pr .mul [(.pk 1), (.cst (.int 3935559000370003845))])]), (.cst (.int 19))])]), (.pk 2)])), (.for_ (.nm 4) .range [(.cst (.int 4))] [(.set 3 (.pr .mod [(.pr .toint [(.pr .add [(.pr .add [(.pr .add [(.pr .mul [(.pk 3), (.pk 3)]), (.pr .mul [(.cst (.int 3)), (.pk 3)])]), (.pr .mul [(.cst (.int 271)), (.pk 4)])]), (.pk 1)])]), (.pk 2)]))]), (.ret (.pr .add [(.pr .mul [(.pk 3), (.pk 2)]), (.pr .mod [(.pr .toint [(.pr .add [(.pr .mul [(.pk 3), (.cst (.int 65599))]), (.pk 1)])]), (.pk 2)])]))]⟩
def n__law_spread : List Str := ["_law_small", "_law_spot", "_law_prime", "_law_found", "_law_lap"]
/-- _law_spring : _law_script _law_numbers _law_spot _law_one -/
def f__law_spring : Fn := ⟨1, 4, [], [(.set 1 (.lc (.pr .abs [(.pk 3)]) (.nm 3) .val [(.scut 0 (.cst .none) (.cst (.int 17)))] [] [3])), (.for_ (.tup [2, 3]) .enum [(.scut 0 (.cst (.int 17)) (.cst (.int 60)))] [(.setIx 1 (.pr .mod [(.pr .toint [(.pk 2)]), (.cst (.int 17))]) (.pr .add [(.pr .idx [(.pk 1), (.pr .mod [(.pr .toint [(.pk 2)]), (.cst (.int 17))])]), (.pr .abs [(.pk 3)])]))]), (.ret (.lst [(.var 1), (.cst (.int 0)), (.cst (.int 0))]))]⟩
def n__law_spring : List Str := ["_law_script", "_law_numbers", "_law_spot", "_law_one"]
/-- _law_under : _law_spring_here _law_many _law_found _law_numbers _law_spot _law_cell -/
def f__law_under : Fn := ⟨2, 6, [0], [(.if_ (.pr .lt [(.pr .idx [(.pk 0), (.cst (.int 2))]), (.pk 1)]) [(.setP [3, 4] [(.pr .idx [(.pk 0), (.cst (.int 0))]), (.pr .idx [(.pk 0), (.cst (.int 1))])]), (.set 5 (.ife (.pr .ne [(.pk 3), (.lst [])]) (.pr .idx [(.pk 3), (.pr .mod [(.pr .toint [(.pk 4)]), (.pr .len [(.pk 3)])])]) (.cst (.int 0)))), (.if_ (.or_ [(.pr .lt [(.pk 5), (.pr .pow [(.cst (.int 10)), (.cst (.int 16))])]), (.pr .ge [(.pk 4), (.pr .len [(.pk 3)])])]) [(.set 5 (.call 10 [(.pr .add [(.pr .mod [(.pr .toint [(.pk 5)]), (.pr .pow [(.cst (.int 10)), (.cst (.int 13))])]), (.pr .fdiv [(.pk 4), (.pr .add [(.pr .len [(.pk 3)]), (.cst (.int 1))])])]), (.var 4)]))] []), (.setIx 0 (.cst (.int 1)) (.pr .add [(.pk 4), (.cst (.int 1))])), (.setIx 0 (.cst (.int 2)) (.var 5))] []), (.set 2 (.pr .mod [(.pr .toint [(.pr .idx [(.pk 0), (.cst (.int 2))])]), (.pk 1)])), (.setIx 0 (.cst (.int 2)) (.pr .fdiv [(.pr .idx [(.pk 0), (.cst (.int 2))]), (.pk 1)])), (.ret (.var 2))]⟩
def n__law_under : List Str := ["_law_spring_here", "_law_many", "_law_found", "_law_numbers", "_law_spot", "_law_cell"]
/-- _law_any : _law_spring_here _law_items -/
def f__law_any : Fn := ⟨2, 2, [0], [(.ret (.pr .idx [(.pk 1), (.call 12 [(.mt 0), (.pr .len [(.pk 1)])])]))]⟩
def n__law_any : List Str := ["_law_spring_here", "_law_items"]
/-- _law_alike : _law_found _law_due_here -/
def f__law_alike : Fn := ⟨2, 2, [], [(.ret (.pr .eq [(.pr .repr [(.pk 0)]), (.pr .repr [(.pk 1)])]))]⟩
def n__law_alike : List Str := ["_law_found", "_law_due_here"]
/-- _law_some_net : _law_spring_here _law_most _law_roads _law_letters _law_places _law_found _law_k _law_road -/
def f__law_some_net : Fn := ⟨4, 8, [0], [(.set 4 (.pr .sortset [(.lc (.call 13 [(.mt 0), (.lst [(.cst (.int 0)), (.cst (.int 1)), (.cst (.int 2)), (.cst (.int 5)), (.pr .pow [(.cst (.int 10)), (.cst (.int 6))])])]) (.nm 6) .range [(.pr .add [(.cst (.int 1)), (.call 12 [(.mt 0), (.var 1)])])] [] [6])])), (.set 5 (.lst [])), (.for_ (.nm 6) .range [(.call 12 [(.mt 0), (.pr .add [(.pk 2), (.cst (.int 1))])])] [(.set 7 (.tup [(.call 13 [(.mt 0), (.var 3)]), (.call 13 [(.mt 0), (.var 4)]), (.call 13 [(.mt 0), (.var 4)])])), (.mut .append 5 [(.pr .add [(.pk 7), (.tup [(.call 13 [(.mt 0), (.lst [(.cst (.int 0)), (.cst (.int 1)), (.cst (.int 1)), (.cst (.int 3)), (.pr .pow [(.cst (.int 10)), (.cst (.int 6))])])])])])]), (.if_ (.pr .eq [(.call 12 [(.mt 0), (.cst (.int 4))]), (.cst (.int 0))]) [(.mut .append 5 [(.pr .idx [(.pk 5), (.pr .neg [(.cst (.int 1))])])])] [])]), (.ret (.tup [(.pr .tuple [(.pk 4)]), (.pr .tuple [(.pr .sorted [(.pk 5)])])]))]⟩
def n__law_some_net : List Str := ["_law_spring_here", "_law_most", "_law_roads", "_law_letters", "_law_places", "_law_found", "_law_k", "_law_road"]
/-- _law_bent : _law_spring_here _law_thing _law_others _law_some _law_place -/
def f__law_bent : Fn := ⟨3, 5, [0], [(.if_ (.and_ [(.pr (.isi .tuple) [(.pk 1)]), (.pr .ne [(.pk 1), (.tup [])]), (.pr .gt [(.call 12 [(.mt 0), (.cst (.int 5))]), (.cst (.int 0))])]) [(.set 4 (.call 12 [(.mt 0), (.pr .len [(.pk 1)])])), (.ret (.pr .add [(.pr .add [(.pr .slc [(.pk 1), (.cst .none), (.pr .opti [(.pk 4)])]), (.tup [(.call 16 [(.mt 0), (.pr .idx [(.pk 1), (.pk 4)]), (.var 2)])])]), (.pr .slc [(.pk 1), (.pr .opti [(.pr .add [(.pk 4), (.cst (.int 1))])]), (.cst .none)])]))] []), (.set 3 (.pr .add [(.lst [(.cst .none), (.cst (.int 0)), (.cst (.int 1)), (.cst (.bool true)), (.cst (.str ⟨#[]⟩)), (.cst (.str ⟨#[97]⟩)), (.cst (.str ⟨#[120]⟩)), (.tup []), (.lst []), (.dct [] []), (.tup [(.lst [])]), (.var 1), (.tup [(.var 1)])]), (.pk 2)])), (.if_ (.pr (.isi .tuple) [(.pk 1)]) [(.set 3 (.pr .add [(.pk 3), (.lst [(.pr .slc [(.pk 1), (.pr .opti [(.cst (.int 1))]), (.cst .none)]), (.pr .slc [(.pk 1), (.cst .none), (.pr .opti [(.pr .neg [(.cst (.int 1))])])]), (.pr .add [(.pk 1), (.pr .slc [(.pk 1), (.pr .opti [(.pr .neg [(.cst (.int 1))])]), (.cst .none)])]), (.pr .rev [(.pk 1)]), (.pr .list [(.pk 1)]), (.pr .add [(.pk 1), (.tup [(.cst (.int 1))])])])]))] []), (.if_ (.pr (.isi .int) [(.pk 1)]) [(.set 3 (.pr .add [(.pk 3), (.lst [(.pr .add [(.pk 1), (.cst (.int 1))]), (.pr .sub [(.pk 1), (.cst (.int 1))]), (.pr .sub [(.cst (.int 0)), (.pk 1)]), (.pr .eq [(.pk 1), (.cst (.int 1))]), (.pr .tostr [(.pk 1)])])]))] []), (.if_ (.pr (.isi .str) [(.pk 1)]) [(.set 3 (.pr .add [(.pk 3), (.lst [(.pr .add [(.pk 1), (.cst (.str ⟨#[97]⟩))]), (.pr .add [(.pk 1), (.cst (.str ⟨#[64,48]⟩))]), (.pr .slc [(.pk 1), (.pr .opti [(.cst (.int 1))]), (.cst .none)]), (.pr .add [(.pk 1), (.cst (.str ⟨#[64,48,49]⟩))])])]))] []), (.ret (.call 13 [(.mt 0), (.var 3)]))]⟩
def n__law_bent : List Str := ["_law_spring_here", "_law_thing", "_law_others", "_law_some", "_law_place"]
/-- _law_is_number : _law_thing _law_most -/
def f__law_is_number : Fn := ⟨2, 2, [], [(.ret (.and_ [(.pr (.isi .int) [(.pk 0)]), (.not_ (.pr (.isi .bool) [(.pk 0)])), (.chain .le .le (.cst (.int 0)) (.pk 0) (.pk 1))]))]⟩
def n__law_is_number : List Str := ["_law_thing", "_law_most"]
/-- _law_is_letter : _law_thing _law_name _law_age _law_small _law_sign -/
def f__law_is_letter : Fn := ⟨1, 5, [], [(.if_ (.not_ (.pr (.isi .str) [(.pk 0)])) [(.ret (.cst (.bool false)))] []), (.setP [1, 2] [(.pr .idx [(.pr .split [(.pr .ostr [(.var 0)]), (.cst (.str ⟨#[64]⟩))]), (.cst (.int 0))]), (.pr .slc [(.pr .split [(.pr .ostr [(.var 0)]), (.cst (.str ⟨#[64]⟩))]), (.pr .opti [(.cst (.int 1))]), (.cst .none)])]), (.set 3 (.cst (.str ⟨#[97,98,99,100,101,102,103,104,105,106,107,108,109,110,111,112,113,114,115,116,117,118,119,120,121,122]⟩))), (.if_ (.or_ [(.not_ (.chain .le .le (.cst (.int 1)) (.pr .len [(.pk 1)]) (.cst (.int 8)))), (.pr .ne [(.lc (.var 4) (.nm 4) .val [(.var 1)] [(.pr .notin [(.pk 4), (.pk 3)])] [4]), (.lst [])]), (.pr .gt [(.pr .len [(.pk 2)]), (.cst (.int 1))])]) [(.ret (.cst (.bool false)))] []), (.if_ (.pr .eq [(.pk 2), (.lst [])]) [(.ret (.cst (.bool true)))] []), (.if_ (.or_ [(.not_ (.chain .le .le (.cst (.int 1)) (.pr .len [(.pr .idx [(.pk 2), (.cst (.int 0))])]) (.cst (.int 4)))), (.pr .ne [(.lc (.var 4) (.nm 4) .val [(.pr .idx [(.pk 2), (.cst (.int 0))])] [(.pr .notin [(.pk 4), (.cst (.str ⟨#[48,49,50,51,52,53,54,55,56,57]⟩))])] [4]), (.lst [])])]) [(.ret (.cst (.bool false)))] []), (.ret (.or_ [(.pr .eq [(.pr .idx [(.pk 2), (.cst (.int 0))]), (.cst (.str ⟨#[48]⟩))]), (.pr .ne [(.pr .idx [(.pr .idx [(.pk 2), (.cst (.int 0))]), (.cst (.int 0))]), (.cst (.str ⟨#[48]⟩))])]))]⟩
def n__law_is_letter : List Str := ["_law_thing", "_law_name", "_law_age", "_law_small", "_law_sign"]
/-- _law_is_road : _law_places _law_thing _law_place -/
def f__law_is_road : Fn := ⟨2, 3, [], [(.if_ (.or_ [(.not_ (.pr (.isi .tuple) [(.pk 1)])), (.pr .ne [(.pr .len [(.pk 1)]), (.cst (.int 4))]), (.not_ (.call 18 [(.pr .idx [(.pk 1), (.cst (.int 0))])]))]) [(.ret (.cst (.bool false)))] []), (.if_ (.pr .ne [(.lc (.var 2) (.nm 2) .val [(.pr .slc [(.pk 1), (.pr .opti [(.cst (.int 1))]), (.pr .opti [(.cst (.int 3))])])] [(.or_ [(.not_ (.call 17 [(.var 2), (.pr .pow [(.cst (.int 10)), (.cst (.int 6))])])), (.pr .notin [(.pk 2), (.pk 0)])])] [2]), (.lst [])]) [(.ret (.cst (.bool false)))] []), (.ret (.call 17 [(.pr .idx [(.pk 1), (.cst (.int 3))]), (.pr .pow [(.cst (.int 10)), (.cst (.int 6))])]))]⟩
def n__law_is_road : List Str := ["_law_places", "_law_thing", "_law_place"]
/-- _law_is_net : _law_thing _law_place _law_one _law_other _law_road -/
def f__law_is_net : Fn := ⟨1, 5, [], [(.if_ (.or_ [(.not_ (.pr (.isi .tuple) [(.pk 0)])), (.pr .ne [(.pr .len [(.pk 0)]), (.cst (.int 2))]), (.not_ (.pr (.isi .tuple) [(.pr .idx [(.pk 0), (.cst (.int 0))])])), (.pr .gt [(.pr .len [(.pr .idx [(.pk 0), (.cst (.int 0))])]), (.cst (.int 64))])]) [(.ret (.cst (.bool false)))] []), (.if_ (.pr .ne [(.lc (.var 1) (.nm 1) .val [(.pr .idx [(.pk 0), (.cst (.int 0))])] [(.not_ (.call 17 [(.var 1), (.pr .pow [(.cst (.int 10)), (.cst (.int 6))])]))] [1]), (.lst [])]) [(.ret (.cst (.bool false)))] []), (.if_ (.pr .ne [(.lc (.cst (.int 1)) (.tup [2, 3]) .zip [(.pr .idx [(.pk 0), (.cst (.int 0))]), (.pr .slc [(.pr .idx [(.pk 0), (.cst (.int 0))]), (.pr .opti [(.cst (.int 1))]), (.cst .none)])] [(.pr .ge [(.pk 2), (.pk 3)])] [2, 3]), (.lst [])]) [(.ret (.cst (.bool false)))] []), (.if_ (.or_ [(.not_ (.pr (.isi .tuple) [(.pr .idx [(.pk 0), (.cst (.int 1))])])), (.pr .gt [(.pr .len [(.pr .idx [(.pk 0), (.cst (.int 1))])]), (.cst (.int 200))])]) [(.ret (.cst (.bool false)))] []), (.if_ (.pr .ne [(.lc (.var 4) (.nm 4) .val [(.pr .idx [(.pk 0), (.cst (.int 1))])] [(.not_ (.call 19 [(.pr .idx [(.pk 0), (.cst (.int 0))]), (.var 4)]))] [4]), (.lst [])]) [(.ret (.cst (.bool false)))] []), (.ret (.pr .eq [(.lc (.cst (.int 1)) (.tup [2, 3]) .zip [(.pr .idx [(.pk 0), (.cst (.int 1))]), (.pr .slc [(.pr .idx [(.pk 0), (.cst (.int 1))]), (.pr .opti [(.cst (.int 1))]), (.cst .none)])] [(.pr .gt [(.pk 2), (.pk 3)])] [2, 3]), (.lst [])]))]⟩
def n__law_is_net : List Str := ["_law_thing", "_law_place", "_law_one", "_law_other", "_law_road"]
/-- _law_told : _law_way _law_net _law_road _law_caught _law_found _law_before e -/
def f__law_told : Fn := ⟨3, 7, [], [(.setP [3, 4, 5] [(.cst .none), (.cst .none), (.pr .repr [(.lst [(.var 1), (.var 2)])])]), (.try_ [(.set 4 (.ife (.pr .eq [(.pk 0), (.cst (.str ⟨#[119,105,116,104]⟩))]) (.call 8 [(.var 1), (.var 2)]) (.call 9 [(.var 1), (.var 2)])))] 0 6 3), (.if_ (.pr .ne [(.pr .repr [(.lst [(.var 1), (.var 2)])]), (.pk 5)]) [(.ret (.cst (.str ⟨#[99,104,97,110,103,101,100]⟩)))] []), (.if_ (.isx (.var 3) 3) [(.ret (.tup [(.cst (.str ⟨#[109,97,110,121]⟩)), (.fld (.var 3) [3] 0)]))] []), (.if_ (.isx (.var 3) 1) [(.ret (.cst (.str ⟨#[110,101,116]⟩)))] []), (.ret (.ife (.isx (.var 3) 2) (.cst (.str ⟨#[114,111,97,100]⟩)) (.ife (.pr .isnone [(.pk 3)]) (.var 4) (.cst (.str ⟨#[111,100,100]⟩)))))]⟩
def n__law_told : List Str := ["_law_way", "_law_net", "_law_road", "_law_caught", "_law_found", "_law_before", "e"]
/-- _law_due : _law_way _law_net _law_road _law_left -/
def f__law_due : Fn := ⟨3, 4, [], [(.if_ (.not_ (.call 20 [(.var 1)])) [(.ret (.cst (.str ⟨#[110,101,116]⟩)))] []), (.if_ (.or_ [(.not_ (.call 19 [(.pr .idx [(.pk 1), (.cst (.int 0))]), (.var 2)])), (.and_ [(.pr .eq [(.pk 0), (.cst (.str ⟨#[119,105,116,104,111,117,116]⟩))]), (.pr .notin [(.pk 2), (.pr .idx [(.pk 1), (.cst (.int 1))])])])]) [(.ret (.cst (.str ⟨#[114,111,97,100]⟩)))] []), (.if_ (.pr .eq [(.pk 0), (.cst (.str ⟨#[119,105,116,104]⟩))]) [(.ret (.ife (.pr .eq [(.pr .len [(.pr .idx [(.pk 1), (.cst (.int 1))])]), (.cst (.int 200))]) (.tup [(.cst (.str ⟨#[109,97,110,121]⟩)), (.cst (.int 200))]) (.tup [(.pr .idx [(.pk 1), (.cst (.int 0))]), (.pr .tuple [(.pr .sorted [(.pr .add [(.pr .idx [(.pk 1), (.cst (.int 1))]), (.tup [(.var 2)])])])])])))] []), (.set 3 (.pr .list [(.pr .idx [(.pk 1), (.cst (.int 1))])])), (.mut .remove 3 [(.pk 2)]), (.ret (.tup [(.pr .idx [(.pk 1), (.cst (.int 0))]), (.pr .tuple [(.pk 3)])]))]⟩
def n__law_due : List Str := ["_law_way", "_law_net", "_law_road", "_law_left"]
/-- _law_bounds_right : _law_places _law_road _law_nets _law_net -/
def f__law_bounds_right : Fn := ⟨0, 4, [], [(.set 0 (.pr .trange [(.cst (.int 64))])), (.set 1 (.tup [(.cst (.str ⟨#[107,106]⟩)), (.cst (.int 0)), (.cst (.int 63)), (.cst (.int 0))])), (.set 2 (.lst [(.tup [(.var 0), (.tup [])]), (.tup [(.pr .add [(.pk 0), (.tup [(.cst (.int 64))])]), (.tup [])]), (.tup [(.var 0), (.pr .mul [(.tup [(.var 1)]), (.cst (.int 200))])]), (.tup [(.var 0), (.pr .mul [(.tup [(.var 1)]), (.cst (.int 201))])])])), (.if_ (.pr .ne [(.lc (.call 6 [(.var 3)]) (.nm 3) .val [(.var 2)] [] [3]), (.lst [(.cst (.bool true)), (.cst (.bool false)), (.cst (.bool true)), (.cst (.bool false))])]) [(.ret (.cst (.bool false)))] []), (.if_ (.or_ [(.pr .ne [(.call 21 [(.cst (.str ⟨#[119,105,116,104]⟩)), (.pr .idx [(.pk 2), (.cst (.int 2))]), (.var 1)]), (.tup [(.cst (.str ⟨#[109,97,110,121]⟩)), (.cst (.int 200))])]), (.pr .ne [(.call 21 [(.cst (.str ⟨#[119,105,116,104]⟩)), (.pr .idx [(.pk 2), (.cst (.int 2))]), (.pr .slc [(.pk 1), (.cst .none), (.pr .opti [(.cst (.int 3))])])]), (.cst (.str ⟨#[114,111,97,100]⟩))])]) [(.ret (.cst (.bool false)))] []), (.if_ (.pr .ne [(.call 21 [(.cst (.str ⟨#[119,105,116,104]⟩)), (.pr .idx [(.pk 2), (.cst (.int 3))]), (.cst (.int 0))]), (.cst (.str ⟨#[110,101,116]⟩))]) [(.ret (.cst (.bool false)))] []), (.ret (.pr .eq [(.call 21 [(.cst (.str ⟨#[119,105,116,104,111,117,116]⟩)), (.pr .idx [(.pk 2), (.cst (.int 2))]), (.var 1)]), (.tup [(.var 0), (.pr .mul [(.tup [(.var 1)]), (.cst (.int 199))])])]))]⟩
def n__law_bounds_right : List Str := ["_law_places", "_law_road", "_law_nets", "_law_net"]
/-- law : _law_script _law_spring_here _law_turn _law_net _law_things _law_thing _law_roads _law_road _law_way _law_again -/
def f_law : Fn := ⟨1, 10, [], [(.set 1 (.call 11 [(.var 0)])), (.if_ (.not_ (.call 23 [])) [(.ret (.cst (.bool false)))] []), (.for_ (.nm 2) .range [(.cst (.int 8))] [(.set 3 (.call 15 [(.mt 1), (.cst (.int 5)), (.cst (.int 8)), (.lst [(.cst (.str ⟨#[97]⟩)), (.cst (.str ⟨#[98]⟩)), (.cst (.str ⟨#[97,98,99,100,101,102,103,104,64,57,57,57,57]⟩)), (.cst (.str ⟨#[122,64,48]⟩)), (.cst (.str ⟨#[97,64,50]⟩)), (.cst (.str ⟨#[97,64,49,48]⟩))])])), (.set 4 (.lst [(.var 3), (.cst .none), (.tup []), (.lst []), (.dct [] []), (.cst (.int 0)), (.tup [(.tup []), (.tup [])]), (.tup [(.tup [(.cst (.int 0))]), (.tup [])]), (.tup [(.lst [(.cst (.int 0))]), (.tup [])]), (.tup [(.tup [(.cst (.int 0)), (.cst (.int 0))]), (.tup [])]), (.tup [(.tup [(.cst (.int 1)), (.cst (.int 0))]), (.tup [])])])), (.set 4 (.pr .add [(.pk 4), (.lc (.call 16 [(.mt 1), (.var 3), (.lst [(.pr .idx [(.pk 3), (.cst (.int 0))]), (.pr .idx [(.pk 3), (.cst (.int 1))])])]) (.nm 9) .range [(.cst (.int 12))] [] [9])])), (.for_ (.nm 5) .val [(.var 4)] [(.if_ (.not_ (.call 14 [(.call 6 [(.var 5)]), (.call 20 [(.var 5)])])) [(.ret (.cst (.bool false)))] []), (.set 6 (.lst [(.tup [(.cst (.str ⟨#[97]⟩)), (.cst (.int 0)), (.cst (.int 0)), (.cst (.int 1))]), (.tup [(.cst (.str ⟨#[97]⟩)), (.cst (.int 0)), (.cst (.int 0))]), (.cst (.int 0)), (.lst [(.cst (.str ⟨#[97]⟩)), (.cst (.int 0)), (.cst (.int 0)), (.cst (.int 1))])])), (.if_ (.pr .ne [(.pr .idx [(.pk 3), (.cst (.int 1))]), (.tup [])]) [(.set 6 (.pr .add [(.pk 6), (.lst [(.call 13 [(.mt 1), (.pr .idx [(.pk 3), (.cst (.int 1))])])])])), (.set 6 (.pr .add [(.pk 6), (.lst [(.call 16 [(.mt 1), (.call 13 [(.mt 1), (.pr .idx [(.pk 3), (.cst (.int 1))])]), (.lst [(.pr .pow [(.cst (.int 10)), (.cst (.int 6))]), (.pr .add [(.pr .pow [(.cst (.int 10)), (.cst (.int 6))]), (.cst (.int 1))])])])])]))] []), (.for_ (.nm 7) .val [(.var 6)] [(.for_ (.nm 8) .val [(.tup [(.cst (.str ⟨#[119,105,116,104]⟩)), (.cst (.str ⟨#[119,105,116,104,111,117,116]⟩))])] [(.if_ (.not_ (.call 14 [(.call 21 [(.var 8), (.var 5), (.var 7)]), (.call 22 [(.var 8), (.var 5), (.var 7)])])) [(.ret (.cst (.bool false)))] [])])])])]), (.ret (.cst (.bool true)))]⟩
def n_law : List Str := ["_law_script", "_law_spring_here", "_law_turn", "_law_net", "_law_things", "_law_thing", "_law_roads", "_law_road", "_law_way", "_law_again"]
def tbl : List Fn := [f_is_name, f_figures_in, f_is_letter, f_is_number, f_are_places, f_is_road, f_is_net, f_need_net, f_with_road, f_without_road, f__law_spread, f__law_spring, f__law_under, f__law_any, f__law_alike, f__law_some_net, f__law_bent, f__law_is_number, f__law_is_letter, f__law_is_road, f__law_is_net, f__law_told, f__law_due, f__law_bounds_right, f_law]
def clsT : List (List Nat) := [[0], [1, 0], [2, 0], [3, 0]]
def cls (a b : Nat) : Bool := (clsT.getD a [0]).contains b
def fnN : List Str := ["is_name", "figures_in", "is_letter", "is_number", "are_places", "is_road", "is_net", "need_net", "with_road", "without_road", "_law_spread", "_law_spring", "_law_under", "_law_any", "_law_alike", "_law_some_net", "_law_bent", "_law_is_number", "_law_is_letter", "_law_is_road", "_law_is_net", "_law_told", "_law_due", "_law_bounds_right", "law"]
def clN : List Str := ["RoadError", "NoNet", "NoRoad", "TooMany"]
def fldN : List (List Str) := [[], [], [], ["limit"]]
def blt : List Str := ["abs", "all", "bool", "enumerate", "int", "isinstance", "len", "list", "range", "repr", "set", "sorted", "str", "tuple", "zip"]
def con : List (Str × D) := [("FIGURES", (.str ⟨#[48,49,50,51,52,53,54,55,56,57]⟩)), ("MAX_COST", (.int 1000000)), ("MAX_PLACE", (.int 1000000)), ("MAX_PLACES", (.int 64)), ("MAX_ROADS", (.int 200)), ("MOST_AGE", (.int 9999)), ("MOST_SIGNS", (.int 8)), ("SMALL", (.str ⟨#[97,98,99,100,101,102,103,104,105,106,107,108,109,110,111,112,113,114,115,116,117,118,119,120,121,122]⟩))]
def ibs : List Bool := [false, false, false, true]
end K20
end SK20Ir
section SK20Pf
set_option Elab.async false
set_option linter.all false
set_option maxRecDepth 100000
set_option maxHeartbeats 0
namespace K20
open PySem PySem.Spec PyProof.Rows L2 EV
def top (i : Nat) : Stmt := PySem.Challenge.pw_toldroads_k20_nets.main.body.getD i (.Pass ⟨0, 0, 0, 0⟩)
abbrev LT : LawT := ⟨tbl, fnN, clN, cls, blt, con, fldN, ibs⟩
section
variable {W : Wd} {X : Cx} {Wx : WX} {cl : Nat → List Val → CRes} {k : Nat}
theorem b_is_name (C : CK LT W X Wx cl true n_is_name (defScope (top 10)) k) (Cd : CD X) : OkSs LT W X Wx cl [] (defBody (top 10)) f_is_name.body :=
  (ss_cons (s_if (t_or (ts_cons (t_not (t_val (c_isi C (by kernel_rfl) (by kernel_rfl) B_str (a_pk C (by kernel_rfl))) (fun _ => rfl))) (ts_cons (t_not (t_chain (prim_le C.g) (prim_le C.g) rfl (a_e (c_cst (by kernel_rfl)) rfl) (a_e (c_callB C (prim_len C.g) B_len (by kernel_rfl) (a_pk C (by kernel_rfl))) rfl) (a_e (c_gl C (by kernel_rfl) (by kernel_rfl)) rfl))) ts_nil)) (List.cons_ne_nil _ _)) (ss_cons (s_ret (c_cst (by kernel_rfl))) ss_nil) ss_nil) (ss_cons (s_ret (c_callB C (prim_all C.g) B_all (by kernel_rfl) (a_e (c_lc false C (blkB_ok (own := [("sign", 1)]) (by kernel_rfl)) rfl (fun _ _ => rfl) (i_val C (c_var C (by kernel_rfl)) rfl) (.of_ fun XCq Cq => ⟨fun n => (g_nm Cq (by kernel_rfl) (not_pinC (by kernel_rfl))), q_nil, (c_cmp (prim_isin Cq.g) rfl (a_pk Cq (by kernel_rfl)) (a_e (c_gl Cq (by kernel_rfl) (by kernel_rfl)) rfl))⟩)) rfl))) ss_nil))
theorem b_figures_in (C : CK LT W X Wx cl true n_figures_in (defScope (top 11)) k) (Cd : CD X) : OkSs LT W X Wx cl [] (defBody (top 11)) f_figures_in.body :=
  (ss_cons (s_if (t_or (ts_cons (t_not (t_chain (prim_le C.g) (prim_le C.g) rfl (a_e (c_cst (by kernel_rfl)) rfl) (a_e (c_callB C (prim_len C.g) B_len (by kernel_rfl) (a_pk C (by kernel_rfl))) rfl) (a_e (c_callB C (prim_len C.g) B_len (by kernel_rfl) (a_e (c_callT C (prim_tostr C.g) B_str (by kernel_rfl) (a_pk C (by kernel_rfl))) rfl)) rfl))) (ts_cons (t_not (t_val (c_callB C (prim_all C.g) B_all (by kernel_rfl) (a_e (c_lc false C (blkB_ok (own := [("sign", 2)]) (by kernel_rfl)) rfl (fun _ _ => rfl) (i_val C (c_var C (by kernel_rfl)) rfl) (.of_ fun XCq Cq => ⟨fun n => (g_nm Cq (by kernel_rfl) (not_pinC (by kernel_rfl))), q_nil, (c_cmp (prim_isin Cq.g) rfl (a_pk Cq (by kernel_rfl)) (a_e (c_gl Cq (by kernel_rfl) (by kernel_rfl)) rfl))⟩)) rfl)) (fun _ => rfl))) ts_nil)) (List.cons_ne_nil _ _)) (ss_cons (s_ret (c_cst (by kernel_rfl))) ss_nil) ss_nil) (ss_cons (s_if (t_or (ts_cons (t_and (ts_cons (t_cmp (prim_eq C.g) rfl (a_e (c_ix C (fun _ _ => rfl) (a_pk C (by kernel_rfl)) (a_e (c_cst (by kernel_rfl)) rfl)) rfl) (a_e (c_cst (by kernel_rfl)) rfl)) (ts_cons (t_cmp (prim_ne C.g) rfl (a_pk C (by kernel_rfl)) (a_e (c_cst (by kernel_rfl)) rfl)) ts_nil)) (List.cons_ne_nil _ _)) (ts_cons (t_cmp (prim_gt C.g) rfl (a_e (c_callT C (prim_toint C.g) B_int (by kernel_rfl) (a_pk C (by kernel_rfl))) rfl) (a_pk C (by kernel_rfl))) ts_nil)) (List.cons_ne_nil _ _)) (ss_cons (s_ret (c_cst (by kernel_rfl))) ss_nil) ss_nil) (ss_cons (s_ret (c_callT C (prim_toint C.g) B_int (by kernel_rfl) (a_pk C (by kernel_rfl)))) ss_nil)))
theorem b_is_letter (C : CK LT W X Wx cl true n_is_letter (defScope (top 12)) k) (Cd : CD X) : OkSs LT W X Wx cl [] (defBody (top 12)) f_is_letter.body :=
  (ss_cons (s_if (t_not (t_val (c_isi C (by kernel_rfl) (by kernel_rfl) B_str (a_pk C (by kernel_rfl))) (fun _ => rfl))) (ss_cons (s_ret (c_cst (by kernel_rfl))) ss_nil) ss_nil) (ss_cons (s_setT C (tg_cons C (by kernel_rfl) (not_mem (by kernel_rfl)) (tg_cons C (by kernel_rfl) (not_mem (by kernel_rfl)) (tg_cons C (by kernel_rfl) (not_mem (by kernel_rfl)) tg_nil))) (fun _ => rfl) (fun _ _ => rfl) (c_strM (prim_partition C.g) F.slot_str_partition F.type_str_partition (by kernel_rfl) (c_var C (by kernel_rfl)) rfl (a_e (c_cst (by kernel_rfl)) rfl)) rfl) (ss_cons (s_ret (c_and (es_cons (c_call (fn := f_is_name) C (by kernel_rfl) (by kernel_rfl) (by kernel_rfl) (m_e (c_var C (by kernel_rfl)) rfl m_nil)) (es_cons (c_or (es_cons (c_cmp (prim_eq C.g) rfl (a_pk C (by kernel_rfl)) (a_e (c_cst (by kernel_rfl)) rfl)) (es_cons (c_isN (prim_notnone C.g) rfl (a_e (c_call (fn := f_figures_in) C (by kernel_rfl) (by kernel_rfl) (by kernel_rfl) (m_e (c_var C (by kernel_rfl)) rfl (m_e (c_gl C (by kernel_rfl) (by kernel_rfl)) rfl m_nil))) rfl)) es_nil)) (List.cons_ne_nil _ _)) es_nil)) (List.cons_ne_nil _ _))) ss_nil)))
theorem b_is_number (C : CK LT W X Wx cl true n_is_number (defScope (top 18)) k) (Cd : CD X) : OkSs LT W X Wx cl [] (defBody (top 18)) f_is_number.body :=
  (ss_cons (s_ret (c_and (es_cons (c_isi C (by kernel_rfl) (by kernel_rfl) B_int (a_pk C (by kernel_rfl))) (es_cons (c_not (c_isi C (by kernel_rfl) (by kernel_rfl) B_bool (a_pk C (by kernel_rfl)))) (es_cons (c_chain (prim_le C.g) (prim_le C.g) rfl (a_e (c_cst (by kernel_rfl)) rfl) (a_pk C (by kernel_rfl)) (a_pk C (by kernel_rfl))) es_nil))) (List.cons_ne_nil _ _))) ss_nil)
theorem b_are_places (C : CK LT W X Wx cl true n_are_places (defScope (top 19)) k) (Cd : CD X) : OkSs LT W X Wx cl [] (defBody (top 19)) f_are_places.body :=
  (ss_cons (s_if (t_or (ts_cons (t_not (t_val (c_isi C (by kernel_rfl) (by kernel_rfl) B_tuple (a_pk C (by kernel_rfl))) (fun _ => rfl))) (ts_cons (t_cmp (prim_gt C.g) rfl (a_e (c_callB C (prim_len C.g) B_len (by kernel_rfl) (a_pk C (by kernel_rfl))) rfl) (a_e (c_gl C (by kernel_rfl) (by kernel_rfl)) rfl)) ts_nil)) (List.cons_ne_nil _ _)) (ss_cons (s_ret (c_cst (by kernel_rfl))) ss_nil) ss_nil) (ss_cons (s_if (t_not (t_val (c_callB C (prim_all C.g) B_all (by kernel_rfl) (a_e (c_lc false C (blkB_ok (own := [("place", 3)]) (by kernel_rfl)) rfl (fun _ _ => rfl) (i_val C (c_var C (by kernel_rfl)) rfl) (.of_ fun XCq Cq => ⟨fun n => (g_nm Cq (by kernel_rfl) (not_pinC (by kernel_rfl))), q_nil, (c_call (fn := f_is_number) Cq (by kernel_rfl) (by kernel_rfl) (by kernel_rfl) (m_e (c_var Cq (by kernel_rfl)) rfl (m_e (c_gl Cq (by kernel_rfl) (by kernel_rfl)) rfl m_nil)))⟩)) rfl)) (fun _ => rfl))) (ss_cons (s_ret (c_cst (by kernel_rfl))) ss_nil) ss_nil) (ss_cons (s_ret (c_callB C (prim_all C.g) B_all (by kernel_rfl) (a_e (c_lc true C (blkB_ok (own := [("one", 1), ("other", 2)]) (by kernel_rfl)) rfl (fun _ _ => rfl) (i_zip C (by kernel_rfl) (by kernel_rfl) (c_var C (by kernel_rfl)) rfl (c_slc C (a_pk C (by kernel_rfl)) (o_some (a_e (c_cst (by kernel_rfl)) rfl)) o_none) rfl) (.of_ fun XCq Cq => ⟨fun n => (g_tup Cq (tg_cons Cq (by kernel_rfl) (not_pinC (by kernel_rfl)) (tg_cons Cq (by kernel_rfl) (not_pinC (by kernel_rfl)) tg_nil))), q_nil, (c_cmp (prim_lt Cq.g) rfl (a_pk Cq (by kernel_rfl)) (a_pk Cq (by kernel_rfl)))⟩)) rfl))) ss_nil)))
theorem b_is_road (C : CK LT W X Wx cl true n_is_road (defScope (top 20)) k) (Cd : CD X) : OkSs LT W X Wx cl [] (defBody (top 20)) f_is_road.body :=
  (ss_cons (s_if (t_or (ts_cons (t_not (t_val (c_isi C (by kernel_rfl) (by kernel_rfl) B_tuple (a_pk C (by kernel_rfl))) (fun _ => rfl))) (ts_cons (t_cmp (prim_ne C.g) rfl (a_e (c_callB C (prim_len C.g) B_len (by kernel_rfl) (a_pk C (by kernel_rfl))) rfl) (a_e (c_cst (by kernel_rfl)) rfl)) (ts_cons (t_not (t_val (c_call (fn := f_is_letter) C (by kernel_rfl) (by kernel_rfl) (by kernel_rfl) (m_e (c_ix C (fun _ _ => rfl) (a_pk C (by kernel_rfl)) (a_e (c_cst (by kernel_rfl)) rfl)) rfl m_nil)) (fun _ => rfl))) ts_nil))) (List.cons_ne_nil _ _)) (ss_cons (s_ret (c_cst (by kernel_rfl))) ss_nil) ss_nil) (ss_cons (s_if (t_not (t_val (c_callB C (prim_all C.g) B_all (by kernel_rfl) (a_e (c_lc false C (blkB_ok (own := [("place", 2)]) (by kernel_rfl)) rfl (fun _ _ => rfl) (i_val C (c_slc C (a_pk C (by kernel_rfl)) (o_some (a_e (c_cst (by kernel_rfl)) rfl)) (o_some (a_e (c_cst (by kernel_rfl)) rfl))) rfl) (.of_ fun XCq Cq => ⟨fun n => (g_nm Cq (by kernel_rfl) (not_pinC (by kernel_rfl))), q_nil, (c_and (es_cons (c_call (fn := f_is_number) Cq (by kernel_rfl) (by kernel_rfl) (by kernel_rfl) (m_e (c_var Cq (by kernel_rfl)) rfl (m_e (c_gl Cq (by kernel_rfl) (by kernel_rfl)) rfl m_nil))) (es_cons (c_cmp (prim_isin Cq.g) rfl (a_pk Cq (by kernel_rfl)) (a_pk Cq (by kernel_rfl))) es_nil)) (List.cons_ne_nil _ _))⟩)) rfl)) (fun _ => rfl))) (ss_cons (s_ret (c_cst (by kernel_rfl))) ss_nil) ss_nil) (ss_cons (s_ret (c_call (fn := f_is_number) C (by kernel_rfl) (by kernel_rfl) (by kernel_rfl) (m_e (c_ix C (fun _ _ => rfl) (a_pk C (by kernel_rfl)) (a_e (c_cst (by kernel_rfl)) rfl)) rfl (m_e (c_gl C (by kernel_rfl) (by kernel_rfl)) rfl m_nil)))) ss_nil)))
theorem b_is_net (C : CK LT W X Wx cl true n_is_net (defScope (top 21)) k) (Cd : CD X) : OkSs LT W X Wx cl [] (defBody (top 21)) f_is_net.body :=
  (ss_cons (s_if (t_or (ts_cons (t_not (t_val (c_isi C (by kernel_rfl) (by kernel_rfl) B_tuple (a_pk C (by kernel_rfl))) (fun _ => rfl))) (ts_cons (t_cmp (prim_ne C.g) rfl (a_e (c_callB C (prim_len C.g) B_len (by kernel_rfl) (a_pk C (by kernel_rfl))) rfl) (a_e (c_cst (by kernel_rfl)) rfl)) (ts_cons (t_not (t_val (c_call (fn := f_are_places) C (by kernel_rfl) (by kernel_rfl) (by kernel_rfl) (m_e (c_ix C (fun _ _ => rfl) (a_pk C (by kernel_rfl)) (a_e (c_cst (by kernel_rfl)) rfl)) rfl m_nil)) (fun _ => rfl))) ts_nil))) (List.cons_ne_nil _ _)) (ss_cons (s_ret (c_cst (by kernel_rfl))) ss_nil) ss_nil) (ss_cons (s_setT C (tg_cons C (by kernel_rfl) (not_mem (by kernel_rfl)) (tg_cons C (by kernel_rfl) (not_mem (by kernel_rfl)) tg_nil)) (fun _ => rfl) (fun _ _ => rfl) (c_var C (by kernel_rfl)) rfl) (ss_cons (s_if (t_or (ts_cons (t_not (t_val (c_isi C (by kernel_rfl) (by kernel_rfl) B_tuple (a_pk C (by kernel_rfl))) (fun _ => rfl))) (ts_cons (t_cmp (prim_gt C.g) rfl (a_e (c_callB C (prim_len C.g) B_len (by kernel_rfl) (a_pk C (by kernel_rfl))) rfl) (a_e (c_gl C (by kernel_rfl) (by kernel_rfl)) rfl)) ts_nil)) (List.cons_ne_nil _ _)) (ss_cons (s_ret (c_cst (by kernel_rfl))) ss_nil) ss_nil) (ss_cons (s_if (t_not (t_val (c_callB C (prim_all C.g) B_all (by kernel_rfl) (a_e (c_lc false C (blkB_ok (own := [("road", 5)]) (by kernel_rfl)) rfl (fun _ _ => rfl) (i_val C (c_var C (by kernel_rfl)) rfl) (.of_ fun XCq Cq => ⟨fun n => (g_nm Cq (by kernel_rfl) (not_pinC (by kernel_rfl))), q_nil, (c_call (fn := f_is_road) Cq (by kernel_rfl) (by kernel_rfl) (by kernel_rfl) (m_e (c_var Cq (by kernel_rfl)) rfl (m_e (c_var Cq (by kernel_rfl)) rfl m_nil)))⟩)) rfl)) (fun _ => rfl))) (ss_cons (s_ret (c_cst (by kernel_rfl))) ss_nil) ss_nil) (ss_cons (s_ret (c_callB C (prim_all C.g) B_all (by kernel_rfl) (a_e (c_lc true C (blkB_ok (own := [("one", 3), ("other", 4)]) (by kernel_rfl)) rfl (fun _ _ => rfl) (i_zip C (by kernel_rfl) (by kernel_rfl) (c_var C (by kernel_rfl)) rfl (c_slc C (a_pk C (by kernel_rfl)) (o_some (a_e (c_cst (by kernel_rfl)) rfl)) o_none) rfl) (.of_ fun XCq Cq => ⟨fun n => (g_tup Cq (tg_cons Cq (by kernel_rfl) (not_pinC (by kernel_rfl)) (tg_cons Cq (by kernel_rfl) (not_pinC (by kernel_rfl)) tg_nil))), q_nil, (c_cmp (prim_le Cq.g) rfl (a_pk Cq (by kernel_rfl)) (a_pk Cq (by kernel_rfl)))⟩)) rfl))) ss_nil)))))
theorem b_need_net (C : CK LT W X Wx cl true n_need_net (defScope (top 22)) k) (Cd : CD X) : OkSs LT W X Wx cl [] (defBody (top 22)) f_need_net.body :=
  (ss_cons (s_if (t_not (t_val (c_call (fn := f_is_net) C (by kernel_rfl) (by kernel_rfl) (by kernel_rfl) (m_e (c_var C (by kernel_rfl)) rfl m_nil)) (fun _ => rfl))) (ss_cons (s_raise0 C (by kernel_rfl) (by kernel_rfl)) ss_nil) ss_nil) ss_nil)
theorem b_with_road (C : CK LT W X Wx cl true n_with_road (defScope (top 23)) k) (Cd : CD X) : OkSs LT W X Wx cl [] (defBody (top 23)) f_with_road.body :=
  (ss_cons (s_expr (fun _ => rfl) (c_call (fn := f_need_net) C (by kernel_rfl) (by kernel_rfl) (by kernel_rfl) (m_e (c_var C (by kernel_rfl)) rfl m_nil))) (ss_cons (s_if (t_not (t_val (c_call (fn := f_is_road) C (by kernel_rfl) (by kernel_rfl) (by kernel_rfl) (m_e (c_ix C (fun _ _ => rfl) (a_pk C (by kernel_rfl)) (a_e (c_cst (by kernel_rfl)) rfl)) rfl (m_e (c_var C (by kernel_rfl)) rfl m_nil))) (fun _ => rfl))) (ss_cons (s_raise0 C (by kernel_rfl) (by kernel_rfl)) ss_nil) ss_nil) (ss_cons (s_if (t_cmp (prim_eq C.g) rfl (a_e (c_callB C (prim_len C.g) B_len (by kernel_rfl) (a_e (c_ix C (fun _ _ => rfl) (a_pk C (by kernel_rfl)) (a_e (c_cst (by kernel_rfl)) rfl)) rfl)) rfl) (a_e (c_gl C (by kernel_rfl) (by kernel_rfl)) rfl)) (ss_cons (s_raiseF C (by kernel_rfl) (by kernel_rfl) (by kernel_rfl) (as_cons (a_e (c_gl C (by kernel_rfl) (by kernel_rfl)) rfl) as_nil)) ss_nil) ss_nil) (ss_cons (s_ret (c_tup (as_cons (a_e (c_ix C (fun _ _ => rfl) (a_pk C (by kernel_rfl)) (a_e (c_cst (by kernel_rfl)) rfl)) rfl) (as_cons (a_e (c_callT C (prim_tuple C.g) B_tuple (by kernel_rfl) (a_e (c_callB C (prim_sorted C.g) B_sorted (by kernel_rfl) (a_e (c_bin (prim_add C.g) (a_e (c_ix C (fun _ _ => rfl) (a_pk C (by kernel_rfl)) (a_e (c_cst (by kernel_rfl)) rfl)) rfl) (a_e (c_tup (as_cons (a_e (c_var C (by kernel_rfl)) rfl) as_nil) (by kernel_rfl)) rfl)) rfl)) rfl)) rfl) as_nil)) (by kernel_rfl))) ss_nil))))
theorem b_without_road (C : CK LT W X Wx cl true n_without_road (defScope (top 24)) k) (Cd : CD X) : OkSs LT W X Wx cl [] (defBody (top 24)) f_without_road.body :=
  (ss_cons (s_expr (fun _ => rfl) (c_call (fn := f_need_net) C (by kernel_rfl) (by kernel_rfl) (by kernel_rfl) (m_e (c_var C (by kernel_rfl)) rfl m_nil))) (ss_cons (s_if (t_or (ts_cons (t_not (t_val (c_call (fn := f_is_road) C (by kernel_rfl) (by kernel_rfl) (by kernel_rfl) (m_e (c_ix C (fun _ _ => rfl) (a_pk C (by kernel_rfl)) (a_e (c_cst (by kernel_rfl)) rfl)) rfl (m_e (c_var C (by kernel_rfl)) rfl m_nil))) (fun _ => rfl))) (ts_cons (t_cmp (prim_notin C.g) rfl (a_pk C (by kernel_rfl)) (a_e (c_ix C (fun _ _ => rfl) (a_pk C (by kernel_rfl)) (a_e (c_cst (by kernel_rfl)) rfl)) rfl)) ts_nil)) (List.cons_ne_nil _ _)) (ss_cons (s_raise0 C (by kernel_rfl) (by kernel_rfl)) ss_nil) ss_nil) (ss_cons (s_set C (by kernel_rfl) (fun _ _ => rfl) (c_index C (by kernel_rfl) (c_ix C (fun _ _ => rfl) (a_pk C (by kernel_rfl)) (a_e (c_cst (by kernel_rfl)) rfl)) rfl (a_pk C (by kernel_rfl)))) (ss_cons (s_ret (c_tup (as_cons (a_e (c_ix C (fun _ _ => rfl) (a_pk C (by kernel_rfl)) (a_e (c_cst (by kernel_rfl)) rfl)) rfl) (as_cons (a_e (c_bin (prim_add C.g) (a_e (c_slc C (a_e (c_ix C (fun _ _ => rfl) (a_pk C (by kernel_rfl)) (a_e (c_cst (by kernel_rfl)) rfl)) rfl) o_none (o_some (a_pk C (by kernel_rfl)))) rfl) (a_e (c_slc C (a_e (c_ix C (fun _ _ => rfl) (a_pk C (by kernel_rfl)) (a_e (c_cst (by kernel_rfl)) rfl)) rfl) (o_some (a_e (c_bin (prim_add C.g) (a_pk C (by kernel_rfl)) (a_e (c_cst (by kernel_rfl)) rfl)) rfl)) o_none) rfl)) rfl) as_nil)) (by kernel_rfl))) ss_nil))))
theorem b__law_spread (C : CK LT W X Wx cl true n__law_spread (defScope (top 26)) k) (Cd : CD X) : OkSs LT W X Wx cl [] (defBody (top 26)) f__law_spread.body :=
  (ss_cons (s_set C (by kernel_rfl) (fun _ _ => rfl) (c_cst (by kernel_rfl))) (ss_cons (s_set C (by kernel_rfl) (fun _ _ => rfl) (c_bin (prim_mod C.g) (a_e (c_callT C (prim_toint C.g) B_int (by kernel_rfl) (a_e (c_bin (prim_add C.g) (a_e (c_bin (prim_add C.g) (a_e (c_bin (prim_mul C.g) (a_pk C (by kernel_rfl)) (a_e (c_cst (by kernel_rfl)) rfl)) rfl) (a_e (c_bin (prim_mul C.g) (a_pk C (by kernel_rfl)) (a_e (c_cst (by kernel_rfl)) rfl)) rfl)) rfl) (a_e (c_cst (by kernel_rfl)) rfl)) rfl)) rfl) (a_pk C (by kernel_rfl)))) (ss_cons (s_for false C (fun _ _ => rfl) (i_range1 C (by kernel_rfl) (c_cst (by kernel_rfl)) rfl) (g_nm C (by kernel_rfl) (not_mem (by kernel_rfl))) (ss_cons (s_set C (by kernel_rfl) (fun _ _ => rfl) (c_bin (prim_mod C.g) (a_e (c_callT C (prim_toint C.g) B_int (by kernel_rfl) (a_e (c_bin (prim_add C.g) (a_e (c_bin (prim_add C.g) (a_e (c_bin (prim_add C.g) (a_e (c_bin (prim_mul C.g) (a_pk C (by kernel_rfl)) (a_pk C (by kernel_rfl))) rfl) (a_e (c_bin (prim_mul C.g) (a_e (c_cst (by kernel_rfl)) rfl) (a_pk C (by kernel_rfl))) rfl)) rfl) (a_e (c_bin (prim_mul C.g) (a_e (c_cst (by kernel_rfl)) rfl) (a_pk C (by kernel_rfl))) rfl)) rfl) (a_pk C (by kernel_rfl))) rfl)) rfl) (a_pk C (by kernel_rfl)))) ss_nil)) (ss_cons (s_ret (c_bin (prim_add C.g) (a_e (c_bin (prim_mul C.g) (a_pk C (by kernel_rfl)) (a_pk C (by kernel_rfl))) rfl) (a_e (c_bin (prim_mod C.g) (a_e (c_callT C (prim_toint C.g) B_int (by kernel_rfl) (a_e (c_bin (prim_add C.g) (a_e (c_bin (prim_mul C.g) (a_pk C (by kernel_rfl)) (a_e (c_cst (by kernel_rfl)) rfl)) rfl) (a_pk C (by kernel_rfl))) rfl)) rfl) (a_pk C (by kernel_rfl))) rfl))) ss_nil))))
theorem b__law_spring (C : CK LT W X Wx cl true n__law_spring (defScope (top 27)) k) (Cd : CD X) : OkSs LT W X Wx cl [] (defBody (top 27)) f__law_spring.body :=
  (ss_cons (s_setLc false C (by kernel_rfl) (fun env h => by cases env; cases h; kernel_rfl) (blkB_ok (own := [("_law_one", 3)]) (by kernel_rfl)) rfl (fun _ _ => rfl) (i_val C (c_scut C (by kernel_rfl) (fun _ _ _ q => tpart_none q) (fun _ _ _ q => tpart_int q) rfl rfl) rfl) (.of_ fun XCq Cq => ⟨fun n => (g_nm Cq (by kernel_rfl) (not_pinC (by kernel_rfl))), q_nil, (c_callB Cq (prim_abs Cq.g) B_abs (by kernel_rfl) (a_pk Cq (by kernel_rfl)))⟩)) (ss_cons (s_for true C (fun _ _ => rfl) (i_enum C (by kernel_rfl) (c_scut C (by kernel_rfl) (fun _ _ _ q => tpart_int q) (fun _ _ _ q => tpart_int q) rfl rfl) rfl) (g_tup C (tg_cons C (by kernel_rfl) (not_mem (by kernel_rfl)) (tg_cons C (by kernel_rfl) (not_mem (by kernel_rfl)) tg_nil))) (ss_cons (s_setIx C (by kernel_rfl) (c_bin (prim_add C.g) (a_e (c_ix C (fun _ _ => rfl) (a_pk C (by kernel_rfl)) (a_e (c_bin (prim_mod C.g) (a_e (c_callT C (prim_toint C.g) B_int (by kernel_rfl) (a_pk C (by kernel_rfl))) rfl) (a_e (c_cst (by kernel_rfl)) rfl)) rfl)) rfl) (a_e (c_callB C (prim_abs C.g) B_abs (by kernel_rfl) (a_pk C (by kernel_rfl))) rfl)) (a_e (c_bin (prim_mod C.g) (a_e (c_callT C (prim_toint C.g) B_int (by kernel_rfl) (a_pk C (by kernel_rfl))) rfl) (a_e (c_cst (by kernel_rfl)) rfl)) rfl) (fun _ => rfl) (fun _ => rfl) (fun _ _ => rfl)) ss_nil)) (ss_cons (s_ret (c_lst (as_cons (a_e (c_var C (by kernel_rfl)) rfl) (as_cons (a_e (c_cst (by kernel_rfl)) rfl) (as_cons (a_e (c_cst (by kernel_rfl)) rfl) as_nil))) (by kernel_rfl))) ss_nil)))
theorem b__law_under (C : CK LT W X Wx cl true n__law_under (defScope (top 28)) k) (Cd : CD X) : OkSs LT W X Wx cl [0] (defBody (top 28)) f__law_under.body :=
  (ss_cons (s_if (t_cmp (prim_lt C.g) rfl (a_e (c_ix C (fun _ _ => rfl) (a_pk C (by kernel_rfl)) (a_e (c_cst (by kernel_rfl)) rfl)) rfl) (a_pk C (by kernel_rfl))) (ss_cons (s_par2 C (by kernel_rfl) (by kernel_rfl) (fun env h => by cases env; cases h; kernel_rfl) (fun _ => rfl) (es_cons (c_ix C (fun _ _ => rfl) (a_pk C (by kernel_rfl)) (a_e (c_cst (by kernel_rfl)) rfl)) (es_cons (c_ix C (fun _ _ => rfl) (a_pk C (by kernel_rfl)) (a_e (c_cst (by kernel_rfl)) rfl)) es_nil))) (ss_cons (s_set C (by kernel_rfl) (fun _ _ => rfl) (c_ife (t_cmp (prim_ne C.g) rfl (a_pk C (by kernel_rfl)) (a_e (c_lst as_nil (by kernel_rfl)) rfl)) (c_ix C (fun _ _ => rfl) (a_pk C (by kernel_rfl)) (a_e (c_bin (prim_mod C.g) (a_e (c_callT C (prim_toint C.g) B_int (by kernel_rfl) (a_pk C (by kernel_rfl))) rfl) (a_e (c_callB C (prim_len C.g) B_len (by kernel_rfl) (a_pk C (by kernel_rfl))) rfl)) rfl)) (c_cst (by kernel_rfl)))) (ss_cons (s_if (t_or (ts_cons (t_cmp (prim_lt C.g) rfl (a_pk C (by kernel_rfl)) (a_e (c_bin (prim_pow C.g) (a_e (c_cst (by kernel_rfl)) rfl) (a_e (c_cst (by kernel_rfl)) rfl)) rfl)) (ts_cons (t_cmp (prim_ge C.g) rfl (a_pk C (by kernel_rfl)) (a_e (c_callB C (prim_len C.g) B_len (by kernel_rfl) (a_pk C (by kernel_rfl))) rfl)) ts_nil)) (List.cons_ne_nil _ _)) (ss_cons (s_set C (by kernel_rfl) (fun _ _ => rfl) (c_call (fn := f__law_spread) C (by kernel_rfl) (by kernel_rfl) (by kernel_rfl) (m_e (c_bin (prim_add C.g) (a_e (c_bin (prim_mod C.g) (a_e (c_callT C (prim_toint C.g) B_int (by kernel_rfl) (a_pk C (by kernel_rfl))) rfl) (a_e (c_bin (prim_pow C.g) (a_e (c_cst (by kernel_rfl)) rfl) (a_e (c_cst (by kernel_rfl)) rfl)) rfl)) rfl) (a_e (c_bin (prim_fdiv C.g) (a_pk C (by kernel_rfl)) (a_e (c_bin (prim_add C.g) (a_e (c_callB C (prim_len C.g) B_len (by kernel_rfl) (a_pk C (by kernel_rfl))) rfl) (a_e (c_cst (by kernel_rfl)) rfl)) rfl)) rfl)) rfl (m_e (c_var C (by kernel_rfl)) rfl m_nil)))) ss_nil) ss_nil) (ss_cons (s_setIx C (by kernel_rfl) (c_bin (prim_add C.g) (a_pk C (by kernel_rfl)) (a_e (c_cst (by kernel_rfl)) rfl)) (a_e (c_cst (by kernel_rfl)) rfl) (fun _ => rfl) (fun _ => rfl) (fun _ _ => rfl)) (ss_cons (s_setIx C (by kernel_rfl) (c_var C (by kernel_rfl)) (a_e (c_cst (by kernel_rfl)) rfl) (fun _ => rfl) (fun _ => rfl) (fun _ _ => rfl)) ss_nil))))) ss_nil) (ss_cons (s_set C (by kernel_rfl) (fun _ _ => rfl) (c_bin (prim_mod C.g) (a_e (c_callT C (prim_toint C.g) B_int (by kernel_rfl) (a_e (c_ix C (fun _ _ => rfl) (a_pk C (by kernel_rfl)) (a_e (c_cst (by kernel_rfl)) rfl)) rfl)) rfl) (a_pk C (by kernel_rfl)))) (ss_cons (s_setIx C (by kernel_rfl) (c_bin (prim_fdiv C.g) (a_e (c_ix C (fun _ _ => rfl) (a_pk C (by kernel_rfl)) (a_e (c_cst (by kernel_rfl)) rfl)) rfl) (a_pk C (by kernel_rfl))) (a_e (c_cst (by kernel_rfl)) rfl) (fun _ => rfl) (fun _ => rfl) (fun _ _ => rfl)) (ss_cons (s_ret (c_var C (by kernel_rfl))) ss_nil))))
theorem b__law_any (C : CK LT W X Wx cl true n__law_any (defScope (top 29)) k) (Cd : CD X) : OkSs LT W X Wx cl [0] (defBody (top 29)) f__law_any.body :=
  (ss_cons (s_ret (c_ix C (fun _ _ => rfl) (a_pk C (by kernel_rfl)) (a_e (c_call (fn := f__law_under) C (by kernel_rfl) (by kernel_rfl) (by kernel_rfl) (m_mt C (by kernel_rfl) (m_e (c_callB C (prim_len C.g) B_len (by kernel_rfl) (a_pk C (by kernel_rfl))) rfl m_nil))) rfl))) ss_nil)
theorem b__law_alike (C : CK LT W X Wx cl true n__law_alike (defScope (top 30)) k) (Cd : CD X) : OkSs LT W X Wx cl [] (defBody (top 30)) f__law_alike.body :=
  (ss_cons (s_ret (c_cmp (prim_eq C.g) rfl (a_e (c_callB C (prim_repr C.g) B_repr (by kernel_rfl) (a_pk C (by kernel_rfl))) rfl) (a_e (c_callB C (prim_repr C.g) B_repr (by kernel_rfl) (a_pk C (by kernel_rfl))) rfl))) ss_nil)
theorem b__law_some_net (C : CK LT W X Wx cl true n__law_some_net (defScope (top 31)) k) (Cd : CD X) : OkSs LT W X Wx cl [0] (defBody (top 31)) f__law_some_net.body :=
  (ss_cons (s_set C (by kernel_rfl) (fun _ _ => rfl) (c_sortset C (by kernel_rfl) (by kernel_rfl) (a_e (c_lc false C (blkB_ok (own := [("_law_k", 6)]) (by kernel_rfl)) rfl (fun _ _ => rfl) (i_range1 C (by kernel_rfl) (c_bin (prim_add C.g) (a_e (c_cst (by kernel_rfl)) rfl) (a_e (c_call (fn := f__law_under) C (by kernel_rfl) (by kernel_rfl) (by kernel_rfl) (m_mt C (by kernel_rfl) (m_e (c_var C (by kernel_rfl)) rfl m_nil))) rfl)) rfl) (.of_ fun XCq Cq => ⟨fun n => (g_nm Cq (by kernel_rfl) (not_pinC (by kernel_rfl))), q_nil, (c_call (fn := f__law_any) Cq (by kernel_rfl) (by kernel_rfl) (by kernel_rfl) (m_mt Cq (by kernel_rfl) (m_e (c_lst (as_cons (a_e (c_cst (by kernel_rfl)) rfl) (as_cons (a_e (c_cst (by kernel_rfl)) rfl) (as_cons (a_e (c_cst (by kernel_rfl)) rfl) (as_cons (a_e (c_cst (by kernel_rfl)) rfl) (as_cons (a_e (c_bin (prim_pow Cq.g) (a_e (c_cst (by kernel_rfl)) rfl) (a_e (c_cst (by kernel_rfl)) rfl)) rfl) as_nil))))) (by kernel_rfl)) rfl m_nil)))⟩)) rfl))) (ss_cons (s_set C (by kernel_rfl) (fun _ _ => rfl) (c_lst as_nil (by kernel_rfl))) (ss_cons (s_for false C (fun _ _ => rfl) (i_range1 C (by kernel_rfl) (c_call (fn := f__law_under) C (by kernel_rfl) (by kernel_rfl) (by kernel_rfl) (m_mt C (by kernel_rfl) (m_e (c_bin (prim_add C.g) (a_pk C (by kernel_rfl)) (a_e (c_cst (by kernel_rfl)) rfl)) rfl m_nil))) rfl) (g_nm C (by kernel_rfl) (not_mem (by kernel_rfl))) (ss_cons (s_set C (by kernel_rfl) (fun _ _ => rfl) (c_tup (as_cons (a_e (c_call (fn := f__law_any) C (by kernel_rfl) (by kernel_rfl) (by kernel_rfl) (m_mt C (by kernel_rfl) (m_e (c_var C (by kernel_rfl)) rfl m_nil))) rfl) (as_cons (a_e (c_call (fn := f__law_any) C (by kernel_rfl) (by kernel_rfl) (by kernel_rfl) (m_mt C (by kernel_rfl) (m_e (c_var C (by kernel_rfl)) rfl m_nil))) rfl) (as_cons (a_e (c_call (fn := f__law_any) C (by kernel_rfl) (by kernel_rfl) (by kernel_rfl) (m_mt C (by kernel_rfl) (m_e (c_var C (by kernel_rfl)) rfl m_nil))) rfl) as_nil))) (by kernel_rfl))) (ss_cons (s_mut C (mut_append C.g) F.slot_list_append F.type_list_append (by kernel_rfl) (by kernel_rfl) (fun _ => rfl) (as_cons (a_e (c_bin (prim_add C.g) (a_pk C (by kernel_rfl)) (a_e (c_tup (as_cons (a_e (c_call (fn := f__law_any) C (by kernel_rfl) (by kernel_rfl) (by kernel_rfl) (m_mt C (by kernel_rfl) (m_e (c_lst (as_cons (a_e (c_cst (by kernel_rfl)) rfl) (as_cons (a_e (c_cst (by kernel_rfl)) rfl) (as_cons (a_e (c_cst (by kernel_rfl)) rfl) (as_cons (a_e (c_cst (by kernel_rfl)) rfl) (as_cons (a_e (c_bin (prim_pow C.g) (a_e (c_cst (by kernel_rfl)) rfl) (a_e (c_cst (by kernel_rfl)) rfl)) rfl) as_nil))))) (by kernel_rfl)) rfl m_nil))) rfl) as_nil) (by kernel_rfl)) rfl)) rfl) as_nil)) (ss_cons (s_if (t_cmp (prim_eq C.g) rfl (a_e (c_call (fn := f__law_under) C (by kernel_rfl) (by kernel_rfl) (by kernel_rfl) (m_mt C (by kernel_rfl) (m_e (c_cst (by kernel_rfl)) rfl m_nil))) rfl) (a_e (c_cst (by kernel_rfl)) rfl)) (ss_cons (s_mut C (mut_append C.g) F.slot_list_append F.type_list_append (by kernel_rfl) (by kernel_rfl) (fun _ => rfl) (as_cons (a_e (c_ix C (fun _ _ => rfl) (a_pk C (by kernel_rfl)) (a_e (c_un (prim_neg C.g) (a_e (c_cst (by kernel_rfl)) rfl)) rfl)) rfl) as_nil)) ss_nil) ss_nil) ss_nil)))) (ss_cons (s_ret (c_tup (as_cons (a_e (c_callT C (prim_tuple C.g) B_tuple (by kernel_rfl) (a_pk C (by kernel_rfl))) rfl) (as_cons (a_e (c_callT C (prim_tuple C.g) B_tuple (by kernel_rfl) (a_e (c_callB C (prim_sorted C.g) B_sorted (by kernel_rfl) (a_pk C (by kernel_rfl))) rfl)) rfl) as_nil)) (by kernel_rfl))) ss_nil))))
theorem b__law_bent (C : CK LT W X Wx cl true n__law_bent (defScope (top 32)) k) (Cd : CD X) : OkSs LT W X Wx cl [0] (defBody (top 32)) f__law_bent.body :=
  (ss_cons (s_if (t_and (ts_cons (t_val (c_isi C (by kernel_rfl) (by kernel_rfl) B_tuple (a_pk C (by kernel_rfl))) (fun _ => rfl)) (ts_cons (t_cmp (prim_ne C.g) rfl (a_pk C (by kernel_rfl)) (a_e (c_tup as_nil (by kernel_rfl)) rfl)) (ts_cons (t_cmp (prim_gt C.g) rfl (a_e (c_call (fn := f__law_under) C (by kernel_rfl) (by kernel_rfl) (by kernel_rfl) (m_mt C (by kernel_rfl) (m_e (c_cst (by kernel_rfl)) rfl m_nil))) rfl) (a_e (c_cst (by kernel_rfl)) rfl)) ts_nil))) (List.cons_ne_nil _ _)) (ss_cons (s_set C (by kernel_rfl) (fun _ _ => rfl) (c_call (fn := f__law_under) C (by kernel_rfl) (by kernel_rfl) (by kernel_rfl) (m_mt C (by kernel_rfl) (m_e (c_callB C (prim_len C.g) B_len (by kernel_rfl) (a_pk C (by kernel_rfl))) rfl m_nil)))) (ss_cons (s_ret (c_bin (prim_add C.g) (a_e (c_bin (prim_add C.g) (a_e (c_slc C (a_pk C (by kernel_rfl)) o_none (o_some (a_pk C (by kernel_rfl)))) rfl) (a_e (c_tup (as_cons (a_e (c_call (fn := f__law_bent) C (by kernel_rfl) (by kernel_rfl) (by kernel_rfl) (m_mt C (by kernel_rfl) (m_e (c_ix C (fun _ _ => rfl) (a_pk C (by kernel_rfl)) (a_pk C (by kernel_rfl))) rfl (m_e (c_var C (by kernel_rfl)) rfl m_nil)))) rfl) as_nil) (by kernel_rfl)) rfl)) rfl) (a_e (c_slc C (a_pk C (by kernel_rfl)) (o_some (a_e (c_bin (prim_add C.g) (a_pk C (by kernel_rfl)) (a_e (c_cst (by kernel_rfl)) rfl)) rfl)) o_none) rfl))) ss_nil)) ss_nil) (ss_cons (s_set C (by kernel_rfl) (fun _ _ => rfl) (c_bin (prim_add C.g) (a_e (c_lst (as_cons (a_e (c_cst (by kernel_rfl)) rfl) (as_cons (a_e (c_cst (by kernel_rfl)) rfl) (as_cons (a_e (c_cst (by kernel_rfl)) rfl) (as_cons (a_e (c_cst (by kernel_rfl)) rfl) (as_cons (a_e (c_cst (by kernel_rfl)) rfl) (as_cons (a_e (c_cst (by kernel_rfl)) rfl) (as_cons (a_e (c_cst (by kernel_rfl)) rfl) (as_cons (a_e (c_tup as_nil (by kernel_rfl)) rfl) (as_cons (a_e (c_lst as_nil (by kernel_rfl)) rfl) (as_cons (a_e c_dct0 rfl) (as_cons (a_e (c_tup (as_cons (a_e (c_lst as_nil (by kernel_rfl)) rfl) as_nil) (by kernel_rfl)) rfl) (as_cons (a_e (c_var C (by kernel_rfl)) rfl) (as_cons (a_e (c_tup (as_cons (a_e (c_var C (by kernel_rfl)) rfl) as_nil) (by kernel_rfl)) rfl) as_nil))))))))))))) (by kernel_rfl)) rfl) (a_pk C (by kernel_rfl)))) (ss_cons (s_if (t_val (c_isi C (by kernel_rfl) (by kernel_rfl) B_tuple (a_pk C (by kernel_rfl))) (fun _ => rfl)) (ss_cons (s_set C (by kernel_rfl) (fun _ _ => rfl) (c_bin (prim_add C.g) (a_pk C (by kernel_rfl)) (a_e (c_lst (as_cons (a_e (c_slc C (a_pk C (by kernel_rfl)) (o_some (a_e (c_cst (by kernel_rfl)) rfl)) o_none) rfl) (as_cons (a_e (c_slc C (a_pk C (by kernel_rfl)) o_none (o_some (a_e (c_un (prim_neg C.g) (a_e (c_cst (by kernel_rfl)) rfl)) rfl))) rfl) (as_cons (a_e (c_bin (prim_add C.g) (a_pk C (by kernel_rfl)) (a_e (c_slc C (a_pk C (by kernel_rfl)) (o_some (a_e (c_un (prim_neg C.g) (a_e (c_cst (by kernel_rfl)) rfl)) rfl)) o_none) rfl)) rfl) (as_cons (a_e (c_rev C (a_pk C (by kernel_rfl))) rfl) (as_cons (a_e (c_callT C (prim_list C.g) B_list (by kernel_rfl) (a_pk C (by kernel_rfl))) rfl) (as_cons (a_e (c_bin (prim_add C.g) (a_pk C (by kernel_rfl)) (a_e (c_tup (as_cons (a_e (c_cst (by kernel_rfl)) rfl) as_nil) (by kernel_rfl)) rfl)) rfl) as_nil)))))) (by kernel_rfl)) rfl))) ss_nil) ss_nil) (ss_cons (s_if (t_val (c_isi C (by kernel_rfl) (by kernel_rfl) B_int (a_pk C (by kernel_rfl))) (fun _ => rfl)) (ss_cons (s_set C (by kernel_rfl) (fun _ _ => rfl) (c_bin (prim_add C.g) (a_pk C (by kernel_rfl)) (a_e (c_lst (as_cons (a_e (c_bin (prim_add C.g) (a_pk C (by kernel_rfl)) (a_e (c_cst (by kernel_rfl)) rfl)) rfl) (as_cons (a_e (c_bin (prim_sub C.g) (a_pk C (by kernel_rfl)) (a_e (c_cst (by kernel_rfl)) rfl)) rfl) (as_cons (a_e (c_bin (prim_sub C.g) (a_e (c_cst (by kernel_rfl)) rfl) (a_pk C (by kernel_rfl))) rfl) (as_cons (a_e (c_cmp (prim_eq C.g) rfl (a_pk C (by kernel_rfl)) (a_e (c_cst (by kernel_rfl)) rfl)) rfl) (as_cons (a_e (c_callT C (prim_tostr C.g) B_str (by kernel_rfl) (a_pk C (by kernel_rfl))) rfl) as_nil))))) (by kernel_rfl)) rfl))) ss_nil) ss_nil) (ss_cons (s_if (t_val (c_isi C (by kernel_rfl) (by kernel_rfl) B_str (a_pk C (by kernel_rfl))) (fun _ => rfl)) (ss_cons (s_set C (by kernel_rfl) (fun _ _ => rfl) (c_bin (prim_add C.g) (a_pk C (by kernel_rfl)) (a_e (c_lst (as_cons (a_e (c_bin (prim_add C.g) (a_pk C (by kernel_rfl)) (a_e (c_cst (by kernel_rfl)) rfl)) rfl) (as_cons (a_e (c_bin (prim_add C.g) (a_pk C (by kernel_rfl)) (a_e (c_cst (by kernel_rfl)) rfl)) rfl) (as_cons (a_e (c_slc C (a_pk C (by kernel_rfl)) (o_some (a_e (c_cst (by kernel_rfl)) rfl)) o_none) rfl) (as_cons (a_e (c_bin (prim_add C.g) (a_pk C (by kernel_rfl)) (a_e (c_cst (by kernel_rfl)) rfl)) rfl) as_nil)))) (by kernel_rfl)) rfl))) ss_nil) ss_nil) (ss_cons (s_ret (c_call (fn := f__law_any) C (by kernel_rfl) (by kernel_rfl) (by kernel_rfl) (m_mt C (by kernel_rfl) (m_e (c_var C (by kernel_rfl)) rfl m_nil)))) ss_nil))))))
theorem b__law_is_number (C : CK LT W X Wx cl true n__law_is_number (defScope (top 33)) k) (Cd : CD X) : OkSs LT W X Wx cl [] (defBody (top 33)) f__law_is_number.body :=
  (ss_cons (s_ret (c_and (es_cons (c_isi C (by kernel_rfl) (by kernel_rfl) B_int (a_pk C (by kernel_rfl))) (es_cons (c_not (c_isi C (by kernel_rfl) (by kernel_rfl) B_bool (a_pk C (by kernel_rfl)))) (es_cons (c_chain (prim_le C.g) (prim_le C.g) rfl (a_e (c_cst (by kernel_rfl)) rfl) (a_pk C (by kernel_rfl)) (a_pk C (by kernel_rfl))) es_nil))) (List.cons_ne_nil _ _))) ss_nil)
theorem b__law_is_letter (C : CK LT W X Wx cl true n__law_is_letter (defScope (top 34)) k) (Cd : CD X) : OkSs LT W X Wx cl [] (defBody (top 34)) f__law_is_letter.body :=
  (ss_cons (s_if (t_not (t_val (c_isi C (by kernel_rfl) (by kernel_rfl) B_str (a_pk C (by kernel_rfl))) (fun _ => rfl))) (ss_cons (s_ret (c_cst (by kernel_rfl))) ss_nil) ss_nil) (ss_cons (s_par2 C (by kernel_rfl) (by kernel_rfl) (fun env h => by cases env; cases h; kernel_rfl) (fun _ => rfl) (es_cons (c_ix C (fun _ _ => rfl) (a_e (c_strM (prim_split C.g) F.slot_str_split F.type_str_split (by kernel_rfl) (c_var C (by kernel_rfl)) rfl (a_e (c_cst (by kernel_rfl)) rfl)) rfl) (a_e (c_cst (by kernel_rfl)) rfl)) (es_cons (c_slc C (a_e (c_strM (prim_split C.g) F.slot_str_split F.type_str_split (by kernel_rfl) (c_var C (by kernel_rfl)) rfl (a_e (c_cst (by kernel_rfl)) rfl)) rfl) (o_some (a_e (c_cst (by kernel_rfl)) rfl)) o_none) es_nil))) (ss_cons (s_set C (by kernel_rfl) (fun _ _ => rfl) (c_cst (by kernel_rfl))) (ss_cons (s_if (t_or (ts_cons (t_not (t_chain (prim_le C.g) (prim_le C.g) rfl (a_e (c_cst (by kernel_rfl)) rfl) (a_e (c_callB C (prim_len C.g) B_len (by kernel_rfl) (a_pk C (by kernel_rfl))) rfl) (a_e (c_cst (by kernel_rfl)) rfl))) (ts_cons (t_cmp (prim_ne C.g) rfl (a_e (c_lc false C (blkB_ok (own := [("_law_sign", 4)]) (by kernel_rfl)) rfl (fun _ _ => rfl) (i_val C (c_var C (by kernel_rfl)) rfl) (.of_ fun XCq Cq => ⟨fun n => (g_nm Cq (by kernel_rfl) (not_pinC (by kernel_rfl))), (q_one (t_cmp (prim_notin Cq.g) rfl (a_pk Cq (by kernel_rfl)) (a_pk Cq (by kernel_rfl)))), (c_var Cq (by kernel_rfl))⟩)) rfl) (a_e (c_lst as_nil (by kernel_rfl)) rfl)) (ts_cons (t_cmp (prim_gt C.g) rfl (a_e (c_callB C (prim_len C.g) B_len (by kernel_rfl) (a_pk C (by kernel_rfl))) rfl) (a_e (c_cst (by kernel_rfl)) rfl)) ts_nil))) (List.cons_ne_nil _ _)) (ss_cons (s_ret (c_cst (by kernel_rfl))) ss_nil) ss_nil) (ss_cons (s_if (t_cmp (prim_eq C.g) rfl (a_pk C (by kernel_rfl)) (a_e (c_lst as_nil (by kernel_rfl)) rfl)) (ss_cons (s_ret (c_cst (by kernel_rfl))) ss_nil) ss_nil) (ss_cons (s_if (t_or (ts_cons (t_not (t_chain (prim_le C.g) (prim_le C.g) rfl (a_e (c_cst (by kernel_rfl)) rfl) (a_e (c_callB C (prim_len C.g) B_len (by kernel_rfl) (a_e (c_ix C (fun _ _ => rfl) (a_pk C (by kernel_rfl)) (a_e (c_cst (by kernel_rfl)) rfl)) rfl)) rfl) (a_e (c_cst (by kernel_rfl)) rfl))) (ts_cons (t_cmp (prim_ne C.g) rfl (a_e (c_lc false C (blkB_ok (own := [("_law_sign", 4)]) (by kernel_rfl)) rfl (fun _ _ => rfl) (i_val C (c_ix C (fun _ _ => rfl) (a_pk C (by kernel_rfl)) (a_e (c_cst (by kernel_rfl)) rfl)) rfl) (.of_ fun XCq Cq => ⟨fun n => (g_nm Cq (by kernel_rfl) (not_pinC (by kernel_rfl))), (q_one (t_cmp (prim_notin Cq.g) rfl (a_pk Cq (by kernel_rfl)) (a_e (c_cst (by kernel_rfl)) rfl))), (c_var Cq (by kernel_rfl))⟩)) rfl) (a_e (c_lst as_nil (by kernel_rfl)) rfl)) ts_nil)) (List.cons_ne_nil _ _)) (ss_cons (s_ret (c_cst (by kernel_rfl))) ss_nil) ss_nil) (ss_cons (s_ret (c_or (es_cons (c_cmp (prim_eq C.g) rfl (a_e (c_ix C (fun _ _ => rfl) (a_pk C (by kernel_rfl)) (a_e (c_cst (by kernel_rfl)) rfl)) rfl) (a_e (c_cst (by kernel_rfl)) rfl)) (es_cons (c_cmp (prim_ne C.g) rfl (a_e (c_ix C (fun _ _ => rfl) (a_e (c_ix C (fun _ _ => rfl) (a_pk C (by kernel_rfl)) (a_e (c_cst (by kernel_rfl)) rfl)) rfl) (a_e (c_cst (by kernel_rfl)) rfl)) rfl) (a_e (c_cst (by kernel_rfl)) rfl)) es_nil)) (List.cons_ne_nil _ _))) ss_nil)))))))
theorem b__law_is_road (C : CK LT W X Wx cl true n__law_is_road (defScope (top 35)) k) (Cd : CD X) : OkSs LT W X Wx cl [] (defBody (top 35)) f__law_is_road.body :=
  (ss_cons (s_if (t_or (ts_cons (t_not (t_val (c_isi C (by kernel_rfl) (by kernel_rfl) B_tuple (a_pk C (by kernel_rfl))) (fun _ => rfl))) (ts_cons (t_cmp (prim_ne C.g) rfl (a_e (c_callB C (prim_len C.g) B_len (by kernel_rfl) (a_pk C (by kernel_rfl))) rfl) (a_e (c_cst (by kernel_rfl)) rfl)) (ts_cons (t_not (t_val (c_call (fn := f__law_is_letter) C (by kernel_rfl) (by kernel_rfl) (by kernel_rfl) (m_e (c_ix C (fun _ _ => rfl) (a_pk C (by kernel_rfl)) (a_e (c_cst (by kernel_rfl)) rfl)) rfl m_nil)) (fun _ => rfl))) ts_nil))) (List.cons_ne_nil _ _)) (ss_cons (s_ret (c_cst (by kernel_rfl))) ss_nil) ss_nil) (ss_cons (s_if (t_cmp (prim_ne C.g) rfl (a_e (c_lc false C (blkB_ok (own := [("_law_place", 2)]) (by kernel_rfl)) rfl (fun _ _ => rfl) (i_val C (c_slc C (a_pk C (by kernel_rfl)) (o_some (a_e (c_cst (by kernel_rfl)) rfl)) (o_some (a_e (c_cst (by kernel_rfl)) rfl))) rfl) (.of_ fun XCq Cq => ⟨fun n => (g_nm Cq (by kernel_rfl) (not_pinC (by kernel_rfl))), (q_one (t_or (ts_cons (t_not (t_val (c_call (fn := f__law_is_number) Cq (by kernel_rfl) (by kernel_rfl) (by kernel_rfl) (m_e (c_var Cq (by kernel_rfl)) rfl (m_e (c_bin (prim_pow Cq.g) (a_e (c_cst (by kernel_rfl)) rfl) (a_e (c_cst (by kernel_rfl)) rfl)) rfl m_nil))) (fun _ => rfl))) (ts_cons (t_cmp (prim_notin Cq.g) rfl (a_pk Cq (by kernel_rfl)) (a_pk Cq (by kernel_rfl))) ts_nil)) (List.cons_ne_nil _ _))), (c_var Cq (by kernel_rfl))⟩)) rfl) (a_e (c_lst as_nil (by kernel_rfl)) rfl)) (ss_cons (s_ret (c_cst (by kernel_rfl))) ss_nil) ss_nil) (ss_cons (s_ret (c_call (fn := f__law_is_number) C (by kernel_rfl) (by kernel_rfl) (by kernel_rfl) (m_e (c_ix C (fun _ _ => rfl) (a_pk C (by kernel_rfl)) (a_e (c_cst (by kernel_rfl)) rfl)) rfl (m_e (c_bin (prim_pow C.g) (a_e (c_cst (by kernel_rfl)) rfl) (a_e (c_cst (by kernel_rfl)) rfl)) rfl m_nil)))) ss_nil)))
theorem b__law_is_net (C : CK LT W X Wx cl true n__law_is_net (defScope (top 36)) k) (Cd : CD X) : OkSs LT W X Wx cl [] (defBody (top 36)) f__law_is_net.body :=
  (ss_cons (s_if (t_or (ts_cons (t_not (t_val (c_isi C (by kernel_rfl) (by kernel_rfl) B_tuple (a_pk C (by kernel_rfl))) (fun _ => rfl))) (ts_cons (t_cmp (prim_ne C.g) rfl (a_e (c_callB C (prim_len C.g) B_len (by kernel_rfl) (a_pk C (by kernel_rfl))) rfl) (a_e (c_cst (by kernel_rfl)) rfl)) (ts_cons (t_not (t_val (c_isi C (by kernel_rfl) (by kernel_rfl) B_tuple (a_e (c_ix C (fun _ _ => rfl) (a_pk C (by kernel_rfl)) (a_e (c_cst (by kernel_rfl)) rfl)) rfl)) (fun _ => rfl))) (ts_cons (t_cmp (prim_gt C.g) rfl (a_e (c_callB C (prim_len C.g) B_len (by kernel_rfl) (a_e (c_ix C (fun _ _ => rfl) (a_pk C (by kernel_rfl)) (a_e (c_cst (by kernel_rfl)) rfl)) rfl)) rfl) (a_e (c_cst (by kernel_rfl)) rfl)) ts_nil)))) (List.cons_ne_nil _ _)) (ss_cons (s_ret (c_cst (by kernel_rfl))) ss_nil) ss_nil) (ss_cons (s_if (t_cmp (prim_ne C.g) rfl (a_e (c_lc false C (blkB_ok (own := [("_law_place", 1)]) (by kernel_rfl)) rfl (fun _ _ => rfl) (i_val C (c_ix C (fun _ _ => rfl) (a_pk C (by kernel_rfl)) (a_e (c_cst (by kernel_rfl)) rfl)) rfl) (.of_ fun XCq Cq => ⟨fun n => (g_nm Cq (by kernel_rfl) (not_pinC (by kernel_rfl))), (q_one (t_not (t_val (c_call (fn := f__law_is_number) Cq (by kernel_rfl) (by kernel_rfl) (by kernel_rfl) (m_e (c_var Cq (by kernel_rfl)) rfl (m_e (c_bin (prim_pow Cq.g) (a_e (c_cst (by kernel_rfl)) rfl) (a_e (c_cst (by kernel_rfl)) rfl)) rfl m_nil))) (fun _ => rfl)))), (c_var Cq (by kernel_rfl))⟩)) rfl) (a_e (c_lst as_nil (by kernel_rfl)) rfl)) (ss_cons (s_ret (c_cst (by kernel_rfl))) ss_nil) ss_nil) (ss_cons (s_if (t_cmp (prim_ne C.g) rfl (a_e (c_lc true C (blkB_ok (own := [("_law_one", 2), ("_law_other", 3)]) (by kernel_rfl)) rfl (fun _ _ => rfl) (i_zip C (by kernel_rfl) (by kernel_rfl) (c_ix C (fun _ _ => rfl) (a_pk C (by kernel_rfl)) (a_e (c_cst (by kernel_rfl)) rfl)) rfl (c_slc C (a_e (c_ix C (fun _ _ => rfl) (a_pk C (by kernel_rfl)) (a_e (c_cst (by kernel_rfl)) rfl)) rfl) (o_some (a_e (c_cst (by kernel_rfl)) rfl)) o_none) rfl) (.of_ fun XCq Cq => ⟨fun n => (g_tup Cq (tg_cons Cq (by kernel_rfl) (not_pinC (by kernel_rfl)) (tg_cons Cq (by kernel_rfl) (not_pinC (by kernel_rfl)) tg_nil))), (q_one (t_cmp (prim_ge Cq.g) rfl (a_pk Cq (by kernel_rfl)) (a_pk Cq (by kernel_rfl)))), (c_cst (by kernel_rfl))⟩)) rfl) (a_e (c_lst as_nil (by kernel_rfl)) rfl)) (ss_cons (s_ret (c_cst (by kernel_rfl))) ss_nil) ss_nil) (ss_cons (s_if (t_or (ts_cons (t_not (t_val (c_isi C (by kernel_rfl) (by kernel_rfl) B_tuple (a_e (c_ix C (fun _ _ => rfl) (a_pk C (by kernel_rfl)) (a_e (c_cst (by kernel_rfl)) rfl)) rfl)) (fun _ => rfl))) (ts_cons (t_cmp (prim_gt C.g) rfl (a_e (c_callB C (prim_len C.g) B_len (by kernel_rfl) (a_e (c_ix C (fun _ _ => rfl) (a_pk C (by kernel_rfl)) (a_e (c_cst (by kernel_rfl)) rfl)) rfl)) rfl) (a_e (c_cst (by kernel_rfl)) rfl)) ts_nil)) (List.cons_ne_nil _ _)) (ss_cons (s_ret (c_cst (by kernel_rfl))) ss_nil) ss_nil) (ss_cons (s_if (t_cmp (prim_ne C.g) rfl (a_e (c_lc false C (blkB_ok (own := [("_law_road", 4)]) (by kernel_rfl)) rfl (fun _ _ => rfl) (i_val C (c_ix C (fun _ _ => rfl) (a_pk C (by kernel_rfl)) (a_e (c_cst (by kernel_rfl)) rfl)) rfl) (.of_ fun XCq Cq => ⟨fun n => (g_nm Cq (by kernel_rfl) (not_pinC (by kernel_rfl))), (q_one (t_not (t_val (c_call (fn := f__law_is_road) Cq (by kernel_rfl) (by kernel_rfl) (by kernel_rfl) (m_e (c_ix Cq (fun _ _ => rfl) (a_pk Cq (by kernel_rfl)) (a_e (c_cst (by kernel_rfl)) rfl)) rfl (m_e (c_var Cq (by kernel_rfl)) rfl m_nil))) (fun _ => rfl)))), (c_var Cq (by kernel_rfl))⟩)) rfl) (a_e (c_lst as_nil (by kernel_rfl)) rfl)) (ss_cons (s_ret (c_cst (by kernel_rfl))) ss_nil) ss_nil) (ss_cons (s_ret (c_cmp (prim_eq C.g) rfl (a_e (c_lc true C (blkB_ok (own := [("_law_one", 2), ("_law_other", 3)]) (by kernel_rfl)) rfl (fun _ _ => rfl) (i_zip C (by kernel_rfl) (by kernel_rfl) (c_ix C (fun _ _ => rfl) (a_pk C (by kernel_rfl)) (a_e (c_cst (by kernel_rfl)) rfl)) rfl (c_slc C (a_e (c_ix C (fun _ _ => rfl) (a_pk C (by kernel_rfl)) (a_e (c_cst (by kernel_rfl)) rfl)) rfl) (o_some (a_e (c_cst (by kernel_rfl)) rfl)) o_none) rfl) (.of_ fun XCq Cq => ⟨fun n => (g_tup Cq (tg_cons Cq (by kernel_rfl) (not_pinC (by kernel_rfl)) (tg_cons Cq (by kernel_rfl) (not_pinC (by kernel_rfl)) tg_nil))), (q_one (t_cmp (prim_gt Cq.g) rfl (a_pk Cq (by kernel_rfl)) (a_pk Cq (by kernel_rfl)))), (c_cst (by kernel_rfl))⟩)) rfl) (a_e (c_lst as_nil (by kernel_rfl)) rfl))) ss_nil))))))
theorem b__law_told (C : CK LT W X Wx cl true n__law_told (defScope (top 37)) k) (Cd : CD X) : OkSs LT W X Wx cl [] (defBody (top 37)) f__law_told.body :=
  (ss_cons (s_par3 C (by kernel_rfl) (by kernel_rfl) (fun env h => by cases env; cases h; kernel_rfl) (fun _ => rfl) (es_cons (c_cst (by kernel_rfl)) (es_cons (c_cst (by kernel_rfl)) (es_cons (c_callB C (prim_repr C.g) B_repr (by kernel_rfl) (a_e (c_lst (as_cons (a_e (c_var C (by kernel_rfl)) rfl) (as_cons (a_e (c_var C (by kernel_rfl)) rfl) as_nil)) (by kernel_rfl)) rfl)) es_nil)))) (ss_cons (s_try C Cd (by kernel_rfl) (by kernel_rfl) (by kernel_rfl) (fun _ => rfl) (fun X' Wo C' Cd' => (ss_cons (s_set C' (by kernel_rfl) (fun _ _ => rfl) (c_ife (t_cmp (prim_eq C'.g) rfl (a_pk C' (by kernel_rfl)) (a_e (c_cst (by kernel_rfl)) rfl)) (c_call (fn := f_with_road) C' (by kernel_rfl) (by kernel_rfl) (by kernel_rfl) (m_e (c_var C' (by kernel_rfl)) rfl (m_e (c_var C' (by kernel_rfl)) rfl m_nil))) (c_call (fn := f_without_road) C' (by kernel_rfl) (by kernel_rfl) (by kernel_rfl) (m_e (c_var C' (by kernel_rfl)) rfl (m_e (c_var C' (by kernel_rfl)) rfl m_nil))))) ss_nil))) (ss_cons (s_if (t_cmp (prim_ne C.g) rfl (a_e (c_callB C (prim_repr C.g) B_repr (by kernel_rfl) (a_e (c_lst (as_cons (a_e (c_var C (by kernel_rfl)) rfl) (as_cons (a_e (c_var C (by kernel_rfl)) rfl) as_nil)) (by kernel_rfl)) rfl)) rfl) (a_pk C (by kernel_rfl))) (ss_cons (s_ret (c_cst (by kernel_rfl))) ss_nil) ss_nil) (ss_cons (s_if (t_val (c_isx C (by kernel_rfl) (by kernel_rfl) (by kernel_rfl) (c_var C (by kernel_rfl))) (fun _ => rfl)) (ss_cons (s_ret (c_tup (as_cons (a_e (c_cst (by kernel_rfl)) rfl) (as_cons (a_e (c_fld C (c_var C (by kernel_rfl)) (fun _ => rfl) (by kernel_rfl)) rfl) as_nil)) (by kernel_rfl))) ss_nil) ss_nil) (ss_cons (s_if (t_val (c_isx C (by kernel_rfl) (by kernel_rfl) (by kernel_rfl) (c_var C (by kernel_rfl))) (fun _ => rfl)) (ss_cons (s_ret (c_cst (by kernel_rfl))) ss_nil) ss_nil) (ss_cons (s_ret (c_ife (t_val (c_isx C (by kernel_rfl) (by kernel_rfl) (by kernel_rfl) (c_var C (by kernel_rfl))) (fun _ => rfl)) (c_cst (by kernel_rfl)) (c_ife (t_isN (prim_isnone C.g) rfl (a_pk C (by kernel_rfl))) (c_var C (by kernel_rfl)) (c_cst (by kernel_rfl))))) ss_nil))))))
theorem b__law_due (C : CK LT W X Wx cl true n__law_due (defScope (top 38)) k) (Cd : CD X) : OkSs LT W X Wx cl [] (defBody (top 38)) f__law_due.body :=
  (ss_cons (s_if (t_not (t_val (c_call (fn := f__law_is_net) C (by kernel_rfl) (by kernel_rfl) (by kernel_rfl) (m_e (c_var C (by kernel_rfl)) rfl m_nil)) (fun _ => rfl))) (ss_cons (s_ret (c_cst (by kernel_rfl))) ss_nil) ss_nil) (ss_cons (s_if (t_or (ts_cons (t_not (t_val (c_call (fn := f__law_is_road) C (by kernel_rfl) (by kernel_rfl) (by kernel_rfl) (m_e (c_ix C (fun _ _ => rfl) (a_pk C (by kernel_rfl)) (a_e (c_cst (by kernel_rfl)) rfl)) rfl (m_e (c_var C (by kernel_rfl)) rfl m_nil))) (fun _ => rfl))) (ts_cons (t_and (ts_cons (t_cmp (prim_eq C.g) rfl (a_pk C (by kernel_rfl)) (a_e (c_cst (by kernel_rfl)) rfl)) (ts_cons (t_cmp (prim_notin C.g) rfl (a_pk C (by kernel_rfl)) (a_e (c_ix C (fun _ _ => rfl) (a_pk C (by kernel_rfl)) (a_e (c_cst (by kernel_rfl)) rfl)) rfl)) ts_nil)) (List.cons_ne_nil _ _)) ts_nil)) (List.cons_ne_nil _ _)) (ss_cons (s_ret (c_cst (by kernel_rfl))) ss_nil) ss_nil) (ss_cons (s_if (t_cmp (prim_eq C.g) rfl (a_pk C (by kernel_rfl)) (a_e (c_cst (by kernel_rfl)) rfl)) (ss_cons (s_ret (c_ife (t_cmp (prim_eq C.g) rfl (a_e (c_callB C (prim_len C.g) B_len (by kernel_rfl) (a_e (c_ix C (fun _ _ => rfl) (a_pk C (by kernel_rfl)) (a_e (c_cst (by kernel_rfl)) rfl)) rfl)) rfl) (a_e (c_cst (by kernel_rfl)) rfl)) (c_tup (as_cons (a_e (c_cst (by kernel_rfl)) rfl) (as_cons (a_e (c_cst (by kernel_rfl)) rfl) as_nil)) (by kernel_rfl)) (c_tup (as_cons (a_e (c_ix C (fun _ _ => rfl) (a_pk C (by kernel_rfl)) (a_e (c_cst (by kernel_rfl)) rfl)) rfl) (as_cons (a_e (c_callT C (prim_tuple C.g) B_tuple (by kernel_rfl) (a_e (c_callB C (prim_sorted C.g) B_sorted (by kernel_rfl) (a_e (c_bin (prim_add C.g) (a_e (c_ix C (fun _ _ => rfl) (a_pk C (by kernel_rfl)) (a_e (c_cst (by kernel_rfl)) rfl)) rfl) (a_e (c_tup (as_cons (a_e (c_var C (by kernel_rfl)) rfl) as_nil) (by kernel_rfl)) rfl)) rfl)) rfl)) rfl) as_nil)) (by kernel_rfl)))) ss_nil) ss_nil) (ss_cons (s_set C (by kernel_rfl) (fun _ _ => rfl) (c_callT C (prim_list C.g) B_list (by kernel_rfl) (a_e (c_ix C (fun _ _ => rfl) (a_pk C (by kernel_rfl)) (a_e (c_cst (by kernel_rfl)) rfl)) rfl))) (ss_cons (s_mut C (mut_remove C.g) F.slot_list_remove F.type_list_remove (by kernel_rfl) (by kernel_rfl) (fun _ => rfl) (as_cons (a_pk C (by kernel_rfl)) as_nil)) (ss_cons (s_ret (c_tup (as_cons (a_e (c_ix C (fun _ _ => rfl) (a_pk C (by kernel_rfl)) (a_e (c_cst (by kernel_rfl)) rfl)) rfl) (as_cons (a_e (c_callT C (prim_tuple C.g) B_tuple (by kernel_rfl) (a_pk C (by kernel_rfl))) rfl) as_nil)) (by kernel_rfl))) ss_nil))))))
theorem b__law_bounds_right (C : CK LT W X Wx cl true n__law_bounds_right (defScope (top 39)) k) (Cd : CD X) : OkSs LT W X Wx cl [] (defBody (top 39)) f__law_bounds_right.body :=
  (ss_cons (s_set C (by kernel_rfl) (fun _ _ => rfl) (c_trange C (by kernel_rfl) (by kernel_rfl) (a_e (c_cst (by kernel_rfl)) rfl))) (ss_cons (s_set C (by kernel_rfl) (fun _ _ => rfl) (c_tup (as_cons (a_e (c_cst (by kernel_rfl)) rfl) (as_cons (a_e (c_cst (by kernel_rfl)) rfl) (as_cons (a_e (c_cst (by kernel_rfl)) rfl) (as_cons (a_e (c_cst (by kernel_rfl)) rfl) as_nil)))) (by kernel_rfl))) (ss_cons (s_set C (by kernel_rfl) (fun _ _ => rfl) (c_lst (as_cons (a_e (c_tup (as_cons (a_e (c_var C (by kernel_rfl)) rfl) (as_cons (a_e (c_tup as_nil (by kernel_rfl)) rfl) as_nil)) (by kernel_rfl)) rfl) (as_cons (a_e (c_tup (as_cons (a_e (c_bin (prim_add C.g) (a_pk C (by kernel_rfl)) (a_e (c_tup (as_cons (a_e (c_cst (by kernel_rfl)) rfl) as_nil) (by kernel_rfl)) rfl)) rfl) (as_cons (a_e (c_tup as_nil (by kernel_rfl)) rfl) as_nil)) (by kernel_rfl)) rfl) (as_cons (a_e (c_tup (as_cons (a_e (c_var C (by kernel_rfl)) rfl) (as_cons (a_e (c_bin (prim_mul C.g) (a_e (c_tup (as_cons (a_e (c_var C (by kernel_rfl)) rfl) as_nil) (by kernel_rfl)) rfl) (a_e (c_cst (by kernel_rfl)) rfl)) rfl) as_nil)) (by kernel_rfl)) rfl) (as_cons (a_e (c_tup (as_cons (a_e (c_var C (by kernel_rfl)) rfl) (as_cons (a_e (c_bin (prim_mul C.g) (a_e (c_tup (as_cons (a_e (c_var C (by kernel_rfl)) rfl) as_nil) (by kernel_rfl)) rfl) (a_e (c_cst (by kernel_rfl)) rfl)) rfl) as_nil)) (by kernel_rfl)) rfl) as_nil)))) (by kernel_rfl))) (ss_cons (s_if (t_cmp (prim_ne C.g) rfl (a_e (c_lc false C (blkB_ok (own := [("_law_net", 3)]) (by kernel_rfl)) rfl (fun _ _ => rfl) (i_val C (c_var C (by kernel_rfl)) rfl) (.of_ fun XCq Cq => ⟨fun n => (g_nm Cq (by kernel_rfl) (not_pinC (by kernel_rfl))), q_nil, (c_call (fn := f_is_net) Cq (by kernel_rfl) (by kernel_rfl) (by kernel_rfl) (m_e (c_var Cq (by kernel_rfl)) rfl m_nil))⟩)) rfl) (a_e (c_lst (as_cons (a_e (c_cst (by kernel_rfl)) rfl) (as_cons (a_e (c_cst (by kernel_rfl)) rfl) (as_cons (a_e (c_cst (by kernel_rfl)) rfl) (as_cons (a_e (c_cst (by kernel_rfl)) rfl) as_nil)))) (by kernel_rfl)) rfl)) (ss_cons (s_ret (c_cst (by kernel_rfl))) ss_nil) ss_nil) (ss_cons (s_if (t_or (ts_cons (t_cmp (prim_ne C.g) rfl (a_e (c_call (fn := f__law_told) C (by kernel_rfl) (by kernel_rfl) (by kernel_rfl) (m_e (c_cst (by kernel_rfl)) rfl (m_e (c_ix C (fun _ _ => rfl) (a_pk C (by kernel_rfl)) (a_e (c_cst (by kernel_rfl)) rfl)) rfl (m_e (c_var C (by kernel_rfl)) rfl m_nil)))) rfl) (a_e (c_tup (as_cons (a_e (c_cst (by kernel_rfl)) rfl) (as_cons (a_e (c_cst (by kernel_rfl)) rfl) as_nil)) (by kernel_rfl)) rfl)) (ts_cons (t_cmp (prim_ne C.g) rfl (a_e (c_call (fn := f__law_told) C (by kernel_rfl) (by kernel_rfl) (by kernel_rfl) (m_e (c_cst (by kernel_rfl)) rfl (m_e (c_ix C (fun _ _ => rfl) (a_pk C (by kernel_rfl)) (a_e (c_cst (by kernel_rfl)) rfl)) rfl (m_e (c_slc C (a_pk C (by kernel_rfl)) o_none (o_some (a_e (c_cst (by kernel_rfl)) rfl))) rfl m_nil)))) rfl) (a_e (c_cst (by kernel_rfl)) rfl)) ts_nil)) (List.cons_ne_nil _ _)) (ss_cons (s_ret (c_cst (by kernel_rfl))) ss_nil) ss_nil) (ss_cons (s_if (t_cmp (prim_ne C.g) rfl (a_e (c_call (fn := f__law_told) C (by kernel_rfl) (by kernel_rfl) (by kernel_rfl) (m_e (c_cst (by kernel_rfl)) rfl (m_e (c_ix C (fun _ _ => rfl) (a_pk C (by kernel_rfl)) (a_e (c_cst (by kernel_rfl)) rfl)) rfl (m_e (c_cst (by kernel_rfl)) rfl m_nil)))) rfl) (a_e (c_cst (by kernel_rfl)) rfl)) (ss_cons (s_ret (c_cst (by kernel_rfl))) ss_nil) ss_nil) (ss_cons (s_ret (c_cmp (prim_eq C.g) rfl (a_e (c_call (fn := f__law_told) C (by kernel_rfl) (by kernel_rfl) (by kernel_rfl) (m_e (c_cst (by kernel_rfl)) rfl (m_e (c_ix C (fun _ _ => rfl) (a_pk C (by kernel_rfl)) (a_e (c_cst (by kernel_rfl)) rfl)) rfl (m_e (c_var C (by kernel_rfl)) rfl m_nil)))) rfl) (a_e (c_tup (as_cons (a_e (c_var C (by kernel_rfl)) rfl) (as_cons (a_e (c_bin (prim_mul C.g) (a_e (c_tup (as_cons (a_e (c_var C (by kernel_rfl)) rfl) as_nil) (by kernel_rfl)) rfl) (a_e (c_cst (by kernel_rfl)) rfl)) rfl) as_nil)) (by kernel_rfl)) rfl))) ss_nil)))))))
theorem b_law (C : CK LT W X Wx cl true n_law (defScope (top 40)) k) (Cd : CD X) : OkSs LT W X Wx cl [] (defBody (top 40)) f_law.body :=
  (ss_cons (s_set C (by kernel_rfl) (fun _ _ => rfl) (c_call (fn := f__law_spring) C (by kernel_rfl) (by kernel_rfl) (by kernel_rfl) (m_e (c_var C (by kernel_rfl)) rfl m_nil))) (ss_cons (s_if (t_not (t_val (c_call (fn := f__law_bounds_right) C (by kernel_rfl) (by kernel_rfl) (by kernel_rfl) m_nil) (fun _ => rfl))) (ss_cons (s_ret (c_cst (by kernel_rfl))) ss_nil) ss_nil) (ss_cons (s_for false C (fun _ _ => rfl) (i_range1 C (by kernel_rfl) (c_cst (by kernel_rfl)) rfl) (g_nm C (by kernel_rfl) (not_mem (by kernel_rfl))) (ss_cons (s_set C (by kernel_rfl) (fun _ _ => rfl) (c_call (fn := f__law_some_net) C (by kernel_rfl) (by kernel_rfl) (by kernel_rfl) (m_mt C (by kernel_rfl) (m_e (c_cst (by kernel_rfl)) rfl (m_e (c_cst (by kernel_rfl)) rfl (m_e (c_lst (as_cons (a_e (c_cst (by kernel_rfl)) rfl) (as_cons (a_e (c_cst (by kernel_rfl)) rfl) (as_cons (a_e (c_cst (by kernel_rfl)) rfl) (as_cons (a_e (c_cst (by kernel_rfl)) rfl) (as_cons (a_e (c_cst (by kernel_rfl)) rfl) (as_cons (a_e (c_cst (by kernel_rfl)) rfl) as_nil)))))) (by kernel_rfl)) rfl m_nil)))))) (ss_cons (s_set C (by kernel_rfl) (fun _ _ => rfl) (c_lst (as_cons (a_e (c_var C (by kernel_rfl)) rfl) (as_cons (a_e (c_cst (by kernel_rfl)) rfl) (as_cons (a_e (c_tup as_nil (by kernel_rfl)) rfl) (as_cons (a_e (c_lst as_nil (by kernel_rfl)) rfl) (as_cons (a_e c_dct0 rfl) (as_cons (a_e (c_cst (by kernel_rfl)) rfl) (as_cons (a_e (c_tup (as_cons (a_e (c_tup as_nil (by kernel_rfl)) rfl) (as_cons (a_e (c_tup as_nil (by kernel_rfl)) rfl) as_nil)) (by kernel_rfl)) rfl) (as_cons (a_e (c_tup (as_cons (a_e (c_tup (as_cons (a_e (c_cst (by kernel_rfl)) rfl) as_nil) (by kernel_rfl)) rfl) (as_cons (a_e (c_tup as_nil (by kernel_rfl)) rfl) as_nil)) (by kernel_rfl)) rfl) (as_cons (a_e (c_tup (as_cons (a_e (c_lst (as_cons (a_e (c_cst (by kernel_rfl)) rfl) as_nil) (by kernel_rfl)) rfl) (as_cons (a_e (c_tup as_nil (by kernel_rfl)) rfl) as_nil)) (by kernel_rfl)) rfl) (as_cons (a_e (c_tup (as_cons (a_e (c_tup (as_cons (a_e (c_cst (by kernel_rfl)) rfl) (as_cons (a_e (c_cst (by kernel_rfl)) rfl) as_nil)) (by kernel_rfl)) rfl) (as_cons (a_e (c_tup as_nil (by kernel_rfl)) rfl) as_nil)) (by kernel_rfl)) rfl) (as_cons (a_e (c_tup (as_cons (a_e (c_tup (as_cons (a_e (c_cst (by kernel_rfl)) rfl) (as_cons (a_e (c_cst (by kernel_rfl)) rfl) as_nil)) (by kernel_rfl)) rfl) (as_cons (a_e (c_tup as_nil (by kernel_rfl)) rfl) as_nil)) (by kernel_rfl)) rfl) as_nil))))))))))) (by kernel_rfl))) (ss_cons (s_set C (by kernel_rfl) (fun _ _ => rfl) (c_bin (prim_add C.g) (a_pk C (by kernel_rfl)) (a_e (c_lc false C (blkB_ok (own := [("_law_again", 9)]) (by kernel_rfl)) rfl (fun _ _ => rfl) (i_range1 C (by kernel_rfl) (c_cst (by kernel_rfl)) rfl) (.of_ fun XCq Cq => ⟨fun n => (g_nm Cq (by kernel_rfl) (not_pinC (by kernel_rfl))), q_nil, (c_call (fn := f__law_bent) Cq (by kernel_rfl) (by kernel_rfl) (by kernel_rfl) (m_mt Cq (by kernel_rfl) (m_e (c_var Cq (by kernel_rfl)) rfl (m_e (c_lst (as_cons (a_e (c_ix Cq (fun _ _ => rfl) (a_pk Cq (by kernel_rfl)) (a_e (c_cst (by kernel_rfl)) rfl)) rfl) (as_cons (a_e (c_ix Cq (fun _ _ => rfl) (a_pk Cq (by kernel_rfl)) (a_e (c_cst (by kernel_rfl)) rfl)) rfl) as_nil)) (by kernel_rfl)) rfl m_nil))))⟩)) rfl))) (ss_cons (s_for false C (fun _ _ => rfl) (i_val C (c_var C (by kernel_rfl)) rfl) (g_nm C (by kernel_rfl) (not_mem (by kernel_rfl))) (ss_cons (s_if (t_not (t_val (c_call (fn := f__law_alike) C (by kernel_rfl) (by kernel_rfl) (by kernel_rfl) (m_e (c_call (fn := f_is_net) C (by kernel_rfl) (by kernel_rfl) (by kernel_rfl) (m_e (c_var C (by kernel_rfl)) rfl m_nil)) rfl (m_e (c_call (fn := f__law_is_net) C (by kernel_rfl) (by kernel_rfl) (by kernel_rfl) (m_e (c_var C (by kernel_rfl)) rfl m_nil)) rfl m_nil))) (fun _ => rfl))) (ss_cons (s_ret (c_cst (by kernel_rfl))) ss_nil) ss_nil) (ss_cons (s_set C (by kernel_rfl) (fun _ _ => rfl) (c_lst (as_cons (a_e (c_tup (as_cons (a_e (c_cst (by kernel_rfl)) rfl) (as_cons (a_e (c_cst (by kernel_rfl)) rfl) (as_cons (a_e (c_cst (by kernel_rfl)) rfl) (as_cons (a_e (c_cst (by kernel_rfl)) rfl) as_nil)))) (by kernel_rfl)) rfl) (as_cons (a_e (c_tup (as_cons (a_e (c_cst (by kernel_rfl)) rfl) (as_cons (a_e (c_cst (by kernel_rfl)) rfl) (as_cons (a_e (c_cst (by kernel_rfl)) rfl) as_nil))) (by kernel_rfl)) rfl) (as_cons (a_e (c_cst (by kernel_rfl)) rfl) (as_cons (a_e (c_lst (as_cons (a_e (c_cst (by kernel_rfl)) rfl) (as_cons (a_e (c_cst (by kernel_rfl)) rfl) (as_cons (a_e (c_cst (by kernel_rfl)) rfl) (as_cons (a_e (c_cst (by kernel_rfl)) rfl) as_nil)))) (by kernel_rfl)) rfl) as_nil)))) (by kernel_rfl))) (ss_cons (s_if (t_cmp (prim_ne C.g) rfl (a_e (c_ix C (fun _ _ => rfl) (a_pk C (by kernel_rfl)) (a_e (c_cst (by kernel_rfl)) rfl)) rfl) (a_e (c_tup as_nil (by kernel_rfl)) rfl)) (ss_cons (s_set C (by kernel_rfl) (fun _ _ => rfl) (c_bin (prim_add C.g) (a_pk C (by kernel_rfl)) (a_e (c_lst (as_cons (a_e (c_call (fn := f__law_any) C (by kernel_rfl) (by kernel_rfl) (by kernel_rfl) (m_mt C (by kernel_rfl) (m_e (c_ix C (fun _ _ => rfl) (a_pk C (by kernel_rfl)) (a_e (c_cst (by kernel_rfl)) rfl)) rfl m_nil))) rfl) as_nil) (by kernel_rfl)) rfl))) (ss_cons (s_set C (by kernel_rfl) (fun _ _ => rfl) (c_bin (prim_add C.g) (a_pk C (by kernel_rfl)) (a_e (c_lst (as_cons (a_e (c_call (fn := f__law_bent) C (by kernel_rfl) (by kernel_rfl) (by kernel_rfl) (m_mt C (by kernel_rfl) (m_e (c_call (fn := f__law_any) C (by kernel_rfl) (by kernel_rfl) (by kernel_rfl) (m_mt C (by kernel_rfl) (m_e (c_ix C (fun _ _ => rfl) (a_pk C (by kernel_rfl)) (a_e (c_cst (by kernel_rfl)) rfl)) rfl m_nil))) rfl (m_e (c_lst (as_cons (a_e (c_bin (prim_pow C.g) (a_e (c_cst (by kernel_rfl)) rfl) (a_e (c_cst (by kernel_rfl)) rfl)) rfl) (as_cons (a_e (c_bin (prim_add C.g) (a_e (c_bin (prim_pow C.g) (a_e (c_cst (by kernel_rfl)) rfl) (a_e (c_cst (by kernel_rfl)) rfl)) rfl) (a_e (c_cst (by kernel_rfl)) rfl)) rfl) as_nil)) (by kernel_rfl)) rfl m_nil)))) rfl) as_nil) (by kernel_rfl)) rfl))) ss_nil)) ss_nil) (ss_cons (s_for false C (fun _ _ => rfl) (i_val C (c_var C (by kernel_rfl)) rfl) (g_nm C (by kernel_rfl) (not_mem (by kernel_rfl))) (ss_cons (s_for false C (fun _ _ => rfl) (i_val C (c_tup (as_cons (a_e (c_cst (by kernel_rfl)) rfl) (as_cons (a_e (c_cst (by kernel_rfl)) rfl) as_nil)) (by kernel_rfl)) rfl) (g_nm C (by kernel_rfl) (not_mem (by kernel_rfl))) (ss_cons (s_if (t_not (t_val (c_call (fn := f__law_alike) C (by kernel_rfl) (by kernel_rfl) (by kernel_rfl) (m_e (c_call (fn := f__law_told) C (by kernel_rfl) (by kernel_rfl) (by kernel_rfl) (m_e (c_var C (by kernel_rfl)) rfl (m_e (c_var C (by kernel_rfl)) rfl (m_e (c_var C (by kernel_rfl)) rfl m_nil)))) rfl (m_e (c_call (fn := f__law_due) C (by kernel_rfl) (by kernel_rfl) (by kernel_rfl) (m_e (c_var C (by kernel_rfl)) rfl (m_e (c_var C (by kernel_rfl)) rfl (m_e (c_var C (by kernel_rfl)) rfl m_nil)))) rfl m_nil))) (fun _ => rfl))) (ss_cons (s_ret (c_cst (by kernel_rfl))) ss_nil) ss_nil) ss_nil)) ss_nil)) ss_nil))))) ss_nil))))) (ss_cons (s_ret (c_cst (by kernel_rfl))) ss_nil))))
end
end K20
end SK20Pf
section SK20Hd
set_option Elab.async false
set_option linter.all false
set_option maxRecDepth 100000
set_option maxHeartbeats 0
namespace K20
open PySem PySem.Spec PyProof.Rows L2 EV
def d_is_name : He.DefD := ⟨("is_name", none), "is_name", "is_name", defArgs (top 10), defBody (top 10), defScope (top 10), [], []⟩
def d_figures_in : He.DefD := ⟨("figures_in", none), "figures_in", "figures_in", defArgs (top 11), defBody (top 11), defScope (top 11), [], []⟩
def d_is_letter : He.DefD := ⟨("is_letter", none), "is_letter", "is_letter", defArgs (top 12), defBody (top 12), defScope (top 12), [], []⟩
def d_is_number : He.DefD := ⟨("is_number", none), "is_number", "is_number", defArgs (top 18), defBody (top 18), defScope (top 18), [], []⟩
def d_are_places : He.DefD := ⟨("are_places", none), "are_places", "are_places", defArgs (top 19), defBody (top 19), defScope (top 19), [], []⟩
def d_is_road : He.DefD := ⟨("is_road", none), "is_road", "is_road", defArgs (top 20), defBody (top 20), defScope (top 20), [], []⟩
def d_is_net : He.DefD := ⟨("is_net", none), "is_net", "is_net", defArgs (top 21), defBody (top 21), defScope (top 21), [], []⟩
def d_need_net : He.DefD := ⟨("need_net", none), "need_net", "need_net", defArgs (top 22), defBody (top 22), defScope (top 22), [], []⟩
def d_with_road : He.DefD := ⟨("with_road", none), "with_road", "with_road", defArgs (top 23), defBody (top 23), defScope (top 23), [], []⟩
def d_without_road : He.DefD := ⟨("without_road", none), "without_road", "without_road", defArgs (top 24), defBody (top 24), defScope (top 24), [], []⟩
def d__law_spread : He.DefD := ⟨("_law_spread", none), "_law_spread", "_law_spread", defArgs (top 26), defBody (top 26), defScope (top 26), [], []⟩
def d__law_spring : He.DefD := ⟨("_law_spring", none), "_law_spring", "_law_spring", defArgs (top 27), defBody (top 27), defScope (top 27), [], []⟩
def d__law_under : He.DefD := ⟨("_law_under", none), "_law_under", "_law_under", defArgs (top 28), defBody (top 28), defScope (top 28), [], []⟩
def d__law_any : He.DefD := ⟨("_law_any", none), "_law_any", "_law_any", defArgs (top 29), defBody (top 29), defScope (top 29), [], []⟩
def d__law_alike : He.DefD := ⟨("_law_alike", none), "_law_alike", "_law_alike", defArgs (top 30), defBody (top 30), defScope (top 30), [], []⟩
def d__law_some_net : He.DefD := ⟨("_law_some_net", none), "_law_some_net", "_law_some_net", defArgs (top 31), defBody (top 31), defScope (top 31), [], []⟩
def d__law_bent : He.DefD := ⟨("_law_bent", none), "_law_bent", "_law_bent", defArgs (top 32), defBody (top 32), defScope (top 32), [], []⟩
def d__law_is_number : He.DefD := ⟨("_law_is_number", none), "_law_is_number", "_law_is_number", defArgs (top 33), defBody (top 33), defScope (top 33), [], []⟩
def d__law_is_letter : He.DefD := ⟨("_law_is_letter", none), "_law_is_letter", "_law_is_letter", defArgs (top 34), defBody (top 34), defScope (top 34), [], []⟩
def d__law_is_road : He.DefD := ⟨("_law_is_road", none), "_law_is_road", "_law_is_road", defArgs (top 35), defBody (top 35), defScope (top 35), [], []⟩
def d__law_is_net : He.DefD := ⟨("_law_is_net", none), "_law_is_net", "_law_is_net", defArgs (top 36), defBody (top 36), defScope (top 36), [], []⟩
def d__law_told : He.DefD := ⟨("_law_told", none), "_law_told", "_law_told", defArgs (top 37), defBody (top 37), defScope (top 37), [], []⟩
def d__law_due : He.DefD := ⟨("_law_due", none), "_law_due", "_law_due", defArgs (top 38), defBody (top 38), defScope (top 38), [], []⟩
def d__law_bounds_right : He.DefD := ⟨("_law_bounds_right", none), "_law_bounds_right", "_law_bounds_right", defArgs (top 39), defBody (top 39), defScope (top 39), [], []⟩
def d_law : He.DefD := ⟨("law", none), "law", "law", defArgs (top 40), defBody (top 40), defScope (top 40), [], []⟩
def inCls (i j : Nat) : Stmt := match top i with | .ClassDef _ _ _ b _ _ _ _ _ _ _ => b.getD j (.Pass ⟨0, 0, 0, 0⟩) | _ => .Pass ⟨0, 0, 0, 0⟩
def i_TooMany : IniD := ⟨"TooMany", "limit", "limit", true, "TooMany.__init__", defArgs (inCls 4 0), defBody (inCls 4 0), defScope (inCls 4 0)⟩
def L : LawX := ⟨LT, [d_is_name, d_figures_in, d_is_letter, d_is_number, d_are_places, d_is_road, d_is_net, d_need_net, d_with_road, d_without_road, d__law_spread, d__law_spring, d__law_under, d__law_any, d__law_alike, d__law_some_net, d__law_bent, d__law_is_number, d__law_is_letter, d__law_is_road, d__law_is_net, d__law_told, d__law_due, d__law_bounds_right, d_law], [i_TooMany], (PySem.Challenge.pw_toldroads_k20_nets.main.file : Str)⟩
theorem p_is_name : FnP LT d_is_name f_is_name n_is_name ["thing"] (top 10) where
  pa := rfl
  bo := rfl
  sc := rfl
  df := ⟨rfl, rfl⟩
  at_ := rfl
  S := ⟨rfl, rfl, rfl, by decide +kernel, rfl, by decide +kernel, by decide +kernel⟩
  bind := fun _ _ _ _ _ _ us hl => match us, hl with | [_], _ => rfl
  np := rfl
  ns := rfl
  io := by decide
  io1 := by decide
  body := fun C Cd => b_is_name C Cd
theorem p_figures_in : FnP LT d_figures_in f_figures_in n_figures_in ["text", "most"] (top 11) where
  pa := rfl
  bo := rfl
  sc := rfl
  df := ⟨rfl, rfl⟩
  at_ := rfl
  S := ⟨rfl, rfl, rfl, by decide +kernel, rfl, by decide +kernel, by decide +kernel⟩
  bind := fun _ _ _ _ _ _ us hl => match us, hl with | [_, _], _ => rfl
  np := rfl
  ns := rfl
  io := by decide
  io1 := by decide
  body := fun C Cd => b_figures_in C Cd
theorem p_is_letter : FnP LT d_is_letter f_is_letter n_is_letter ["thing"] (top 12) where
  pa := rfl
  bo := rfl
  sc := rfl
  df := ⟨rfl, rfl⟩
  at_ := rfl
  S := ⟨rfl, rfl, rfl, by decide +kernel, rfl, by decide +kernel, by decide +kernel⟩
  bind := fun _ _ _ _ _ _ us hl => match us, hl with | [_], _ => rfl
  np := rfl
  ns := rfl
  io := by decide
  io1 := by decide
  body := fun C Cd => b_is_letter C Cd
theorem p_is_number : FnP LT d_is_number f_is_number n_is_number ["thing", "most"] (top 18) where
  pa := rfl
  bo := rfl
  sc := rfl
  df := ⟨rfl, rfl⟩
  at_ := rfl
  S := ⟨rfl, rfl, rfl, by decide +kernel, rfl, by decide +kernel, by decide +kernel⟩
  bind := fun _ _ _ _ _ _ us hl => match us, hl with | [_, _], _ => rfl
  np := rfl
  ns := rfl
  io := by decide
  io1 := by decide
  body := fun C Cd => b_is_number C Cd
theorem p_are_places : FnP LT d_are_places f_are_places n_are_places ["thing"] (top 19) where
  pa := rfl
  bo := rfl
  sc := rfl
  df := ⟨rfl, rfl⟩
  at_ := rfl
  S := ⟨rfl, rfl, rfl, by decide +kernel, rfl, by decide +kernel, by decide +kernel⟩
  bind := fun _ _ _ _ _ _ us hl => match us, hl with | [_], _ => rfl
  np := rfl
  ns := rfl
  io := by decide
  io1 := by decide
  body := fun C Cd => b_are_places C Cd
theorem p_is_road : FnP LT d_is_road f_is_road n_is_road ["places", "thing"] (top 20) where
  pa := rfl
  bo := rfl
  sc := rfl
  df := ⟨rfl, rfl⟩
  at_ := rfl
  S := ⟨rfl, rfl, rfl, by decide +kernel, rfl, by decide +kernel, by decide +kernel⟩
  bind := fun _ _ _ _ _ _ us hl => match us, hl with | [_, _], _ => rfl
  np := rfl
  ns := rfl
  io := by decide
  io1 := by decide
  body := fun C Cd => b_is_road C Cd
theorem p_is_net : FnP LT d_is_net f_is_net n_is_net ["thing"] (top 21) where
  pa := rfl
  bo := rfl
  sc := rfl
  df := ⟨rfl, rfl⟩
  at_ := rfl
  S := ⟨rfl, rfl, rfl, by decide +kernel, rfl, by decide +kernel, by decide +kernel⟩
  bind := fun _ _ _ _ _ _ us hl => match us, hl with | [_], _ => rfl
  np := rfl
  ns := rfl
  io := by decide
  io1 := by decide
  body := fun C Cd => b_is_net C Cd
theorem p_need_net : FnP LT d_need_net f_need_net n_need_net ["net"] (top 22) where
  pa := rfl
  bo := rfl
  sc := rfl
  df := ⟨rfl, rfl⟩
  at_ := rfl
  S := ⟨rfl, rfl, rfl, by decide +kernel, rfl, by decide +kernel, by decide +kernel⟩
  bind := fun _ _ _ _ _ _ us hl => match us, hl with | [_], _ => rfl
  np := rfl
  ns := rfl
  io := by decide
  io1 := by decide
  body := fun C Cd => b_need_net C Cd
theorem p_with_road : FnP LT d_with_road f_with_road n_with_road ["net", "road"] (top 23) where
  pa := rfl
  bo := rfl
  sc := rfl
  df := ⟨rfl, rfl⟩
  at_ := rfl
  S := ⟨rfl, rfl, rfl, by decide +kernel, rfl, by decide +kernel, by decide +kernel⟩
  bind := fun _ _ _ _ _ _ us hl => match us, hl with | [_, _], _ => rfl
  np := rfl
  ns := rfl
  io := by decide
  io1 := by decide
  body := fun C Cd => b_with_road C Cd
theorem p_without_road : FnP LT d_without_road f_without_road n_without_road ["net", "road"] (top 24) where
  pa := rfl
  bo := rfl
  sc := rfl
  df := ⟨rfl, rfl⟩
  at_ := rfl
  S := ⟨rfl, rfl, rfl, by decide +kernel, rfl, by decide +kernel, by decide +kernel⟩
  bind := fun _ _ _ _ _ _ us hl => match us, hl with | [_, _], _ => rfl
  np := rfl
  ns := rfl
  io := by decide
  io1 := by decide
  body := fun C Cd => b_without_road C Cd
theorem p__law_spread : FnP LT d__law_spread f__law_spread n__law_spread ["_law_small", "_law_spot"] (top 26) where
  pa := rfl
  bo := rfl
  sc := rfl
  df := ⟨rfl, rfl⟩
  at_ := rfl
  S := ⟨rfl, rfl, rfl, by decide +kernel, rfl, by decide +kernel, by decide +kernel⟩
  bind := fun _ _ _ _ _ _ us hl => match us, hl with | [_, _], _ => rfl
  np := rfl
  ns := rfl
  io := by decide
  io1 := by decide
  body := fun C Cd => b__law_spread C Cd
theorem p__law_spring : FnP LT d__law_spring f__law_spring n__law_spring ["_law_script"] (top 27) where
  pa := rfl
  bo := rfl
  sc := rfl
  df := ⟨rfl, rfl⟩
  at_ := rfl
  S := ⟨rfl, rfl, rfl, by decide +kernel, rfl, by decide +kernel, by decide +kernel⟩
  bind := fun _ _ _ _ _ _ us hl => match us, hl with | [_], _ => rfl
  np := rfl
  ns := rfl
  io := by decide
  io1 := by decide
  body := fun C Cd => b__law_spring C Cd
theorem p__law_under : FnP LT d__law_under f__law_under n__law_under ["_law_spring_here", "_law_many"] (top 28) where
  pa := rfl
  bo := rfl
  sc := rfl
  df := ⟨rfl, rfl⟩
  at_ := rfl
  S := ⟨rfl, rfl, rfl, by decide +kernel, rfl, by decide +kernel, by decide +kernel⟩
  bind := fun _ _ _ _ _ _ us hl => match us, hl with | [_, _], _ => rfl
  np := rfl
  ns := rfl
  io := by decide
  io1 := by decide
  body := fun C Cd => b__law_under C Cd
theorem p__law_any : FnP LT d__law_any f__law_any n__law_any ["_law_spring_here", "_law_items"] (top 29) where
  pa := rfl
  bo := rfl
  sc := rfl
  df := ⟨rfl, rfl⟩
  at_ := rfl
  S := ⟨rfl, rfl, rfl, by decide +kernel, rfl, by decide +kernel, by decide +kernel⟩
  bind := fun _ _ _ _ _ _ us hl => match us, hl with | [_, _], _ => rfl
  np := rfl
  ns := rfl
  io := by decide
  io1 := by decide
  body := fun C Cd => b__law_any C Cd
theorem p__law_alike : FnP LT d__law_alike f__law_alike n__law_alike ["_law_found", "_law_due_here"] (top 30) where
  pa := rfl
  bo := rfl
  sc := rfl
  df := ⟨rfl, rfl⟩
  at_ := rfl
  S := ⟨rfl, rfl, rfl, by decide +kernel, rfl, by decide +kernel, by decide +kernel⟩
  bind := fun _ _ _ _ _ _ us hl => match us, hl with | [_, _], _ => rfl
  np := rfl
  ns := rfl
  io := by decide
  io1 := by decide
  body := fun C Cd => b__law_alike C Cd
theorem p__law_some_net : FnP LT d__law_some_net f__law_some_net n__law_some_net ["_law_spring_here", "_law_most", "_law_roads", "_law_letters"] (top 31) where
  pa := rfl
  bo := rfl
  sc := rfl
  df := ⟨rfl, rfl⟩
  at_ := rfl
  S := ⟨rfl, rfl, rfl, by decide +kernel, rfl, by decide +kernel, by decide +kernel⟩
  bind := fun _ _ _ _ _ _ us hl => match us, hl with | [_, _, _, _], _ => rfl
  np := rfl
  ns := rfl
  io := by decide
  io1 := by decide
  body := fun C Cd => b__law_some_net C Cd
theorem p__law_bent : FnP LT d__law_bent f__law_bent n__law_bent ["_law_spring_here", "_law_thing", "_law_others"] (top 32) where
  pa := rfl
  bo := rfl
  sc := rfl
  df := ⟨rfl, rfl⟩
  at_ := rfl
  S := ⟨rfl, rfl, rfl, by decide +kernel, rfl, by decide +kernel, by decide +kernel⟩
  bind := fun _ _ _ _ _ _ us hl => match us, hl with | [_, _, _], _ => rfl
  np := rfl
  ns := rfl
  io := by decide
  io1 := by decide
  body := fun C Cd => b__law_bent C Cd
theorem p__law_is_number : FnP LT d__law_is_number f__law_is_number n__law_is_number ["_law_thing", "_law_most"] (top 33) where
  pa := rfl
  bo := rfl
  sc := rfl
  df := ⟨rfl, rfl⟩
  at_ := rfl
  S := ⟨rfl, rfl, rfl, by decide +kernel, rfl, by decide +kernel, by decide +kernel⟩
  bind := fun _ _ _ _ _ _ us hl => match us, hl with | [_, _], _ => rfl
  np := rfl
  ns := rfl
  io := by decide
  io1 := by decide
  body := fun C Cd => b__law_is_number C Cd
theorem p__law_is_letter : FnP LT d__law_is_letter f__law_is_letter n__law_is_letter ["_law_thing"] (top 34) where
  pa := rfl
  bo := rfl
  sc := rfl
  df := ⟨rfl, rfl⟩
  at_ := rfl
  S := ⟨rfl, rfl, rfl, by decide +kernel, rfl, by decide +kernel, by decide +kernel⟩
  bind := fun _ _ _ _ _ _ us hl => match us, hl with | [_], _ => rfl
  np := rfl
  ns := rfl
  io := by decide
  io1 := by decide
  body := fun C Cd => b__law_is_letter C Cd
theorem p__law_is_road : FnP LT d__law_is_road f__law_is_road n__law_is_road ["_law_places", "_law_thing"] (top 35) where
  pa := rfl
  bo := rfl
  sc := rfl
  df := ⟨rfl, rfl⟩
  at_ := rfl
  S := ⟨rfl, rfl, rfl, by decide +kernel, rfl, by decide +kernel, by decide +kernel⟩
  bind := fun _ _ _ _ _ _ us hl => match us, hl with | [_, _], _ => rfl
  np := rfl
  ns := rfl
  io := by decide
  io1 := by decide
  body := fun C Cd => b__law_is_road C Cd
theorem p__law_is_net : FnP LT d__law_is_net f__law_is_net n__law_is_net ["_law_thing"] (top 36) where
  pa := rfl
  bo := rfl
  sc := rfl
  df := ⟨rfl, rfl⟩
  at_ := rfl
  S := ⟨rfl, rfl, rfl, by decide +kernel, rfl, by decide +kernel, by decide +kernel⟩
  bind := fun _ _ _ _ _ _ us hl => match us, hl with | [_], _ => rfl
  np := rfl
  ns := rfl
  io := by decide
  io1 := by decide
  body := fun C Cd => b__law_is_net C Cd
theorem p__law_told : FnP LT d__law_told f__law_told n__law_told ["_law_way", "_law_net", "_law_road"] (top 37) where
  pa := rfl
  bo := rfl
  sc := rfl
  df := ⟨rfl, rfl⟩
  at_ := rfl
  S := ⟨rfl, rfl, rfl, by decide +kernel, rfl, by decide +kernel, by decide +kernel⟩
  bind := fun _ _ _ _ _ _ us hl => match us, hl with | [_, _, _], _ => rfl
  np := rfl
  ns := rfl
  io := by decide
  io1 := by decide
  body := fun C Cd => b__law_told C Cd
theorem p__law_due : FnP LT d__law_due f__law_due n__law_due ["_law_way", "_law_net", "_law_road"] (top 38) where
  pa := rfl
  bo := rfl
  sc := rfl
  df := ⟨rfl, rfl⟩
  at_ := rfl
  S := ⟨rfl, rfl, rfl, by decide +kernel, rfl, by decide +kernel, by decide +kernel⟩
  bind := fun _ _ _ _ _ _ us hl => match us, hl with | [_, _, _], _ => rfl
  np := rfl
  ns := rfl
  io := by decide
  io1 := by decide
  body := fun C Cd => b__law_due C Cd
theorem p__law_bounds_right : FnP LT d__law_bounds_right f__law_bounds_right n__law_bounds_right [] (top 39) where
  pa := rfl
  bo := rfl
  sc := rfl
  df := ⟨rfl, rfl⟩
  at_ := rfl
  S := ⟨rfl, rfl, rfl, by decide +kernel, rfl, by decide +kernel, by decide +kernel⟩
  bind := fun _ _ _ _ _ _ us hl => match us, hl with | [], _ => rfl
  np := rfl
  ns := rfl
  io := by decide
  io1 := by decide
  body := fun C Cd => b__law_bounds_right C Cd
theorem p_law : FnP LT d_law f_law n_law ["_law_script"] (top 40) where
  pa := rfl
  bo := rfl
  sc := rfl
  df := ⟨rfl, rfl⟩
  at_ := rfl
  S := ⟨rfl, rfl, rfl, by decide +kernel, rfl, by decide +kernel, by decide +kernel⟩
  bind := fun _ _ _ _ _ _ us hl => match us, hl with | [_], _ => rfl
  np := rfl
  ns := rfl
  io := by decide
  io1 := by decide
  body := fun C Cd => b_law C Cd
theorem sc_TooMany : IniSc (defScope (inCls 4 0)) "limit" := ⟨rfl, rfl, rfl, by decide +kernel, by decide +kernel, rfl, rfl, rfl, rfl, by decide, by decide, by decide⟩
theorem if_TooMany : IniF i_TooMany where
  sc := sc_TooMany
  bd := ⟨_, _, _, _, _, _, _, _, _, _, rfl, rfl, fun _ => ⟨_, rfl⟩, msg_int sc_TooMany (by decide)⟩
  pa := ⟨_, rfl, rfl⟩
  bind := fun _ _ _ _ _ _ _ _ us hl => match us, hl with | [_, _], _ => by kernel_rfl
theorem at_fns : ∀ (f : Nat) (d : He.DefD) (fn : Fn), L.fns[f]? = some d → L.T.tbl[f]? = some fn → ∃ N ps st, FnP L.T d fn N ps st
  | 0, d, fn, h1, h2 => have e1 : some d_is_name = some d := h1; have e2 : some f_is_name = some fn := h2; by cases e1; cases e2; exact ⟨_, _, _, p_is_name⟩
  | 1, d, fn, h1, h2 => have e1 : some d_figures_in = some d := h1; have e2 : some f_figures_in = some fn := h2; by cases e1; cases e2; exact ⟨_, _, _, p_figures_in⟩
  | 2, d, fn, h1, h2 => have e1 : some d_is_letter = some d := h1; have e2 : some f_is_letter = some fn := h2; by cases e1; cases e2; exact ⟨_, _, _, p_is_letter⟩
  | 3, d, fn, h1, h2 => have e1 : some d_is_number = some d := h1; have e2 : some f_is_number = some fn := h2; by cases e1; cases e2; exact ⟨_, _, _, p_is_number⟩
  | 4, d, fn, h1, h2 => have e1 : some d_are_places = some d := h1; have e2 : some f_are_places = some fn := h2; by cases e1; cases e2; exact ⟨_, _, _, p_are_places⟩
  | 5, d, fn, h1, h2 => have e1 : some d_is_road = some d := h1; have e2 : some f_is_road = some fn := h2; by cases e1; cases e2; exact ⟨_, _, _, p_is_road⟩
  | 6, d, fn, h1, h2 => have e1 : some d_is_net = some d := h1; have e2 : some f_is_net = some fn := h2; by cases e1; cases e2; exact ⟨_, _, _, p_is_net⟩
  | 7, d, fn, h1, h2 => have e1 : some d_need_net = some d := h1; have e2 : some f_need_net = some fn := h2; by cases e1; cases e2; exact ⟨_, _, _, p_need_net⟩
  | 8, d, fn, h1, h2 => have e1 : some d_with_road = some d := h1; have e2 : some f_with_road = some fn := h2; by cases e1; cases e2; exact ⟨_, _, _, p_with_road⟩
  | 9, d, fn, h1, h2 => have e1 : some d_without_road = some d := h1; have e2 : some f_without_road = some fn := h2; by cases e1; cases e2; exact ⟨_, _, _, p_without_road⟩
  | 10, d, fn, h1, h2 => have e1 : some d__law_spread = some d := h1; have e2 : some f__law_spread = some fn := h2; by cases e1; cases e2; exact ⟨_, _, _, p__law_spread⟩
  | 11, d, fn, h1, h2 => have e1 : some d__law_spring = some d := h1; have e2 : some f__law_spring = some fn := h2; by cases e1; cases e2; exact ⟨_, _, _, p__law_spring⟩
  | 12, d, fn, h1, h2 => have e1 : some d__law_under = some d := h1; have e2 : some f__law_under = some fn := h2; by cases e1; cases e2; exact ⟨_, _, _, p__law_under⟩
  | 13, d, fn, h1, h2 => have e1 : some d__law_any = some d := h1; have e2 : some f__law_any = some fn := h2; by cases e1; cases e2; exact ⟨_, _, _, p__law_any⟩
  | 14, d, fn, h1, h2 => have e1 : some d__law_alike = some d := h1; have e2 : some f__law_alike = some fn := h2; by cases e1; cases e2; exact ⟨_, _, _, p__law_alike⟩
  | 15, d, fn, h1, h2 => have e1 : some d__law_some_net = some d := h1; have e2 : some f__law_some_net = some fn := h2; by cases e1; cases e2; exact ⟨_, _, _, p__law_some_net⟩
  | 16, d, fn, h1, h2 => have e1 : some d__law_bent = some d := h1; have e2 : some f__law_bent = some fn := h2; by cases e1; cases e2; exact ⟨_, _, _, p__law_bent⟩
  | 17, d, fn, h1, h2 => have e1 : some d__law_is_number = some d := h1; have e2 : some f__law_is_number = some fn := h2; by cases e1; cases e2; exact ⟨_, _, _, p__law_is_number⟩
  | 18, d, fn, h1, h2 => have e1 : some d__law_is_letter = some d := h1; have e2 : some f__law_is_letter = some fn := h2; by cases e1; cases e2; exact ⟨_, _, _, p__law_is_letter⟩
  | 19, d, fn, h1, h2 => have e1 : some d__law_is_road = some d := h1; have e2 : some f__law_is_road = some fn := h2; by cases e1; cases e2; exact ⟨_, _, _, p__law_is_road⟩
  | 20, d, fn, h1, h2 => have e1 : some d__law_is_net = some d := h1; have e2 : some f__law_is_net = some fn := h2; by cases e1; cases e2; exact ⟨_, _, _, p__law_is_net⟩
  | 21, d, fn, h1, h2 => have e1 : some d__law_told = some d := h1; have e2 : some f__law_told = some fn := h2; by cases e1; cases e2; exact ⟨_, _, _, p__law_told⟩
  | 22, d, fn, h1, h2 => have e1 : some d__law_due = some d := h1; have e2 : some f__law_due = some fn := h2; by cases e1; cases e2; exact ⟨_, _, _, p__law_due⟩
  | 23, d, fn, h1, h2 => have e1 : some d__law_bounds_right = some d := h1; have e2 : some f__law_bounds_right = some fn := h2; by cases e1; cases e2; exact ⟨_, _, _, p__law_bounds_right⟩
  | 24, d, fn, h1, h2 => have e1 : some d_law = some d := h1; have e2 : some f_law = some fn := h2; by cases e1; cases e2; exact ⟨_, _, _, p_law⟩
  | k + 25, d, fn, h1, _ => have e1 : (none : Option He.DefD) = some d := h1; by cases e1
theorem at_nm : ∀ (f : Nat) (d : He.DefD), L.fns[f]? = some d → L.T.fnN[f]? = some d.name
  | 0, d, h1 => have e1 : some d_is_name = some d := h1; by cases e1; rfl
  | 1, d, h1 => have e1 : some d_figures_in = some d := h1; by cases e1; rfl
  | 2, d, h1 => have e1 : some d_is_letter = some d := h1; by cases e1; rfl
  | 3, d, h1 => have e1 : some d_is_number = some d := h1; by cases e1; rfl
  | 4, d, h1 => have e1 : some d_are_places = some d := h1; by cases e1; rfl
  | 5, d, h1 => have e1 : some d_is_road = some d := h1; by cases e1; rfl
  | 6, d, h1 => have e1 : some d_is_net = some d := h1; by cases e1; rfl
  | 7, d, h1 => have e1 : some d_need_net = some d := h1; by cases e1; rfl
  | 8, d, h1 => have e1 : some d_with_road = some d := h1; by cases e1; rfl
  | 9, d, h1 => have e1 : some d_without_road = some d := h1; by cases e1; rfl
  | 10, d, h1 => have e1 : some d__law_spread = some d := h1; by cases e1; rfl
  | 11, d, h1 => have e1 : some d__law_spring = some d := h1; by cases e1; rfl
  | 12, d, h1 => have e1 : some d__law_under = some d := h1; by cases e1; rfl
  | 13, d, h1 => have e1 : some d__law_any = some d := h1; by cases e1; rfl
  | 14, d, h1 => have e1 : some d__law_alike = some d := h1; by cases e1; rfl
  | 15, d, h1 => have e1 : some d__law_some_net = some d := h1; by cases e1; rfl
  | 16, d, h1 => have e1 : some d__law_bent = some d := h1; by cases e1; rfl
  | 17, d, h1 => have e1 : some d__law_is_number = some d := h1; by cases e1; rfl
  | 18, d, h1 => have e1 : some d__law_is_letter = some d := h1; by cases e1; rfl
  | 19, d, h1 => have e1 : some d__law_is_road = some d := h1; by cases e1; rfl
  | 20, d, h1 => have e1 : some d__law_is_net = some d := h1; by cases e1; rfl
  | 21, d, h1 => have e1 : some d__law_told = some d := h1; by cases e1; rfl
  | 22, d, h1 => have e1 : some d__law_due = some d := h1; by cases e1; rfl
  | 23, d, h1 => have e1 : some d__law_bounds_right = some d := h1; by cases e1; rfl
  | 24, d, h1 => have e1 : some d_law = some d := h1; by cases e1; rfl
  | k + 25, d, h1 => have e1 : (none : Option He.DefD) = some d := h1; by cases e1
theorem at_fld : ∀ (c : Nat) (ns : List Str) (ib : Bool), L.T.fld[c]? = some ns → L.T.ibs[c]? = some ib → ns ≠ [] → ∃ d ∈ L.inis, L.T.clN[c]? = some d.c ∧ ns = [d.fld] ∧ ib = d.ib
  | 0, ns, ib, h1, _, h3 => have e1 : some [] = some ns := h1; by cases e1; exact absurd rfl h3
  | 1, ns, ib, h1, _, h3 => have e1 : some [] = some ns := h1; by cases e1; exact absurd rfl h3
  | 2, ns, ib, h1, _, h3 => have e1 : some [] = some ns := h1; by cases e1; exact absurd rfl h3
  | 3, ns, ib, h1, h2, _ => have e1 : (some ["limit"] : Option (List Str)) = some ns := h1; have e2 : some true = some ib := h2; by cases e1; cases e2; exact ⟨i_TooMany, by simp [L], rfl, rfl, rfl⟩
  | k + 4, ns, ib, h1, _, _ => have e1 : (none : Option (List Str)) = some ns := h1; by cases e1
theorem cls_out : ∀ c', LT.clN.length ≤ c' → ∀ c, LT.cls c' c = LT.cls 0 c := fun c' h c => by
  have e : clsT.getD c' [0] = [0] := getD_out h
  show (clsT.getD c' [0]).contains c = (clsT.getD 0 [0]).contains c
  rw [e]; rfl
theorem ok : LawOk L := ⟨⟨by decide, cls_out⟩, Nat.le_refl _, at_nm, at_fns, fun d m => by
  have m' : d ∈ [i_TooMany] := m
  simp only [List.mem_cons, List.not_mem_nil, or_false] at m'
  rcases m' with rfl
  · exact if_TooMany, at_fld⟩
abbrev R : PySem.W.OpenRow := PySem.W.OpenLaw.row PySem.Challenge.rw_toldroads_k20_nets
def loose : List PySem.Str := (["RoadError", "NoNet", "NoRoad", "TooMany", "SMALL", "FIGURES", "MOST_SIGNS", "MOST_AGE", "is_name", "figures_in", "is_letter", "MAX_PLACES", "MAX_PLACE", "MAX_ROADS", "MAX_COST", "is_number", "are_places", "is_road", "is_net", "need_net", "with_road", "without_road", "_law_spread", "_law_spring", "_law_under", "_law_any", "_law_alike", "_law_some_net", "_law_bent", "_law_is_number"] : List PySem.Str) ++ (["_law_is_letter", "_law_is_road", "_law_is_net", "_law_told", "_law_due", "_law_bounds_right"] : List PySem.Str)
theorem run (w : World) : HandSHeadRun.RunEq R (PySem.W.view R.prog [40]) (L.hook 6) (L.ob 6) 6000 loose w := by
  intro os
  kernel_rfl
end K20
end SK20Hd
section SPlBase
set_option Elab.async false
set_option linter.all false
set_option maxRecDepth 100000
namespace EV
open PySem
/-! ### the evaluator's equations, for simp -/
section
variable {cls : Nat → Nat → Bool} {cl : Nat → List Val → CRes} {r : Rec} {ρ : Env}
@[simp] theorem evF_e {n : Nat} {e : Ex} : (evF cls cl (n + 1)).e e ρ = stepE cls cl (evF cls cl n) e ρ := rfl
@[simp] theorem evF_s {n : Nat} {e : Sm} : (evF cls cl (n + 1)).s e ρ = stepS cls (evF cls cl n) e ρ := rfl
@[simp] theorem bind_okE {α β : Type} {a : α} {f : α → Env → Out β} : (Out.ok a ρ).bind f = f a ρ := rfl
@[simp] theorem bind_excE {α β : Type} {c : Nat} {fs : List D} {f : α → Env → Out β} : (Out.exc c fs ρ : Out α).bind f = .exc c fs ρ := rfl
@[simp] theorem bind_cond {α β : Type} {b : Bool} {x y : Out α} {f : α → Env → Out β} : (cond b x y).bind f = cond b (x.bind f) (y.bind f) := by cases b <;> rfl
@[simp] theorem ofO_some {α : Type} {a : α} : ofO (some a) ρ = .ok a ρ := rfl
theorem e_var {i : Nat} {v : Val} (h : ρ[i]? = some (some (v))) : stepE cls cl r (.var i) ρ = .ok v.frz (frzAt ρ i v) := by
  show (match ρ[i]? with | some (some v) => Out.ok v.frz (frzAt ρ i v) | _ => .stuck) = _
  rw [h]
@[simp] theorem e_var' {i : Nat} : stepE cls cl r (.var i) ρ = (match ρ[i]? with | some (some v) => .ok v.frz (frzAt ρ i v) | _ => .stuck) := rfl
@[simp] theorem e_cst {d : D} : stepE cls cl r (.cst d) ρ = .ok (.dat d) ρ := rfl
@[simp] theorem e_gl {x : Str} {d : D} : stepE cls cl r (.gl x d) ρ = .ok (.dat d) ρ := rfl
@[simp] theorem e_pr {p : Prim} {as : List Ex} : stepE cls cl r (.pr p as) ρ = (evDs r as ρ).bind (prOut p) := rfl
@[simp] theorem e_tup {as : List Ex} : stepE cls cl r (.tup as) ρ = (evDs r as ρ).bind fun ds ρ => .ok (.dat (.tuple ds)) ρ := rfl
@[simp] theorem e_lst {as : List Ex} : stepE cls cl r (.lst as) ρ = (evDs r as ρ).bind fun ds ρ => .ok (.ol ds) ρ := rfl
@[simp] theorem e_dct {ks vs : List Ex} : stepE cls cl r (.dct ks vs) ρ = (evDs r (mixE ks vs) ρ).bind fun ds ρ => ofO ((mixD ds []).map .od) ρ := rfl
@[simp] theorem e_not {a : Ex} : stepE cls cl r (.not_ a) ρ = (evT r a ρ).bind fun b ρ => .ok (.dat (.bool (!b))) ρ := rfl
@[simp] theorem e_and {as : List Ex} : stepE cls cl r (.and_ as) ρ = evAnd r as ρ := rfl
@[simp] theorem e_or {as : List Ex} : stepE cls cl r (.or_ as) ρ = evOr r as ρ := rfl
@[simp] theorem e_ife {c a b : Ex} : stepE cls cl r (.ife c a b) ρ = (evT r c ρ).bind fun k ρ => cond k (r.e a ρ) (r.e b ρ) := rfl
@[simp] theorem e_chain {p q : Prim} {a b c : Ex} : stepE cls cl r (.chain p q a b c) ρ = (evChain r p q a b c ρ).bind fun k ρ => .ok (.dat (.bool k)) ρ := rfl
@[simp] theorem e_call {f : Nat} {as : List Ex} : stepE cls cl r (.call f as) ρ = (evAs r as ρ).bind fun vs ρ => afterCall as (cl f vs) ρ := rfl
@[simp] theorem e_isx {e : Ex} {c : Nat} : stepE cls cl r (.isx e c) ρ = (r.e e ρ).bind fun v ρ => ofO ((isxOf cls c v).map fun b => .dat (.bool b)) ρ := rfl
@[simp] theorem e_fld {e : Ex} {cs : List Nat} {x : Nat} : stepE cls cl r (.fld e cs x) ρ = (r.e e ρ).bind fun v ρ => ofO ((fldOf cs v x).map .dat) ρ := rfl
@[simp] theorem s_set' {i : Nat} {e : Ex} : stepS cls r (.set i e) ρ = (r.e e ρ).bind fun v ρ => .ok .nx (ρ.set i (some v)) := rfl
@[simp] theorem s_setT' {is : List Nat} {e : Ex} : stepS cls r (.setT is e) ρ = (evDs r [e] ρ).bind fun ds ρ => (ofO (setTs is ds ρ) ρ).bind fun ρ _ => .ok .nx ρ := rfl
@[simp] theorem s_setP' {is : List Nat} {es : List Ex} : stepS cls r (.setP is es) ρ = (evVs r es ρ).bind fun vs ρ => (ofO (setVals is vs ρ) ρ).bind fun ρ _ => .ok .nx ρ := rfl
@[simp] theorem s_ret' {e : Ex} : stepS cls r (.ret e) ρ = (r.e e ρ).bind fun v ρ => .ok (.rt v) ρ := rfl
@[simp] theorem s_if' {c : Ex} {a b : List Sm} : stepS cls r (.if_ c a b) ρ = (evT r c ρ).bind fun k ρ => cond k (evSs r a ρ) (evSs r b ρ) := rfl
@[simp] theorem s_expr' {e : Ex} : stepS cls r (.expr e) ρ = (r.e e ρ).bind fun _ ρ => .ok .nx ρ := rfl
@[simp] theorem s_raise' {c : Nat} {as : List Ex} : stepS cls r (.raise c as) ρ = (evDs r as ρ).bind fun ds ρ => .exc c ds ρ := rfl
@[simp] theorem s_raiseF' {c n : Nat} {ib : Bool} {as : List Ex} : stepS cls r (.raiseF c n ib as) ρ = (evDs r as ρ).bind fun ds ρ => (ofO (iniOk n ib ds) ρ).bind fun _ ρ => .exc c ds.reverse ρ := rfl
@[simp] theorem ss_nil' : evSs r [] ρ = .ok .nx ρ := rfl
@[simp] theorem ss_cons' {s : Sm} {ss : List Sm} : evSs r (s :: ss) ρ = (r.s s ρ).bind fun f ρ => match f with | .nx => evSs r ss ρ | f => .ok f ρ := rfl
theorem ss_nx {s : Sm} {ss : List Sm} {ρ1 : Env} (h : r.s s ρ = .ok .nx ρ1) : evSs r (s :: ss) ρ = evSs r ss ρ1 := by rw [ss_cons', h]; rfl
theorem ss_rt {s : Sm} {ss : List Sm} {ρ1 : Env} {v : Val} (h : r.s s ρ = .ok (.rt v) ρ1) : evSs r (s :: ss) ρ = .ok (.rt v) ρ1 := by rw [ss_cons', h]; rfl
theorem ss_exc {s : Sm} {ss : List Sm} {ρ1 : Env} {c : Nat} {fs : List D} (h : r.s s ρ = .exc c fs ρ1) : evSs r (s :: ss) ρ = .exc c fs ρ1 := by rw [ss_cons', h]; rfl
@[simp] theorem ds_nil : evDs r [] ρ = .ok [] ρ := rfl
theorem ds_pk {i : Nat} {es : List Ex} {d : D} {ds : List D} {ρ' : Env} (h0 : ∃ d0, peek ρ i = some d0) (h : evDs r es ρ = .ok ds ρ') (h1 : peek ρ' i = some d) : evDs r (.pk i :: es) ρ = .ok (d :: ds) ρ' := by
  obtain ⟨d0, h0⟩ := h0
  show (match peek ρ i with | some _ => _ | none => Out.stuck) = _
  simp only [h0, h, bind_okE, h1]
theorem ds_e {e : Ex} {es : List Ex} {v : Val} {d : D} {ds : List D} {ρ1 ρ' : Env} (hp : ∀ i, e ≠ .pk i) (h0 : r.e e ρ = .ok v ρ1) (hd : v.data = some d) (h : evDs r es ρ1 = .ok ds ρ') : evDs r (e :: es) ρ = .ok (d :: ds) ρ' := by
  have e1 : evDs r (e :: es) ρ = (r.e e ρ).bind fun v ρ => match v.data with | some d => (evDs r es ρ).bind fun ds ρ => .ok (d :: ds) ρ | none => .stuck := by
    cases e <;> first | exact absurd rfl (hp _) | rfl
  rw [e1, h0]
  simp only [bind_okE, hd, h]
/-- an argument as data, then the others -/
def dsK (k : Env → Out (List D)) (v : Val) (ρ : Env) : Out (List D) := match v.data with | some d => (k ρ).bind fun ds ρ => .ok (d :: ds) ρ | none => .stuck
@[simp] theorem dsK_dat {k : Env → Out (List D)} {d : D} : dsK k (.dat d) ρ = (k ρ).bind fun ds ρ => .ok (d :: ds) ρ := rfl
@[simp] theorem dsK_ol {k : Env → Out (List D)} {xs : List D} : dsK k (.ol xs) ρ = (k ρ).bind fun ds ρ => .ok (.list xs :: ds) ρ := rfl
@[simp] theorem dsK_od {k : Env → Out (List D)} {xs : List (D × D)} : dsK k (.od xs) ρ = (k ρ).bind fun ds ρ => .ok (.dict xs :: ds) ρ := rfl
def pkK (i : Nat) (ds : List D) (ρ : Env) : Out (List D) := match peek ρ i with | some d => .ok (d :: ds) ρ | none => .stuck
@[simp] theorem pkK_def {i : Nat} {ds : List D} : pkK i ds ρ = (match peek ρ i with | some d => .ok (d :: ds) ρ | none => .stuck) := rfl
theorem pkK_of {i : Nat} {ds : List D} {d : D} (h : peek ρ i = some d) : pkK i ds ρ = .ok (d :: ds) ρ := by unfold pkK; rw [h]
@[simp] theorem ds_pk' {i : Nat} {es : List Ex} : evDs r (.pk i :: es) ρ = (match peek ρ i with | some _ => (evDs r es ρ).bind (pkK i) | none => .stuck) := rfl
@[simp] theorem peek_def {i : Nat} : peek ρ i = (match ρ[i]? with | some (some v) => v.data | _ => none) := rfl
@[simp] theorem data_dat {d : D} : (Val.dat d).data = some d := rfl
@[simp] theorem data_ol {d : List D} : (Val.ol d).data = some (.list d) := rfl
@[simp] theorem data_od {d : List (D × D)} : (Val.od d).data = some (.dict d) := rfl
@[simp] theorem frz_dat {d : D} : (Val.dat d).frz = .dat d := rfl
@[simp] theorem frz_ol {d : List D} : (Val.ol d).frz = .dat (.list d) := rfl
@[simp] theorem frz_od {d : List (D × D)} : (Val.od d).frz = .dat (.dict d) := rfl
@[simp] theorem frz_exc {c : Nat} {fs : List D} : (Val.exc c fs).frz = .exc c fs := rfl
@[simp] theorem frzAt_dat {i : Nat} {d : D} : frzAt ρ i (.dat d) = ρ := rfl
@[simp] theorem frzAt_exc {i : Nat} {c : Nat} {fs : List D} : frzAt ρ i (.exc c fs) = ρ := rfl
@[simp] theorem frzAt_ol {i : Nat} {d : List D} : frzAt ρ i (.ol d) = ρ.set i (some (.dat (.list d))) := rfl
@[simp] theorem as_nil' : evAs r [] ρ = .ok [] ρ := rfl
@[simp] theorem as_mt {i : Nat} {es : List Ex} : evAs r (.mt i :: es) ρ = (match ρ[i]? with | some (some _) => (evAs r es ρ).bind fun vs ρ => (match ρ[i]? with | some (some v) => .ok (v :: vs) ρ | _ => .stuck) | _ => .stuck) := rfl
@[simp] theorem back_nil : backAs [] [] ρ = some ρ := rfl
@[simp] theorem back_mt {i : Nat} {es : List Ex} {v : Val} {vs : List Val} : backAs (.mt i :: es) (v :: vs) ρ = backAs es vs (ρ.set i (some v)) := rfl
@[simp] theorem ds_var {i : Nat} {es : List Ex} : evDs r ((.var i) :: es) ρ = (r.e (.var i) ρ).bind fun v ρ => dsK (evDs r es) v ρ := rfl
@[simp] theorem ds_cst {d : D} {es : List Ex} : evDs r ((.cst d) :: es) ρ = (r.e (.cst d) ρ).bind fun v ρ => dsK (evDs r es) v ρ := rfl
@[simp] theorem ds_gl {x : Str} {d : D} {es : List Ex} : evDs r ((.gl x d) :: es) ρ = (r.e (.gl x d) ρ).bind fun v ρ => dsK (evDs r es) v ρ := rfl
@[simp] theorem ds_fnv {x : Str} {f : Nat} {es : List Ex} : evDs r ((.fnv x f) :: es) ρ = (r.e (.fnv x f) ρ).bind fun v ρ => dsK (evDs r es) v ρ := rfl
@[simp] theorem ds_pr {p : Prim} {as : List Ex} {es : List Ex} : evDs r ((.pr p as) :: es) ρ = (r.e (.pr p as) ρ).bind fun v ρ => dsK (evDs r es) v ρ := rfl
@[simp] theorem ds_tup {as : List Ex} {es : List Ex} : evDs r ((.tup as) :: es) ρ = (r.e (.tup as) ρ).bind fun v ρ => dsK (evDs r es) v ρ := rfl
@[simp] theorem ds_lst {as : List Ex} {es : List Ex} : evDs r ((.lst as) :: es) ρ = (r.e (.lst as) ρ).bind fun v ρ => dsK (evDs r es) v ρ := rfl
@[simp] theorem ds_dct {ks vs : List Ex} {es : List Ex} : evDs r ((.dct ks vs) :: es) ρ = (r.e (.dct ks vs) ρ).bind fun v ρ => dsK (evDs r es) v ρ := rfl
@[simp] theorem ds_not {a : Ex} {es : List Ex} : evDs r ((.not_ a) :: es) ρ = (r.e (.not_ a) ρ).bind fun v ρ => dsK (evDs r es) v ρ := rfl
@[simp] theorem ds_and {as : List Ex} {es : List Ex} : evDs r ((.and_ as) :: es) ρ = (r.e (.and_ as) ρ).bind fun v ρ => dsK (evDs r es) v ρ := rfl
@[simp] theorem ds_or {as : List Ex} {es : List Ex} : evDs r ((.or_ as) :: es) ρ = (r.e (.or_ as) ρ).bind fun v ρ => dsK (evDs r es) v ρ := rfl
@[simp] theorem ds_ife {c a b : Ex} {es : List Ex} : evDs r ((.ife c a b) :: es) ρ = (r.e (.ife c a b) ρ).bind fun v ρ => dsK (evDs r es) v ρ := rfl
@[simp] theorem ds_chain {p q : Prim} {a b c : Ex} {es : List Ex} : evDs r ((.chain p q a b c) :: es) ρ = (r.e (.chain p q a b c) ρ).bind fun v ρ => dsK (evDs r es) v ρ := rfl
@[simp] theorem ds_call {f : Nat} {as : List Ex} {es : List Ex} : evDs r ((.call f as) :: es) ρ = (r.e (.call f as) ρ).bind fun v ρ => dsK (evDs r es) v ρ := rfl
@[simp] theorem ds_lc {e : Ex} {t : Tgt} {k : ItK} {as cs : List Ex} {own : List Nat} {es : List Ex} : evDs r ((.lc e t k as cs own) :: es) ρ = (r.e (.lc e t k as cs own) ρ).bind fun v ρ => dsK (evDs r es) v ρ := rfl
@[simp] theorem ds_isx {e : Ex} {c : Nat} {es : List Ex} : evDs r ((.isx e c) :: es) ρ = (r.e (.isx e c) ρ).bind fun v ρ => dsK (evDs r es) v ρ := rfl
@[simp] theorem ds_fld {e : Ex} {cs : List Nat} {x : Nat} {es : List Ex} : evDs r ((.fld e cs x) :: es) ρ = (r.e (.fld e cs x) ρ).bind fun v ρ => dsK (evDs r es) v ρ := rfl
@[simp] theorem ds_scut {i : Nat} {a b : Ex} {es : List Ex} : evDs r ((.scut i a b) :: es) ρ = (r.e (.scut i a b) ρ).bind fun v ρ => dsK (evDs r es) v ρ := rfl
@[simp] theorem as_var {i : Nat} {es : List Ex} : evAs r ((.var i) :: es) ρ = (r.e (.var i) ρ).bind fun v ρ => (evAs r es ρ).bind fun vs ρ => .ok (v.frz :: vs) ρ := rfl
@[simp] theorem as_cst {d : D} {es : List Ex} : evAs r ((.cst d) :: es) ρ = (r.e (.cst d) ρ).bind fun v ρ => (evAs r es ρ).bind fun vs ρ => .ok (v.frz :: vs) ρ := rfl
@[simp] theorem as_gl {x : Str} {d : D} {es : List Ex} : evAs r ((.gl x d) :: es) ρ = (r.e (.gl x d) ρ).bind fun v ρ => (evAs r es ρ).bind fun vs ρ => .ok (v.frz :: vs) ρ := rfl
@[simp] theorem as_fnv {x : Str} {f : Nat} {es : List Ex} : evAs r ((.fnv x f) :: es) ρ = (r.e (.fnv x f) ρ).bind fun v ρ => (evAs r es ρ).bind fun vs ρ => .ok (v.frz :: vs) ρ := rfl
@[simp] theorem as_pr {p : Prim} {as : List Ex} {es : List Ex} : evAs r ((.pr p as) :: es) ρ = (r.e (.pr p as) ρ).bind fun v ρ => (evAs r es ρ).bind fun vs ρ => .ok (v.frz :: vs) ρ := rfl
@[simp] theorem as_tup {as : List Ex} {es : List Ex} : evAs r ((.tup as) :: es) ρ = (r.e (.tup as) ρ).bind fun v ρ => (evAs r es ρ).bind fun vs ρ => .ok (v.frz :: vs) ρ := rfl
@[simp] theorem as_lst {as : List Ex} {es : List Ex} : evAs r ((.lst as) :: es) ρ = (r.e (.lst as) ρ).bind fun v ρ => (evAs r es ρ).bind fun vs ρ => .ok (v.frz :: vs) ρ := rfl
@[simp] theorem as_dct {ks vs : List Ex} {es : List Ex} : evAs r ((.dct ks vs) :: es) ρ = (r.e (.dct ks vs) ρ).bind fun v ρ => (evAs r es ρ).bind fun vs ρ => .ok (v.frz :: vs) ρ := rfl
@[simp] theorem as_not {a : Ex} {es : List Ex} : evAs r ((.not_ a) :: es) ρ = (r.e (.not_ a) ρ).bind fun v ρ => (evAs r es ρ).bind fun vs ρ => .ok (v.frz :: vs) ρ := rfl
@[simp] theorem as_and {as : List Ex} {es : List Ex} : evAs r ((.and_ as) :: es) ρ = (r.e (.and_ as) ρ).bind fun v ρ => (evAs r es ρ).bind fun vs ρ => .ok (v.frz :: vs) ρ := rfl
@[simp] theorem as_or {as : List Ex} {es : List Ex} : evAs r ((.or_ as) :: es) ρ = (r.e (.or_ as) ρ).bind fun v ρ => (evAs r es ρ).bind fun vs ρ => .ok (v.frz :: vs) ρ := rfl
@[simp] theorem as_ife {c a b : Ex} {es : List Ex} : evAs r ((.ife c a b) :: es) ρ = (r.e (.ife c a b) ρ).bind fun v ρ => (evAs r es ρ).bind fun vs ρ => .ok (v.frz :: vs) ρ := rfl
@[simp] theorem as_chain {p q : Prim} {a b c : Ex} {es : List Ex} : evAs r ((.chain p q a b c) :: es) ρ = (r.e (.chain p q a b c) ρ).bind fun v ρ => (evAs r es ρ).bind fun vs ρ => .ok (v.frz :: vs) ρ := rfl
@[simp] theorem as_call {f : Nat} {as : List Ex} {es : List Ex} : evAs r ((.call f as) :: es) ρ = (r.e (.call f as) ρ).bind fun v ρ => (evAs r es ρ).bind fun vs ρ => .ok (v.frz :: vs) ρ := rfl
@[simp] theorem as_lc {e : Ex} {t : Tgt} {k : ItK} {as cs : List Ex} {own : List Nat} {es : List Ex} : evAs r ((.lc e t k as cs own) :: es) ρ = (r.e (.lc e t k as cs own) ρ).bind fun v ρ => (evAs r es ρ).bind fun vs ρ => .ok (v.frz :: vs) ρ := rfl
@[simp] theorem as_isx {e : Ex} {c : Nat} {es : List Ex} : evAs r ((.isx e c) :: es) ρ = (r.e (.isx e c) ρ).bind fun v ρ => (evAs r es ρ).bind fun vs ρ => .ok (v.frz :: vs) ρ := rfl
@[simp] theorem as_fld {e : Ex} {cs : List Nat} {x : Nat} {es : List Ex} : evAs r ((.fld e cs x) :: es) ρ = (r.e (.fld e cs x) ρ).bind fun v ρ => (evAs r es ρ).bind fun vs ρ => .ok (v.frz :: vs) ρ := rfl
@[simp] theorem as_scut {i : Nat} {a b : Ex} {es : List Ex} : evAs r ((.scut i a b) :: es) ρ = (r.e (.scut i a b) ρ).bind fun v ρ => (evAs r es ρ).bind fun vs ρ => .ok (v.frz :: vs) ρ := rfl
@[simp] theorem back_var {i : Nat} {es : List Ex} {vs : List Val} : backAs ((.var i) :: es) vs ρ = backAs es vs ρ := by cases vs <;> rfl
@[simp] theorem back_cst {d : D} {es : List Ex} {vs : List Val} : backAs ((.cst d) :: es) vs ρ = backAs es vs ρ := by cases vs <;> rfl
@[simp] theorem back_gl {x : Str} {d : D} {es : List Ex} {vs : List Val} : backAs ((.gl x d) :: es) vs ρ = backAs es vs ρ := by cases vs <;> rfl
@[simp] theorem back_fnv {x : Str} {f : Nat} {es : List Ex} {vs : List Val} : backAs ((.fnv x f) :: es) vs ρ = backAs es vs ρ := by cases vs <;> rfl
@[simp] theorem back_pr {p : Prim} {as : List Ex} {es : List Ex} {vs : List Val} : backAs ((.pr p as) :: es) vs ρ = backAs es vs ρ := by cases vs <;> rfl
@[simp] theorem back_tup {as : List Ex} {es : List Ex} {vs : List Val} : backAs ((.tup as) :: es) vs ρ = backAs es vs ρ := by cases vs <;> rfl
@[simp] theorem back_lst {as : List Ex} {es : List Ex} {vs : List Val} : backAs ((.lst as) :: es) vs ρ = backAs es vs ρ := by cases vs <;> rfl
@[simp] theorem back_dct {ks vs : List Ex} {es : List Ex} {ws : List Val} : backAs ((.dct ks vs) :: es) ws ρ = backAs es ws ρ := by cases ws <;> rfl
@[simp] theorem back_not {a : Ex} {es : List Ex} {vs : List Val} : backAs ((.not_ a) :: es) vs ρ = backAs es vs ρ := by cases vs <;> rfl
@[simp] theorem back_and {as : List Ex} {es : List Ex} {vs : List Val} : backAs ((.and_ as) :: es) vs ρ = backAs es vs ρ := by cases vs <;> rfl
@[simp] theorem back_or {as : List Ex} {es : List Ex} {vs : List Val} : backAs ((.or_ as) :: es) vs ρ = backAs es vs ρ := by cases vs <;> rfl
@[simp] theorem back_ife {c a b : Ex} {es : List Ex} {vs : List Val} : backAs ((.ife c a b) :: es) vs ρ = backAs es vs ρ := by cases vs <;> rfl
@[simp] theorem back_chain {p q : Prim} {a b c : Ex} {es : List Ex} {vs : List Val} : backAs ((.chain p q a b c) :: es) vs ρ = backAs es vs ρ := by cases vs <;> rfl
@[simp] theorem back_call {f : Nat} {as : List Ex} {es : List Ex} {vs : List Val} : backAs ((.call f as) :: es) vs ρ = backAs es vs ρ := by cases vs <;> rfl
@[simp] theorem back_lc {e : Ex} {t : Tgt} {k : ItK} {as cs : List Ex} {own : List Nat} {es : List Ex} {vs : List Val} : backAs ((.lc e t k as cs own) :: es) vs ρ = backAs es vs ρ := by cases vs <;> rfl
@[simp] theorem back_isx {e : Ex} {c : Nat} {es : List Ex} {vs : List Val} : backAs ((.isx e c) :: es) vs ρ = backAs es vs ρ := by cases vs <;> rfl
@[simp] theorem back_fld {e : Ex} {cs : List Nat} {x : Nat} {es : List Ex} {vs : List Val} : backAs ((.fld e cs x) :: es) vs ρ = backAs es vs ρ := by cases vs <;> rfl
@[simp] theorem back_scut {i : Nat} {a b : Ex} {es : List Ex} {vs : List Val} : backAs ((.scut i a b) :: es) vs ρ = backAs es vs ρ := by cases vs <;> rfl
@[simp] theorem vs_nil : evVs r [] ρ = .ok [] ρ := rfl
@[simp] theorem vs_cons {e : Ex} {es : List Ex} : evVs r (e :: es) ρ = (r.e e ρ).bind fun v ρ => (evVs r es ρ).bind fun vs ρ => .ok (v :: vs) ρ := rfl
@[simp] theorem evT_def {e : Ex} : evT r e ρ = (r.e e ρ).bind boolR := rfl
@[simp] theorem boolR_b {b : Bool} : boolR (.dat (.bool b)) ρ = .ok b ρ := rfl
@[simp] theorem and_one {e : Ex} : evAnd r [e] ρ = r.e e ρ := rfl
@[simp] theorem and_cons {e e2 : Ex} {es : List Ex} : evAnd r (e :: e2 :: es) ρ = (evT r e ρ).bind fun b ρ => cond b (evAnd r (e2 :: es) ρ) (.ok (.dat (.bool false)) ρ) := rfl
@[simp] theorem or_one {e : Ex} : evOr r [e] ρ = r.e e ρ := rfl
@[simp] theorem or_cons {e e2 : Ex} {es : List Ex} : evOr r (e :: e2 :: es) ρ = (evT r e ρ).bind fun b ρ => cond b (.ok (.dat (.bool true)) ρ) (evOr r (e2 :: es) ρ) := rfl
@[simp] theorem ts_nil' : evTs r [] ρ = .ok true ρ := rfl
@[simp] theorem ts_cons' {c : Ex} {cs : List Ex} : evTs r (c :: cs) ρ = (evT r c ρ).bind fun b ρ => cond b (evTs r cs ρ) (.ok false ρ) := rfl
@[simp] theorem after_ret {es : List Ex} {v : Val} {outs : List Val} : afterCall es (.ret v outs) ρ = (match backAs es outs ρ with | some ρ => .ok v ρ | none => .stuck) := rfl
@[simp] theorem after_exc {es : List Ex} {c : Nat} {fs : List D} {outs : List Val} : afterCall es (.exc c fs outs) ρ = (match backAs es outs ρ with | some ρ => .exc c fs ρ | none => .stuck) := rfl
@[simp] theorem prOut_def {p : Prim} {ds : List D} : prOut p ds ρ = ofO ((psem p ds).map PR.val) ρ := rfl
@[simp] theorem prval_dat {d : D} : PR.val (.dat d) = .dat d := rfl
@[simp] theorem prval_lst {d : List D} : PR.val (.lst d) = .ol d := rfl
@[simp] theorem chain_def {p q : Prim} {a b c : Ex} : evChain r p q a b c ρ = (evDs r [a, b] ρ).bind fun ds ρ => ((prOut p ds ρ).bind boolR).bind fun k ρ => cond k
    ((ofO (sndInt ds) ρ).bind fun y ρ => (evDs r [c] ρ).bind fun cs ρ => (prOut q (.int y :: cs) ρ).bind boolR) (.ok false ρ) := rfl
@[simp] theorem sndInt_def {d : D} {n : Int} : sndInt [d, .int n] = some n := rfl
@[simp] theorem evI_def {k : ItK} {as : List Ex} : evI r k as ρ = (evDs r as ρ).bind fun ds ρ => ofO (itSem k ds) ρ := rfl
end
/-- a def's end -/
def finP (io : List Nat) (o : Out Fl) : CRes :=
  match o with
  | .ok (.rt v) ρ => (match outsOf io ρ with | some o => .ret v o | none => .stuck)
  | .ok .nx ρ => (match outsOf io ρ with | some o => .ret (.dat .none) o | none => .stuck)
  | .exc c fs ρ => (match outsOf io ρ with | some o => .exc c fs o | none => .stuck)
  | _ => .stuck
@[simp] theorem finP_rt {ρ : Env} {io : List Nat} {v : Val} {o : List Val} (h : outsOf io ρ = some o) : finP io (.ok (.rt v) ρ) = .ret v o := by show (match outsOf io ρ with | some o => CRes.ret v o | none => .stuck) = _; rw [h]
@[simp] theorem finP_cond {io : List Nat} {b : Bool} {x y : Out Fl} : finP io (cond b x y) = cond b (finP io x) (finP io y) := by cases b <;> rfl
@[simp] theorem outs0 {ρ : Env} : outsOf [] ρ = some [] := rfl
theorem outs1 {ρ : Env} {i : Nat} {v : Val} (h : ρ[i]? = some (some v)) : outsOf [i] ρ = some [v] := by
  unfold outsOf; simp [h]
theorem evL_step {cls : Nat → Nat → Bool} {tbl : List Fn} {l f : Nat} {vs : List Val} (fn : Fn) (h : tbl[f]? = some fn) (hl : vs.length = fn.np) : ∃ m, evL cls tbl (l + 1) f vs = finP fn.io (evSs (evF cls (evL cls tbl l) (m + 100)) fn.body (vs.map some ++ List.replicate (fn.ns - fn.np) none)) := by
  refine ⟨99900, ?_⟩
  show (match tbl[f]? with | none => CRes.stuck | some fn => if vs.length = fn.np then _ else .stuck) = _
  rw [h]
  show (if vs.length = fn.np then _ else CRes.stuck) = _
  rw [if_pos hl]
  rfl
/-- what is left of a level -/
theorem lev {n l : Nat} (h : n + 1 ≤ l) : ∃ k, l = k + 1 ∧ n ≤ k := ⟨l - 1, by omega, by omega⟩
end EV
end SPlBase
section SPlPrim
set_option Elab.async false
set_option linter.all false
set_option maxRecDepth 100000
namespace EV
open PySem
/-! ### the rules at known kinds -/
section
theorem deep0 {a b : Nat} (h : a = 0) : min a b ≤ deepD := by subst h; simp [deepD]
@[simp] theorem p_isi {t : Ty} {d : D} : psem (.isi t) [d] = some (.dat (.bool (tyB t d))) := rfl
@[simp] theorem cmpI {a b : Int} : cmpOk (.int a) (.int b) = true := by simp [cmpOk, PyData.canLay0, PySem.W.alike, PyData.depth, deepD]
@[simp] theorem ltI {a b : Int} : PySem.W.dataLt (.int a) (.int b) = decide (a < b) := PySem.W.dataLt_int a b
@[simp] theorem p_ltI {a b : Int} : psem .lt [.int a, .int b] = some (.dat (.bool (decide (a < b)))) := by simp [psem, pLt]
@[simp] theorem p_gtI {a b : Int} : psem .gt [.int a, .int b] = some (.dat (.bool (decide (b < a)))) := by simp [psem, pGt]
@[simp] theorem p_leI {a b : Int} : psem .le [.int a, .int b] = some (.dat (.bool (decide (a ≤ b)))) := by simp [psem, pLe]; rw [← decide_not]; exact decide_eq_decide.mpr Int.not_le.symm
@[simp] theorem p_geI {a b : Int} : psem .ge [.int a, .int b] = some (.dat (.bool (decide (b ≤ a)))) := by simp [psem, pGe]; rw [← decide_not]; exact decide_eq_decide.mpr Int.not_le.symm
@[simp] theorem eqvI {a b : Int} : PyData.eqv (.int a) (.int b) = (a == b) := by simp [PyData.eqv]
@[simp] theorem eqvS {a b : Str} : PyData.eqv (.str a) (.str b) = (a == b) := by simp [PyData.eqv]
@[simp] theorem p_eqI {a b : Int} : psem .eq [.int a, .int b] = some (.dat (.bool (a == b))) := by
  simp [psem, pEq, eqOk, lenOk, PyData.canLay0, PyData.depth, deepD]
@[simp] theorem p_neI {a b : Int} : psem .ne [.int a, .int b] = some (.dat (.bool (a != b))) := by
  simp [psem, pNe, eqOk, lenOk, PyData.canLay0, PyData.depth, deepD, bne]
theorem p_eqS {a b : Str} (ha : PyData.strOk a = true) (hb : PyData.strOk b = true) : psem .eq [.str a, .str b] = some (.dat (.bool (a == b))) := by
  simp [psem, pEq, eqOk, lenOk, PyData.canLay0, PyData.depth, deepD, ha, hb]
theorem p_neS {a b : Str} (ha : PyData.strOk a = true) (hb : PyData.strOk b = true) : psem .ne [.str a, .str b] = some (.dat (.bool (a != b))) := by
  simp [psem, pNe, eqOk, lenOk, PyData.canLay0, PyData.depth, deepD, ha, hb, bne]
@[simp] theorem p_eqS' {a b : Str} : psem .eq [.str a, .str b] = some (.dat (.bool (a == b))) := by simp [psem, pEq, eqOk, lenOk]
@[simp] theorem p_neS' {a b : Str} : psem .ne [.str a, .str b] = some (.dat (.bool (a != b))) := by simp [psem, pNe, eqOk, lenOk, bne]
@[simp] theorem p_lenT {xs : List D} : psem .len [.tuple xs] = some (.dat (.int xs.length)) := rfl
@[simp] theorem p_lenL {xs : List D} : psem .len [.list xs] = some (.dat (.int xs.length)) := rfl
theorem p_lenS {z : Str} (h : fit z.length = true) : psem .len [.str z] = some (.dat (.int z.length)) := by simp [psem, pLen, h]
theorem p_isin {a b : Str} : psem .isin [.str a, .str b] = some (.dat (.bool (!(Builtin.Str.occurrences b a 0 b.length 1).isEmpty))) := rfl
theorem p_notin {a b : Str} : psem .notin [.str a, .str b] = some (.dat (.bool (!(!(Builtin.Str.occurrences b a 0 b.length 1).isEmpty)))) := rfl
/-- a sign in a text -/
def inZ (z : Str) (c : Nat) : Bool := decide (c ∈ z.cps.toList)
@[simp] theorem p_isin1 {c : Nat} {b : Str} : psem .isin [.str ⟨#[c]⟩, .str b] = some (.dat (.bool (inZ b c))) := by rw [p_isin, StrLaws.found_one]; rfl
@[simp] theorem p_notin1 {c : Nat} {b : Str} : psem .notin [.str ⟨#[c]⟩, .str b] = some (.dat (.bool (!inZ b c))) := by rw [p_notin, StrLaws.found_one]; rfl
@[simp] theorem p_idxT {xs : List D} {i : Int} : psem .idx [.tuple xs, .int i] = (L2.atI xs i).map .dat := rfl
@[simp] theorem p_idxL {xs : List D} {i : Int} : psem .idx [.list xs, .int i] = (L2.atI xs i).map .dat := rfl
theorem p_idxS {z : Str} {i : Int} (h : fit z.length = true) : psem .idx [.str z, .int i] = (L2.atI z.cps.toList i).map fun c => .dat (.str ⟨#[c]⟩) := by simp [psem, pIdx, h]
@[simp] theorem p_addI {a b : Int} : psem .add [.int a, .int b] = some (.dat (.int (a + b))) := rfl
@[simp] theorem p_subI {a b : Int} : psem .sub [.int a, .int b] = some (.dat (.int (a - b))) := rfl
theorem p_mulI {a b : Int} (h : (small64 a || small64 b) = true) : psem .mul [.int a, .int b] = some (.dat (.int (a * b))) := by simp [psem, pMul, h]
theorem p_modI {a b : Int} (h : 0 < b) : psem .mod [.int a, .int b] = some (.dat (.int (a % b))) := by simp [psem, pMod, h]
theorem p_fdivI {a b : Int} (h : 0 < b) (h2 : small64 b = true) : psem .fdiv [.int a, .int b] = some (.dat (.int (a / b))) := by simp [psem, pFdiv, h, h2]
@[simp] theorem p_tointI {a : Int} : psem .toint [.int a] = some (.dat (.int a)) := rfl
@[simp] theorem p_absI {a : Int} : psem .abs [.int a] = some (.dat (.int (if a < 0 then -a else a))) := rfl
@[simp] theorem p_opti {a : Int} : psem .opti [.int a] = some (.dat (.int a)) := rfl
@[simp] theorem p_ostr {a : Str} : psem .ostr [.str a] = some (.dat (.str a)) := rfl
@[simp] theorem p_oseqT {a : List D} : psem .oseq [.tuple a] = some (.dat (.tuple a)) := rfl
@[simp] theorem p_tupleL {xs : List D} : psem .tuple [.list xs] = some (.dat (.tuple xs)) := rfl
@[simp] theorem p_tupleT {xs : List D} : psem .tuple [.tuple xs] = some (.dat (.tuple xs)) := rfl
@[simp] theorem p_listT {xs : List D} : psem .list [.tuple xs] = some (.lst xs) := rfl
@[simp] theorem p_listL {xs : List D} : psem .list [.list xs] = some (.lst xs) := rfl
@[simp] theorem p_isnone {d : D} : psem .isnone [d] = some (.dat (.bool (isNonD d))) := rfl
@[simp] theorem p_notnone {d : D} : psem .notnone [d] = some (.dat (.bool (!isNonD d))) := rfl
theorem bools_map {α : Type} (f : α → Bool) : ∀ xs : List α, boolsOf (xs.map fun x => PyData.bool (f x)) = some (xs.map f)
  | [] => rfl
  | x :: xs => by
    show (boolsOf (xs.map fun x => PyData.bool (f x))).map (f x :: ·) = _
    rw [bools_map f xs]; rfl
theorem p_all {α : Type} {f : α → Bool} {xs : List α} : psem .all [.list (xs.map fun x => PyData.bool (f x))] = some (.dat (.bool (xs.all f))) := by
  simp only [psem, pAll]
  rw [bools_map]
  simp [List.all_map, Function.comp_def]
@[simp] theorem p_slcT {xs : List D} {l h : D} {lo hi : Option Int} (hl : opInt l = some lo) (hh : opInt h = some hi) : psem .slc [.tuple xs, l, h] = some (.dat (.tuple (cutD xs lo hi))) := by simp [psem, pSlc, hl, hh]
@[simp] theorem p_slcL {xs : List D} {l h : D} {lo hi : Option Int} (hl : opInt l = some lo) (hh : opInt h = some hi) : psem .slc [.list xs, l, h] = some (.lst (cutD xs lo hi)) := by simp [psem, pSlc, hl, hh]
@[simp] theorem opInt_n : opInt .none = some none := rfl
@[simp] theorem opInt_i {i : Int} : opInt (.int i) = some (some i) := rfl
theorem p_repr {d : D} (h : d.showable = true) (h2 : d.depth ≤ deepD) (h3 : fit d.shown.length = true) : psem .repr [d] = some (.dat (.str d.shown)) := by simp [psem, pRepr, h, h2, h3]
@[simp] theorem atI0 {α : Type} {x : α} {xs : List α} : L2.atI (x :: xs) 0 = some x := by
  unfold L2.atI L2.ixN
  simp
theorem p_tointS {z : Str} {n : Int} (h : z.length ≤ 640) (hn : intText? z = some n) : psem .toint [.str z] = some (.dat (.int n)) := by simp [psem, pToint, h, hn]
theorem eqv_nil {xs : List D} : PyData.eqv (.list xs) (.list []) = xs.isEmpty := by cases xs <;> simp [PyData.eqv, PyData.eqvAll]
theorem eqOk_nil {xs : List D} : eqOk (.list xs) (.list []) = true := by
  cases xs <;> simp [eqOk, lenOk, PyData.canLay0, PyData.canLayAll0, PyData.depth, PyData.depthAll, deepD]
@[simp] theorem p_neNil {xs : List D} : psem .ne [.list xs, .list []] = some (.dat (.bool (!xs.isEmpty))) := by simp [psem, pNe, eqOk_nil, eqv_nil]
@[simp] theorem p_eqNil {xs : List D} : psem .eq [.list xs, .list []] = some (.dat (.bool xs.isEmpty)) := by simp [psem, pEq, eqOk_nil, eqv_nil]
/-! what is walked -/
@[simp] theorem it_valT {xs : List D} : itSem .val [.tuple xs] = some xs := rfl
@[simp] theorem it_valL {xs : List D} : itSem .val [.list xs] = some xs := rfl
@[simp] theorem it_valS {z : Str} : itSem .val [.str z] = some (z.cps.toList.map fun c => .str ⟨#[c]⟩) := rfl
@[simp] theorem q_it_zipT {xs ys : List D} : itSem .zip [.tuple xs, .tuple ys] = some ((xs.zip ys).map fun p => .tuple [p.1, p.2]) := rfl
/-! ### comprehensions -/
variable {cls : Nat → Nat → Bool} {cl : Nat → List Val → CRes} {r : Rec}
theorem wipe_one {ρ : Env} {i : Nat} {w : Option Val} : wipeE (ρ.set i w) [i] = ρ.set i none := by show (ρ.set i w).set i none = _; rw [List.set_set]
theorem back_one {ρ : Env} {i : Nat} {w : Option Val} (hi : i < ρ.length) : backE ρ (ρ.set i w) [i] = ρ := by
  show (ρ.set i w).set i (ρ[i]?.getD none) = ρ
  rw [List.set_set, List.getElem?_eq_getElem hi]
  exact List.set_getElem_self hi
theorem lc_shape {e : Ex} {tg : Tgt} {kd : ItK} {as cs : List Ex} {own : List Nat} {ρ ρ0 : Env} {xs : List D} (hI : evI r kd as ρ0 = .ok xs ρ) (hf : fit xs.length = true) :
    stepE cls cl r (.lc e tg kd as cs own) ρ0 = noExc ((lcLoop (lcStep r tg cs (fun ρ => (r.e e ρ).bind fun v ρ => ofO v.data ρ) own) xs ρ).bind fun ys ρ' => .ok (.ol ys) (backE ρ ρ' own)) := by
  show ((evI r kd as ρ0).bind fun xs ρ => (ofO (fitO xs) ρ).bind fun _ ρ => noExc ((lcLoop (lcStep r tg cs (fun ρ => (r.e e ρ).bind fun v ρ => ofO v.data ρ) own) xs ρ).bind fun ys ρ' => .ok (Val.ol ys) (backE ρ ρ' own))) = _
  have hfit : fitO xs = some () := by unfold fitO; rw [if_pos hf]
  rw [hI, bind_okE, hfit, ofO_some, bind_okE]
/-- a comprehension over one name, whose parts change nothing -/
theorem lc_gen {α : Type} {inj : α → D} {bs : List α} {p : α → Bool} {g : α → D} {e : Ex} {kd : ItK} {as cs : List Ex} {i : Nat} {ρ ρ0 : Env} (hI : evI r kd as ρ0 = .ok (bs.map inj) ρ) (hf : fit bs.length = true) (hi : i < ρ.length)
    (hp : ∀ x ∈ bs, evTs r cs (ρ.set i (some (.dat (inj x)))) = .ok (p x) (ρ.set i (some (.dat (inj x)))))
    (hg : ∀ x ∈ bs, p x = true → r.e e (ρ.set i (some (.dat (inj x)))) = .ok (.dat (g x)) (ρ.set i (some (.dat (inj x))))) :
    stepE cls cl r (.lc e (.nm i) kd as cs [i]) ρ0 = .ok (.ol ((bs.filter p).map g)) ρ := by
  rw [lc_shape hI (by rw [List.length_map]; exact hf)]
  have key : ∀ (ys : List α), (∀ x ∈ ys, x ∈ bs) → ∀ w, ∃ w', lcLoop (lcStep r (.nm i) cs (fun ρ => (r.e e ρ).bind fun v ρ => ofO v.data ρ) [i]) (ys.map inj) (ρ.set i w) = .ok ((ys.filter p).map g) (ρ.set i w') := by
    intro ys
    induction ys with
    | nil => intro _ w; exact ⟨w, rfl⟩
    | cons y ys ih =>
      intro hm w
      have my := hm y List.mem_cons_self
      obtain ⟨w', h'⟩ := ih (fun x m => hm x (List.mem_cons_of_mem _ m)) (some (.dat (inj y)))
      refine ⟨w', ?_⟩
      have step : lcStep r (.nm i) cs (fun ρ => (r.e e ρ).bind fun v ρ => ofO v.data ρ) [i] (inj y) (ρ.set i w) = .ok (if p y = true then some (g y) else none) (ρ.set i (some (.dat (inj y)))) := by
        show (ofO (setTgt (.nm i) (inj y) (wipeE (ρ.set i w) [i])) _).bind _ = _
        rw [wipe_one]
        show ((evTs r cs ((ρ.set i none).set i (some (.dat (inj y))))).bind _) = _
        rw [List.set_set, hp y my, bind_okE]
        cases hpy : p y with
        | true => simp only [cond_true, hg y my hpy, bind_okE, data_dat, ofO_some, if_true]
        | false => simp only [cond_false, Bool.false_eq_true, if_false]
      show ((lcStep r (.nm i) cs _ [i] (inj y) (ρ.set i w)).bind fun y ρ => (lcLoop _ (ys.map inj) ρ).bind fun ys ρ => .ok (match y with | some y => y :: ys | none => ys) ρ) = _
      rw [step, bind_okE, h', bind_okE]
      cases hpy : p y <;> simp [hpy]
  obtain ⟨w', h'⟩ := key bs (fun _ m => m) ρ[i]
  rw [List.set_getElem_self hi] at h'
  rw [h', bind_okE, back_one hi]
  rfl
theorem lc_gen' {α : Type} {inj : α → D} {bs : List α} {p : α → Bool} {g : α → D} {e : Ex} {kd : ItK} {as cs : List Ex} {i : Nat} {ρ : Env} (hI : evI r kd as ρ = .ok (bs.map inj) ρ) (hf : fit bs.length = true) (hi : i < ρ.length)
    (hp : ∀ x ∈ bs, evTs r cs (ρ.set i (some (.dat (inj x)))) = .ok (p x) (ρ.set i (some (.dat (inj x)))))
    (hg : ∀ x ∈ bs, p x = true → r.e e (ρ.set i (some (.dat (inj x)))) = .ok (.dat (g x)) (ρ.set i (some (.dat (inj x))))) :
    stepE cls cl r (.lc e (.nm i) kd as cs [i]) ρ = .ok (.ol ((bs.filter p).map g)) ρ := lc_gen hI hf hi hp hg
theorem lc_all {α : Type} {inj : α → D} {bs : List α} {g : α → D} {e : Ex} {kd : ItK} {as : List Ex} {i : Nat} {ρ ρ0 : Env} (hI : evI r kd as ρ0 = .ok (bs.map inj) ρ) (hf : fit bs.length = true) (hi : i < ρ.length)
    (hg : ∀ x ∈ bs, r.e e (ρ.set i (some (.dat (inj x)))) = .ok (.dat (g x)) (ρ.set i (some (.dat (inj x))))) :
    stepE cls cl r (.lc e (.nm i) kd as [] [i]) ρ0 = .ok (.ol (bs.map g)) ρ := by
  have h := lc_gen (cls := cls) (cl := cl) (p := fun _ => true) (cs := []) hI hf hi (fun _ _ => rfl) (fun x m _ => hg x m)
  rw [h]
  congr 2
  rw [List.filter_eq_self.mpr fun _ _ => rfl]
theorem lc_all' {α : Type} {inj : α → D} {bs : List α} {g : α → D} {e : Ex} {kd : ItK} {as : List Ex} {i : Nat} {ρ : Env} (hI : evI r kd as ρ = .ok (bs.map inj) ρ) (hf : fit bs.length = true) (hi : i < ρ.length)
    (hg : ∀ x ∈ bs, r.e e (ρ.set i (some (.dat (inj x)))) = .ok (.dat (g x)) (ρ.set i (some (.dat (inj x))))) :
    stepE cls cl r (.lc e (.nm i) kd as [] [i]) ρ = .ok (.ol (bs.map g)) ρ := lc_all hI hf hi hg
/-- over two names -/
theorem lc_gen2 {α : Type} {f1 f2 : α → D} {bs : List α} {p : α → Bool} {g : α → D} {e : Ex} {kd : ItK} {as cs : List Ex} {i j : Nat} {ρ ρ0 : Env} (hI : evI r kd as ρ0 = .ok (bs.map fun a => .tuple [f1 a, f2 a]) ρ) (hf : fit bs.length = true) (hi : i < ρ.length) (hj : j < ρ.length) (hij : i ≠ j)
    (hp : ∀ x ∈ bs, evTs r cs ((ρ.set i (some (.dat (f1 x)))).set j (some (.dat (f2 x)))) = .ok (p x) ((ρ.set i (some (.dat (f1 x)))).set j (some (.dat (f2 x)))))
    (hg : ∀ x ∈ bs, p x = true → r.e e ((ρ.set i (some (.dat (f1 x)))).set j (some (.dat (f2 x)))) = .ok (.dat (g x)) ((ρ.set i (some (.dat (f1 x)))).set j (some (.dat (f2 x))))) :
    stepE cls cl r (.lc e (.tup [i, j]) kd as cs [i, j]) ρ0 = .ok (.ol ((bs.filter p).map g)) ρ := by
  rw [lc_shape hI (by rw [List.length_map]; exact hf)]
  have wipe2 : ∀ w w2, wipeE ((ρ.set i w).set j w2) [i, j] = (ρ.set i none).set j none := by
    intro w w2
    show (((ρ.set i w).set j w2).set i none).set j none = _
    rw [List.set_comm _ _ (Ne.symm hij), List.set_set, List.set_set]
  have key : ∀ (ys : List α), (∀ x ∈ ys, x ∈ bs) → ∀ w w2, ∃ w' w2', lcLoop (lcStep r (.tup [i, j]) cs (fun ρ => (r.e e ρ).bind fun v ρ => ofO v.data ρ) [i, j]) (ys.map fun a => .tuple [f1 a, f2 a]) ((ρ.set i w).set j w2) = .ok ((ys.filter p).map g) ((ρ.set i w').set j w2') := by
    intro ys
    induction ys with
    | nil => intro _ w w2; exact ⟨w, w2, rfl⟩
    | cons y ys ih =>
      intro hm w w2
      have my := hm y List.mem_cons_self
      obtain ⟨w', w2', h'⟩ := ih (fun x m => hm x (List.mem_cons_of_mem _ m)) (some (.dat (f1 y))) (some (.dat (f2 y)))
      refine ⟨w', w2', ?_⟩
      have step : lcStep r (.tup [i, j]) cs (fun ρ => (r.e e ρ).bind fun v ρ => ofO v.data ρ) [i, j] (.tuple [f1 y, f2 y]) ((ρ.set i w).set j w2) = .ok (if p y = true then some (g y) else none) ((ρ.set i (some (.dat (f1 y)))).set j (some (.dat (f2 y)))) := by
        show (ofO (setTgt (.tup [i, j]) (.tuple [f1 y, f2 y]) (wipeE ((ρ.set i w).set j w2) [i, j])) _).bind _ = _
        rw [wipe2]
        show ((evTs r cs ((((ρ.set i none).set j none).set i (some (.dat (f1 y)))).set j (some (.dat (f2 y))))).bind _) = _
        rw [List.set_comm _ _ (Ne.symm hij), List.set_set, List.set_set, hp y my, bind_okE]
        cases hpy : p y with
        | true => simp only [cond_true, hg y my hpy, bind_okE, data_dat, ofO_some, if_true]
        | false => simp only [cond_false, Bool.false_eq_true, if_false]
      show ((lcStep r (.tup [i, j]) cs _ [i, j] (.tuple [f1 y, f2 y]) ((ρ.set i w).set j w2)).bind fun y ρ => (lcLoop _ (ys.map fun a => .tuple [f1 a, f2 a]) ρ).bind fun ys ρ => .ok (match y with | some y => y :: ys | none => ys) ρ) = _
      rw [step, bind_okE, h', bind_okE]
      cases hpy : p y <;> simp [hpy]
  obtain ⟨w', w2', h'⟩ := key bs (fun _ m => m) ρ[i] ρ[j]
  rw [List.set_getElem_self hi, List.set_getElem_self hj] at h'
  rw [h', bind_okE]
  have back : backE ρ ((ρ.set i w').set j w2') [i, j] = ρ := by
    show (((ρ.set i w').set j w2').set i (ρ[i]?.getD none)).set j (ρ[j]?.getD none) = ρ
    rw [List.set_comm _ _ (Ne.symm hij), List.set_set, List.set_set, List.getElem?_eq_getElem hi, List.getElem?_eq_getElem hj]
    show (ρ.set i ρ[i]).set j ρ[j] = ρ
    rw [List.set_getElem_self hi, List.set_getElem_self hj]
  rw [back]
  rfl
theorem lc_gen2' {α : Type} {f1 f2 : α → D} {bs : List α} {p : α → Bool} {g : α → D} {e : Ex} {kd : ItK} {as cs : List Ex} {i j : Nat} {ρ : Env} (hI : evI r kd as ρ = .ok (bs.map fun a => .tuple [f1 a, f2 a]) ρ) (hf : fit bs.length = true) (hi : i < ρ.length) (hj : j < ρ.length) (hij : i ≠ j)
    (hp : ∀ x ∈ bs, evTs r cs ((ρ.set i (some (.dat (f1 x)))).set j (some (.dat (f2 x)))) = .ok (p x) ((ρ.set i (some (.dat (f1 x)))).set j (some (.dat (f2 x)))))
    (hg : ∀ x ∈ bs, p x = true → r.e e ((ρ.set i (some (.dat (f1 x)))).set j (some (.dat (f2 x)))) = .ok (.dat (g x)) ((ρ.set i (some (.dat (f1 x)))).set j (some (.dat (f2 x))))) :
    stepE cls cl r (.lc e (.tup [i, j]) kd as cs [i, j]) ρ = .ok (.ol ((bs.filter p).map g)) ρ := lc_gen2 hI hf hi hj hij hp hg
end
end EV
end SPlPrim
section SK20L1
set_option Elab.async false
set_option linter.all false
set_option maxRecDepth 100000
namespace K20
open PySem EV
/-! ### letters -/
theorem cut1 {x : D} {xs : List D} : cutD (x :: xs) (some 1) none = xs := by
  have e : HT.sIx (x :: xs).length 0 (some 1) = 1 := by
    have := HT.sIx_nat (x :: xs).length 0 1
    simp at this ⊢
    exact this
  unfold cutD
  rw [e, HT.sIx_none]
  simp
def isNum (d : D) (m : Int) : Bool := match d with
  | .int i => decide (0 ≤ i) && decide (i ≤ m)
  | _ => false
theorem s_is_number {l : Nat} (hl : 1 ≤ l) (d : D) (m : Int) : evL cls tbl l 3 [.dat d, .dat (.int m)] = .ret (.dat (.bool (isNum d m))) [] := by
  obtain ⟨l, rfl, _⟩ := lev hl
  cases d with
  | int i =>
    obtain ⟨k, hk⟩ := evL_step (cls := cls) (tbl := tbl) (l := l) (vs := [.dat (.int i), .dat (.int m)]) f_is_number (f := 3) rfl rfl
    rw [hk]
    simp [f_is_number, tyB, isNum]
    cases decide (0 ≤ i) <;> simp
  | _ => rfl
theorem s_law_is_number {l : Nat} (hl : 1 ≤ l) (d : D) (m : Int) : evL cls tbl l 17 [.dat d, .dat (.int m)] = .ret (.dat (.bool (isNum d m))) [] := by
  obtain ⟨l, rfl, _⟩ := lev hl
  cases d with
  | int i =>
    obtain ⟨k, hk⟩ := evL_step (cls := cls) (tbl := tbl) (l := l) (vs := [.dat (.int i), .dat (.int m)]) f__law_is_number (f := 17) rfl rfl
    rw [hk]
    simp [f__law_is_number, tyB, isNum]
    cases decide (0 ≤ i) <;> simp
  | _ => rfl
def smallS : Str := ⟨#[97,98,99,100,101,102,103,104,105,106,107,108,109,110,111,112,113,114,115,116,117,118,119,120,121,122]⟩
def figS : Str := ⟨#[48,49,50,51,52,53,54,55,56,57]⟩
def nameC (cs : List Nat) : Bool := decide (1 ≤ cs.length) && decide (cs.length ≤ 8) && cs.all (inZ smallS)
theorem len_cps (z : Str) : z.length = z.cps.toList.length := by simp [Str.length]
theorem int_le (a : Nat) : decide (1 ≤ (a : Int)) = decide (1 ≤ a) := decide_eq_decide.mpr (by omega)
theorem int_le8 (a : Nat) : decide ((a : Int) ≤ 8) = decide (a ≤ 8) := decide_eq_decide.mpr (by omega)
theorem s_is_name {l : Nat} (hl : 1 ≤ l) (z : Str) (hz : fit z.length = true) : evL cls tbl l 0 [.dat (.str z)] = .ret (.dat (.bool (nameC z.cps.toList))) [] := by
  obtain ⟨l, rfl, _⟩ := lev hl
  obtain ⟨k, hk⟩ := evL_step (cls := cls) (tbl := tbl) (l := l) (vs := [.dat (.str z)]) f_is_name (f := 0) rfl rfl
  rw [hk]; clear hk
  simp [f_is_name, tyB, p_lenS hz]
  rw [lc_all (ρ := [some (.dat (.str z)), none]) (bs := z.cps.toList) (inj := fun c => .str ⟨#[c]⟩) (g := fun c => .bool (inZ smallS c)) (by simp) (by rw [← len_cps]; exact hz) (by simp)
    (by intro c _; simp; rfl)]
  simp [p_all, nameC, len_cps, int_le, int_le8]
  cases h1 : decide (1 ≤ z.cps.size) <;> cases h2 : decide (z.cps.size ≤ 8) <;> simp_all
theorem small_eq : ∀ c, inZ smallS c = (decide (97 ≤ c) && decide (c ≤ 122)) := by
  intro c
  show decide (c ∈ [97,98,99,100,101,102,103,104,105,106,107,108,109,110,111,112,113,114,115,116,117,118,119,120,121,122]) = _
  simp only [List.mem_cons, List.not_mem_nil, or_false, ← Bool.decide_and]
  exact decide_eq_decide.mpr (by omega)
theorem fig_eq : ∀ c, inZ figS c = (decide (48 ≤ c) && decide (c ≤ 57)) := by
  intro c
  show decide (c ∈ [48,49,50,51,52,53,54,55,56,57]) = _
  simp only [List.mem_cons, List.not_mem_nil, or_false, ← Bool.decide_and]
  exact decide_eq_decide.mpr (by omega)
/-- an age's figures -/
def ageC (cs : List Nat) : Bool := decide (1 ≤ cs.length) && decide (cs.length ≤ 4) && cs.all (inZ figS) && (cs == [48] || cs.head? != some 48)
theorem digs {cs : List Nat} (h : cs.all (inZ figS) = true) : NumText.AllDigits cs := by
  intro c m
  have q := List.all_eq_true.mp h c m
  rw [fig_eq] at q
  simpa using q
theorem val_lt : ∀ (cs : List Nat) (a : Nat), NumText.AllDigits cs → cs.foldl (fun acc c => acc * 10 + (c - 48)) a < (a + 1) * 10 ^ cs.length
  | [], a, _ => by simp
  | c :: cs, a, h => by
    have hc := h c List.mem_cons_self
    have ih := val_lt cs (a * 10 + (c - 48)) fun x m => h x (List.mem_cons_of_mem _ m)
    refine Nat.lt_of_lt_of_le ih ?_
    have e : (a + 1) * 10 ^ (c :: cs).length = ((a + 1) * 10) * 10 ^ cs.length := by
      rw [List.length_cons, Nat.pow_succ, Nat.mul_comm (10 ^ cs.length) 10, Nat.mul_assoc]
    rw [e]
    exact Nat.mul_le_mul_right _ (by omega)
theorem tos9 : psem .tostr [.int 9999] = some (.dat (.str ⟨#[57,57,57,57]⟩)) := by kernel_rfl
theorem fit9 : fit (⟨#[57,57,57,57]⟩ : Str).length = true := by decide
theorem str_eta (z : Str) {cs : List Nat} (h : z.cps.toList = cs) : z = ⟨cs.toArray⟩ := by
  cases z; subst h; simp
theorem beq_str (cs ds : List Nat) : ((⟨cs.toArray⟩ : Str) == ⟨ds.toArray⟩) = (cs == ds) := by
  rw [Bool.eq_iff_iff]; simp
theorem s_figures {l : Nat} (hl : 1 ≤ l) (cs : List Nat) (hz : fit cs.length = true) (hok : PyData.strOk ⟨cs.toArray⟩ = true) : evL cls tbl l 1 [.dat (.str ⟨cs.toArray⟩), .dat (.int 9999)] = .ret (if ageC cs = true then .dat (.int (NumText.digitsVal cs : Nat)) else .dat .none) [] := by
  obtain ⟨l, rfl, _⟩ := lev hl
  obtain ⟨k, hk⟩ := evL_step (cls := cls) (tbl := tbl) (l := l) (vs := [.dat (.str ⟨cs.toArray⟩), .dat (.int 9999)]) f_figures_in (f := 1) rfl rfl
  rw [hk]; clear hk
  have hz' : fit (⟨cs.toArray⟩ : Str).length = true := by simpa [Str.length] using hz
  simp [f_figures_in, tyB, p_lenS hz', tos9, p_lenS fit9]
  rw [lc_all (ρ := [some (.dat (.str ⟨cs.toArray⟩)), some (.dat (.int 9999)), none]) (bs := cs) (inj := fun c => .str ⟨#[c]⟩) (g := fun c => .bool (inZ figS c)) (by simp) hz (by simp) (by intro c _; simp; rfl)]
  simp [p_all]
  have e1 : decide (1 ≤ ((⟨cs.toArray⟩ : Str).length : Int)) = decide (1 ≤ cs.length) := decide_eq_decide.mpr (by simp [Str.length]; omega)
  have e4 : decide ((⟨cs.toArray⟩ : Str).length ≤ (⟨#[57, 57, 57, 57]⟩ : Str).length) = decide (cs.length ≤ 4) := decide_eq_decide.mpr (by simp [Str.length])
  rw [e1, e4]
  cases h1 : decide (1 ≤ cs.length) with
  | false => simp [ageC, h1]
  | true =>
  cases h4 : decide (cs.length ≤ 4) with
  | false => simp [ageC, h4]
  | true =>
  cases ha : cs.all (inZ figS) with
  | false => simp [ageC, ha]
  | true =>
  have h4' : cs.length ≤ 4 := of_decide_eq_true h4
  obtain ⟨c, cs', rfl⟩ : ∃ c cs', cs = c :: cs' := by
    cases cs with
    | nil => simp at h1
    | cons c cs' => exact ⟨_, _, rfl⟩
  have hd := digs ha
  have hc := hd c List.mem_cons_self
  have hcok : PyData.strOk ⟨#[c]⟩ = true := by simp [PyData.strOk]; omega
  have h0ok : PyData.strOk ⟨#[48]⟩ = true := by simp [PyData.strOk]
  have hint := intText_digits (x := ⟨(c :: cs').toArray⟩) hd (by simp) (by simp [Str.length] at h4' ⊢; omega)
  have hlt : NumText.digitsVal (c :: cs') ≤ 9999 := by
    have q := val_lt (c :: cs') 0 hd
    have q2 : 10 ^ (c :: cs').length ≤ 10 ^ 4 := Nat.pow_le_pow_right (by omega) h4'
    show List.foldl _ 0 _ ≤ 9999
    omega
  have hi : decide ((9999 : Int) < ((NumText.digitsVal (c :: cs') : Nat) : Int)) = false := decide_eq_false (by omega)
  have e0 : ((⟨#[c]⟩ : Str) == ⟨#[48]⟩) = (c == 48) := by rw [Bool.eq_iff_iff]; simp
  have en : ((⟨(c :: cs').toArray⟩ : Str) != ⟨#[48]⟩) = ((c :: cs') != [48]) := by unfold bne; rw [beq_str (c :: cs') [48]]
  have hti := p_tointS (z := ⟨(c :: cs').toArray⟩) (by simp [Str.length] at h4' ⊢; omega) hint
  simp only [p_idxS hz', p_eqS hcok h0ok, p_neS hok h0ok, hti, hi, e0, en, p_gtI, List.toList_toArray, atI0, Option.map_some, prval_dat, ofO_some, bind_okE, dsK_dat, ds_cst, ds_pk', evF_e, evF_s, e_cst, ds_nil, prOut_def, boolR_b, bind_cond, evT_def, peek_def, data_dat, List.getElem?_cons_zero, List.getElem?_cons_succ, pkK_def, finP_cond]
  simp [ageC, h1, h4, ha]
  have h3 : cs'.length ≤ 3 := by simpa using h4'
  clear e1 e4 hd hint hlt hi en hti hz hz' hok ha h1 h4 h4'
  cases cs' <;> cases hc48 : (c == 48) <;> simp_all [bne]
/-- what stands ahead of the first '@', and behind it -/
def at64 : List Nat → Option (List Nat × List Nat)
  | [] => none
  | c :: r => if c = 64 then some ([], r) else (at64 r).map fun p => (c :: p.1, p.2)
theorem pre64 (c : Nat) (r : List Nat) : TL.pre [64] (c :: r) = decide (c = 64) := by
  unfold TL.pre
  by_cases h : c = 64
  · subst h; rfl
  · rw [decide_eq_false h]
    simp [h]
theorem par_at : ∀ (cs acc : List Nat), TL.par [64] acc cs = (at64 cs).map fun p => (acc ++ p.1, p.2)
  | [], acc => rfl
  | c :: r, acc => by
    show (if TL.pre [64] (c :: r) = true then some (acc, (c :: r).drop 1) else TL.par [64] (acc ++ [c]) r) = _
    rw [pre64, par_at r]
    by_cases h : c = 64 <;> simp [at64, h]
    · cases at64 r <;> simp
theorem spl_at : ∀ (cs acc : List Nat), TL.spl [64] 0 acc cs = (match at64 cs with | some p => (acc ++ p.1) :: TL.spl [64] 0 [] p.2 | none => [acc ++ cs])
  | [], acc => by rw [TL.spl_nil]; simp [at64]
  | c :: r, acc => by
    by_cases h : c = 64
    · rw [TL.spl_hit (by rw [pre64]; simp [h])]
      simp [at64, h]
    · rw [TL.spl_miss (by rw [pre64]; simp [h]), spl_at r]
      simp [at64, h]
      cases at64 r <;> simp
theorem at64_some : ∀ {cs a b : List Nat}, at64 cs = some (a, b) → cs = a ++ 64 :: b ∧ 64 ∉ a
  | [], _, _, h => by cases h
  | c :: r, a, b, h => by
    unfold at64 at h
    by_cases hc : c = 64
    · rw [if_pos hc] at h; cases h; exact ⟨by rw [hc]; rfl, by simp⟩
    · rw [if_neg hc] at h
      cases q : at64 r with
      | none => rw [q] at h; cases h
      | some p =>
        rw [q] at h; cases h
        obtain ⟨h1, h2⟩ := at64_some q
        exact ⟨by rw [h1]; rfl, by simp [h2, eq_comm, hc]⟩
/-- a letter's signs -/
def letterC (cs : List Nat) : Bool := match at64 cs with
  | some p => nameC p.1 && ageC p.2
  | none => nameC cs
theorem ok_of {cs : List Nat} : PyData.strOk ⟨cs.toArray⟩ = cs.all fun c => decide (c < 0x110000) := by simp [PyData.strOk]
theorem fitn {n : Nat} : fit n = true ↔ n ≤ 16777216 := by simp [fit]
theorem s_is_letter {l : Nat} (hl : 2 ≤ l) (cs : List Nat) (hz : fit cs.length = true) (hok : PyData.strOk ⟨cs.toArray⟩ = true) : evL cls tbl l 2 [.dat (.str ⟨cs.toArray⟩)] = .ret (.dat (.bool (letterC cs))) [] := by
  obtain ⟨l, rfl, hl1⟩ := lev hl
  obtain ⟨k, hk⟩ := evL_step (cls := cls) (tbl := tbl) (l := l) (vs := [.dat (.str ⟨cs.toArray⟩)]) f_is_letter (f := 2) rfl rfl
  rw [hk]; clear hk
  have hz' : fit (⟨cs.toArray⟩ : Str).length = true := by simpa [Str.length] using hz
  have emp : PyData.strOk ⟨#[]⟩ = true := by simp [PyData.strOk]
  have e64 : PyData.strOk ⟨#[64]⟩ = true := by simp [PyData.strOk]
  have par := TL.partition_par ⟨cs.toArray⟩ ⟨#[64]⟩ (by simp)
  have par' : TL.par [64] [] cs = _ := par_at cs []
  cases h : at64 cs with
  | none =>
    have e : Txt.partition ⟨cs.toArray⟩ ⟨#[64]⟩ = (⟨cs.toArray⟩, ⟨#[]⟩, ⟨#[]⟩) := SX.partition_none (a := cs) (b := [64]) (by simp) (by rw [par', h]; rfl)
    have hp : psem .partition [.str ⟨cs.toArray⟩, .str ⟨#[64]⟩] = some (.dat (.tuple [.str ⟨cs.toArray⟩, .str ⟨#[]⟩, .str ⟨#[]⟩])) := by
      have hf : fit (⟨cs.toArray⟩ : Str).length = true := hz'
      simp only [psem, pPartition, e, hf]
      rfl
    simp [f_is_letter, tyB, hp, setTs, setTup, s_is_name hl1 ⟨cs.toArray⟩ hz', p_eqS emp emp, letterC, h]
    cases nameC cs <;> simp
  | some p =>
    obtain ⟨a, b⟩ := p
    obtain ⟨hcs, hna⟩ := at64_some h
    have e : Txt.partition ⟨cs.toArray⟩ ⟨#[64]⟩ = (⟨a.toArray⟩, ⟨#[64]⟩, ⟨b.toArray⟩) := SX.partition_some (a := cs) (b := [64]) (p := a) (q := b) (by simp) (by rw [par', h]; rfl)
    have hp : psem .partition [.str ⟨cs.toArray⟩, .str ⟨#[64]⟩] = some (.dat (.tuple [.str ⟨a.toArray⟩, .str ⟨#[64]⟩, .str ⟨b.toArray⟩])) := by
      have hf : fit (⟨cs.toArray⟩ : Str).length = true := hz'
      simp only [psem, pPartition, e, hf]
      rfl
    have hlen : cs.length = a.length + 1 + b.length := by rw [hcs]; simp; omega
    have hza : fit (⟨a.toArray⟩ : Str).length = true := by
      have := fitn.mp hz
      refine fitn.mpr ?_
      simp [Str.length]; omega
    have hzb : fit b.length = true := by
      have := fitn.mp hz
      exact fitn.mpr (by omega)
    have hokb : PyData.strOk ⟨b.toArray⟩ = true := by
      rw [ok_of] at hok ⊢
      rw [hcs] at hok
      simp at hok ⊢
      exact fun x m => hok.2 x m
    have ne64 : ((⟨#[64]⟩ : Str) == ⟨#[]⟩) = false := by decide
    simp [f_is_letter, tyB, hp, setTs, setTup, s_is_name hl1 ⟨a.toArray⟩ hza, p_eqS e64 emp, letterC, h, ne64, s_figures hl1 b hzb hokb]
    cases ha : nameC a <;> cases hb : ageC b <;> simp [isNonD]
theorem s_is_letter0 {l : Nat} (hl : 2 ≤ l) (d : D) (h : ∀ z, d ≠ .str z) : evL cls tbl l 2 [.dat d] = .ret (.dat (.bool false)) [] := by
  obtain ⟨l, rfl, hl1⟩ := lev hl
  cases d with
  | str z => exact absurd rfl (h z)
  | _ => rfl
/-! ### the law's own letters -/
theorem tl_list {α : Type} {f : α → D} {xs : List α} : (xs.map f).isEmpty = xs.isEmpty := by cases xs <;> rfl
theorem filter_none {α : Type} {p : α → Bool} {xs : List α} : (xs.filter fun x => !p x).isEmpty = xs.all p := by
  induction xs with
  | nil => rfl
  | cons x xs ih => cases h : p x <;> simp [h, ih]
theorem s_law_is_letter {l : Nat} (hl : 1 ≤ l) (cs : List Nat) (hz : fit (cs.length + 2) = true) (hok : PyData.strOk ⟨cs.toArray⟩ = true) : evL cls tbl l 18 [.dat (.str ⟨cs.toArray⟩)] = .ret (.dat (.bool (letterC cs))) [] := by
  obtain ⟨l, rfl, hl1⟩ := lev hl
  obtain ⟨k, hk⟩ := evL_step (cls := cls) (tbl := tbl) (l := l) (vs := [.dat (.str ⟨cs.toArray⟩)]) f__law_is_letter (f := 18) rfl rfl
  rw [hk]; clear hk
  have e : Txt.split ⟨cs.toArray⟩ ⟨#[64]⟩ = (TL.spl [64] 0 [] cs).map SX.S := SX.split_S (a := cs) (b := [64]) (by simp) (by decide)
  have hp : psem .split [.str ⟨cs.toArray⟩, .str ⟨#[64]⟩] = some (.lst (((TL.spl [64] 0 [] cs).map SX.S).map .str)) := by
    have hf : fit ((⟨cs.toArray⟩ : Str).length + 2) = true := by simpa [Str.length] using hz
    simp only [psem, pSplit, e, hf]
    rfl
  rw [spl_at] at hp
  cases h : at64 cs with
  | none =>
    rw [h] at hp
    simp at hp
    have hls : psem .len [.str (SX.S cs)] = some (.dat (.int cs.length)) := by
      rw [p_lenS (fitn.mpr (by have := fitn.mp hz; simp [Str.length]; omega))]; simp [Str.length]
    have hw : fit cs.length = true := fitn.mpr (by have := fitn.mp hz; omega)
    cases h1 : decide (1 ≤ cs.length) with
    | false => simp [f__law_is_letter, tyB, hp, setVals, hls, int_le, int_le8, h1, letterC, h, nameC]
    | true =>
    cases h8 : decide (cs.length ≤ 8) with
    | false => simp [f__law_is_letter, tyB, hp, setVals, hls, int_le, int_le8, h1, h8, letterC, h, nameC]
    | true =>
    simp [f__law_is_letter, tyB, hp, setVals, hls, int_le, int_le8, h1, h8, letterC, h, nameC]
    rw [lc_gen' (bs := cs) (inj := fun c => .str ⟨#[c]⟩) (p := fun c => !inZ smallS c) (g := fun c => .str ⟨#[c]⟩)]
    · cases ha : cs.all (inZ smallS) <;> simp [tl_list, filter_none, ha, cutD, HT.sIx]
    · simp
    · exact hw
    · simp
    · intro c _; simp; change cond (inZ smallS c) _ _ = _; cases inZ smallS c <;> rfl
    · intro c _ _; simp
  | some p =>
    obtain ⟨a, b⟩ := p
    obtain ⟨hcs, hna⟩ := at64_some h
    rw [h] at hp
    have hlen : cs.length = a.length + 1 + b.length := by rw [hcs]; simp; omega
    have hw := fitn.mp hz
    have hls : psem .len [.str (SX.S a)] = some (.dat (.int a.length)) := by
      rw [p_lenS (fitn.mpr (by simp [Str.length]; omega))]; simp [Str.length]
    have hfa : fit a.length = true := fitn.mpr (by omega)
    have hfb : fit b.length = true := fitn.mpr (by omega)
    have hokb : PyData.strOk (SX.S b) = true := by
      show PyData.strOk ⟨b.toArray⟩ = true
      rw [ok_of] at hok ⊢
      rw [hcs] at hok
      simp at hok ⊢
      exact fun x m => hok.2 x m
    obtain ⟨rs, hrs⟩ : ∃ rs, rs = ((TL.spl [64] 0 [] b).map SX.S).map PyData.str := ⟨_, rfl⟩
    have hp' : psem .split [.str ⟨cs.toArray⟩, .str ⟨#[64]⟩] = some (.lst (.str (SX.S a) :: rs)) := by
      rw [hp, hrs]; simp
    clear hp
    cases h1 : decide (1 ≤ a.length) with
    | false => simp [f__law_is_letter, tyB, hp', setVals, hls, int_le, int_le8, h1, letterC, h, nameC]
    | true =>
    cases h8 : decide (a.length ≤ 8) with
    | false => simp [f__law_is_letter, tyB, hp', setVals, hls, int_le, int_le8, h1, h8, letterC, h, nameC]
    | true =>
    simp [f__law_is_letter, tyB, hp', setVals, hls, int_le, int_le8, h1, h8, letterC, h, nameC]
    rw [lc_gen' (bs := a) (inj := fun c => .str ⟨#[c]⟩) (p := fun c => !inZ smallS c) (g := fun c => .str ⟨#[c]⟩) (by simp) hfa (by simp)
      (by intro c _; simp; change cond (inZ smallS c) _ _ = _; cases inZ smallS c <;> rfl) (by intro c _ _; simp)]
    cases ha : a.all (inZ smallS) with
    | false => simp [tl_list, filter_none, ha]
    | true =>
    rw [spl_at] at hrs
    cases hb : at64 b with
    | some p2 =>
      have hm : ageC b = false := by
        have : (64 : Nat) ∈ b := by rw [(at64_some (a := p2.1) (b := p2.2) hb).1]; simp
        have q : b.all (inZ figS) = false := by
          rw [Bool.eq_false_iff]; intro q
          have := List.all_eq_true.mp q 64 this
          rw [fig_eq] at this; simp at this
        simp [ageC, q]
      rw [hb] at hrs
      obtain ⟨x, xs, hx⟩ : ∃ x xs, TL.spl [64] 0 [] p2.2 = x :: xs := by
        rw [spl_at]; cases at64 p2.2 <;> exact ⟨_, _, rfl⟩
      have hrs' : rs = .str (SX.S p2.1) :: .str (SX.S x) :: (xs.map SX.S).map PyData.str := by rw [hrs]; simp [hx]
      simp [tl_list, filter_none, ha, hm, hrs', cut1]
      have e : decide (1 < (xs.length : Int) + 1 + 1) = true := decide_eq_true (by omega)
      rw [e]
      rfl
    | none =>
    rw [hb] at hrs
    have hrs' : rs = [.str (SX.S b)] := by rw [hrs]; simp
    subst hrs'
    have hlb : psem .len [.str (SX.S b)] = some (.dat (.int b.length)) := by
      rw [p_lenS (fitn.mpr (by simp [Str.length]; omega))]; simp [Str.length]
    have e4 : decide ((b.length : Int) ≤ 4) = decide (b.length ≤ 4) := decide_eq_decide.mpr (by omega)
    simp [tl_list, filter_none, ha, cut1, hlb, int_le, e4]
    cases hb1 : decide (1 ≤ b.length) with
    | false => simp [ageC, hb1]
    | true =>
    cases hb4 : decide (b.length ≤ 4) with
    | false => simp [ageC, hb1, hb4]
    | true =>
    simp
    rw [lc_gen' (bs := b) (inj := fun c => .str ⟨#[c]⟩) (p := fun c => !inZ figS c) (g := fun c => .str ⟨#[c]⟩) (by simp) hfb (by simp)
      (by intro c _; simp; change cond (inZ figS c) _ _ = _; cases inZ figS c <;> rfl) (by intro c _ _; simp)]
    cases hbf : b.all (inZ figS) with
    | false => simp [tl_list, filter_none, hbf, ageC]
    | true =>
    obtain ⟨c, b', rfl⟩ : ∃ c b', b = c :: b' := by
      cases b with
      | nil => simp at hb1
      | cons c b' => exact ⟨_, _, rfl⟩
    have hc := (digs hbf) c List.mem_cons_self
    have hcok : PyData.strOk ⟨#[c]⟩ = true := by simp [PyData.strOk]; omega
    have h0ok : PyData.strOk ⟨#[48]⟩ = true := by simp [PyData.strOk]
    have hix : psem .idx [.str (SX.S (c :: b')), .int 0] = some (.dat (.str ⟨#[c]⟩)) := by
      rw [p_idxS (fitn.mpr (by simp [Str.length] at hw hlen ⊢; omega))]; simp
    have eb : (SX.S (c :: b') == ⟨#[48]⟩) = ((c :: b') == [48]) := beq_str (c :: b') [48]
    have ec : ((⟨#[c]⟩ : Str) != ⟨#[48]⟩) = (c != 48) := by unfold bne; congr 1; rw [Bool.eq_iff_iff]; simp
    simp [tl_list, filter_none, hbf, hix, p_eqS hokb h0ok, p_neS hcok h0ok, eb, ec, ageC, hb1, hb4]
    cases hq : (c == 48) <;> simp_all [bne] <;> cases b' <;> simp
theorem s_law_is_letter0 {l : Nat} (hl : 1 ≤ l) (d : D) (h : ∀ z, d ≠ .str z) : evL cls tbl l 18 [.dat d] = .ret (.dat (.bool false)) [] := by
  obtain ⟨l, rfl, hl1⟩ := lev hl
  cases d with
  | str z => exact absurd rfl (h z)
  | _ => rfl
end K20
end SK20L1
section SK20L2
set_option Elab.async false
set_option linter.all false
set_option maxRecDepth 100000
namespace K20
open PySem EV
/-! ### nice data -/
mutual
def nice (M : Nat) : D → Bool
  | .none => true
  | .bool _ => true
  | .int i => decide (i.natAbs < M)
  | .str z => PyData.strOk z
  | .list xs => niceAll M xs
  | .tuple xs => niceAll M xs
  | .dict kvs => kvs.isEmpty
def niceAll (M : Nat) : List D → Bool
  | [] => true
  | x :: xs => nice M x && niceAll M xs
end
theorem niceAll_iff {M : Nat} {xs : List D} : niceAll M xs = true ↔ ∀ x ∈ xs, nice M x = true := by
  induction xs with
  | nil => simp [niceAll]
  | cons x xs ih => simp [niceAll, ih]
mutual
theorem nice_mono {M N : Nat} (h : M ≤ N) : ∀ d : D, nice M d = true → nice N d = true
  | .none, _ => rfl
  | .bool _, _ => rfl
  | .int i, q => by simp [nice] at q ⊢; omega
  | .str z, q => q
  | .list xs, q => niceAll_mono h xs q
  | .tuple xs, q => niceAll_mono h xs q
  | .dict kvs, q => q
theorem niceAll_mono {M N : Nat} (h : M ≤ N) : ∀ xs : List D, niceAll M xs = true → niceAll N xs = true
  | [], _ => rfl
  | x :: xs, q => by
    simp [niceAll] at q ⊢
    exact ⟨nice_mono h x q.1, niceAll_mono h xs q.2⟩
end
theorem strOk_iff {z : Str} : PyData.strOk z = true ↔ ∀ c ∈ z.cps.toList, c < 0x110000 := by
  unfold PyData.strOk
  rw [Array.all_eq_true_iff_forall_mem]
  simp
mutual
theorem nice_leaves : ∀ d : D, nice (10 ^ 12) d = true → d.leavesShort 13 = true
  | .none, _ => rfl
  | .bool _, _ => rfl
  | .int i, h => by
    simp only [nice, decide_eq_true_eq] at h
    simp only [PyData.leavesShort, decide_eq_true_eq]
    exact PyData.shown_int_le h
  | .str x, h => by
    have h1 := strOk_iff.mp h
    simp only [PyData.leavesShort, List.all_eq_true, decide_eq_true_eq]
    intro c hcm
    have h2 := h1 c hcm
    have e : (16 : Nat) ^ 8 = 4294967296 := by decide
    omega
  | .list xs, h => by
    simp only [PyData.leavesShort]
    exact niceAll_leaves xs h
  | .tuple xs, h => by
    simp only [PyData.leavesShort]
    exact niceAll_leaves xs h
  | .dict kvs, h => by
    cases kvs with
    | nil => rfl
    | cons p kvs => cases h
theorem niceAll_leaves : ∀ xs : List D, niceAll (10 ^ 12) xs = true → PyData.leavesShortAll 13 xs = true
  | [], _ => rfl
  | x :: xs, h => by
    simp only [niceAll, Bool.and_eq_true] at h
    simp only [PyData.leavesShortAll, Bool.and_eq_true]
    exact ⟨nice_leaves x h.1, niceAll_leaves xs h.2⟩
end
mutual
theorem nice_showable : ∀ d : D, nice (10 ^ 12) d = true → d.showable = true
  | .none, _ => rfl
  | .bool _, _ => rfl
  | .int i, h => by
    simp only [nice, decide_eq_true_eq] at h
    simp only [PyData.showable, decide_eq_true_eq]
    by_cases h0 : i.natAbs = 0
    · rw [h0]; decide
    · refine (Nat.log2_lt h0).mpr (Nat.lt_trans h ?_)
      exact Nat.lt_of_lt_of_le (by decide : 10 ^ 12 < 2 ^ 40) (Nat.pow_le_pow_right (by omega) (by omega))
  | .str x, h => rfl
  | .list xs, h => by
    simp only [PyData.showable]
    exact niceAll_showable xs h
  | .tuple xs, h => by
    simp only [PyData.showable]
    exact niceAll_showable xs h
  | .dict kvs, h => by
    cases kvs with
    | nil => rfl
    | cons p kvs => cases h
theorem niceAll_showable : ∀ xs : List D, niceAll (10 ^ 12) xs = true → PyData.showableAll xs = true
  | [], _ => rfl
  | x :: xs, h => by
    simp only [niceAll, Bool.and_eq_true] at h
    simp only [PyData.showableAll, Bool.and_eq_true]
    exact ⟨nice_showable x h.1, niceAll_showable xs h.2⟩
end
/-- data that may be shown, of a bounded size -/
structure Ok (w k : Nat) (d : D) : Prop where
  nice : nice (10 ^ 12) d = true
  weight : d.weight ≤ w
  depth : d.depth ≤ k
theorem Ok.repr {w k : Nat} {d : D} (h : Ok w k d) (hw : w ≤ 1000000) (hk : k ≤ 60) : psem .repr [d] = some (.dat (.str d.shown)) := by
  refine p_repr (nice_showable d h.nice) (Nat.le_trans h.depth hk) ?_
  have := PyData.shown_le 13 (by decide) d (nice_leaves d h.nice)
  have := h.weight
  exact fitn.mpr (by omega)
theorem weightAll_mem {x : D} {xs : List D} (h : x ∈ xs) : x.weight + 1 ≤ PyData.weightAll xs := by
  induction xs with
  | nil => cases h
  | cons y ys ih =>
    rw [PyData.weightAll]
    cases h with
    | head => omega
    | tail _ h => have := ih h; omega
theorem depthAll_mem {x : D} {xs : List D} (h : x ∈ xs) : x.depth ≤ PyData.depthAll xs := by
  induction xs with
  | nil => cases h
  | cons y ys ih =>
    rw [PyData.depthAll]
    cases h with
    | head => omega
    | tail _ h => have := ih h; omega
theorem weightAll_len (xs : List D) : xs.length ≤ PyData.weightAll xs := by
  induction xs with
  | nil => simp
  | cons y ys ih => rw [PyData.weightAll]; simp; omega
theorem weightAll_app (xs ys : List D) : PyData.weightAll (xs ++ ys) = PyData.weightAll xs + PyData.weightAll ys := by
  induction xs with
  | nil => simp [PyData.weightAll]
  | cons x xs ih => simp [PyData.weightAll, ih]; omega
theorem depthAll_le {xs : List D} {k : Nat} : PyData.depthAll xs ≤ k ↔ ∀ x ∈ xs, x.depth ≤ k := by
  induction xs with
  | nil => simp [PyData.depthAll]
  | cons x xs ih => simp [PyData.depthAll, Nat.max_le, ih]
theorem weightAll_perm {xs ys : List D} (h : xs.Perm ys) : PyData.weightAll xs = PyData.weightAll ys := by
  induction h with
  | nil => rfl
  | cons x _ ih => simp [PyData.weightAll, ih]
  | swap x y l => simp [PyData.weightAll]; omega
  | trans _ _ a b => exact a.trans b
theorem Ok.tup {w k : Nat} {xs : List D} (h : Ok w k (.tuple xs)) : ∀ x ∈ xs, Ok w k x := by
  intro x m
  have h1 := h.weight; have h2 := h.depth
  simp only [PyData.weight, PyData.depth] at h1 h2
  have := weightAll_mem m; have := depthAll_mem m
  exact ⟨niceAll_iff.mp h.nice x m, by omega, by omega⟩
theorem Ok.str {w k : Nat} {z : Str} (h : Ok w k (.str z)) : z.length ≤ w ∧ PyData.strOk z = true := by
  have := h.weight
  simp only [PyData.weight] at this
  exact ⟨this, h.nice⟩
theorem Ok.lenT {w k : Nat} {xs : List D} (h : Ok w k (.tuple xs)) : xs.length ≤ w := by
  have := h.weight
  simp only [PyData.weight] at this
  have := weightAll_len xs
  omega
/-! ### mirrors -/
def isLetter : D → Bool
  | .str z => letterC z.cps.toList
  | _ => false
theorem m_is_letter {l w k : Nat} (hl : 2 ≤ l) {d : D} (h : Ok w k d) (hw : w ≤ 1000000) : evL cls tbl l 2 [.dat d] = .ret (.dat (.bool (isLetter d))) [] := by
  cases d with
  | str z =>
    obtain ⟨h1, h2⟩ := h.str
    have e : z = ⟨z.cps.toList.toArray⟩ := by cases z; simp
    rw [e] at h2 ⊢
    rw [s_is_letter hl z.cps.toList (fitn.mpr (by rw [← len_cps]; omega)) h2]
    simp [isLetter]
  | _ => exact s_is_letter0 hl _ (by simp)
theorem m_law_is_letter {l w k : Nat} (hl : 1 ≤ l) {d : D} (h : Ok w k d) (hw : w ≤ 1000000) : evL cls tbl l 18 [.dat d] = .ret (.dat (.bool (isLetter d))) [] := by
  cases d with
  | str z =>
    obtain ⟨h1, h2⟩ := h.str
    have e : z = ⟨z.cps.toList.toArray⟩ := by cases z; simp
    rw [e] at h2 ⊢
    rw [s_law_is_letter hl z.cps.toList (fitn.mpr (by rw [← len_cps]; omega)) h2]
    simp [isLetter]
  | _ => exact s_law_is_letter0 hl _ (by simp)
/-- each ahead of the next -/
def chainB (p : D → D → Bool) (xs : List D) : Bool := (xs.zip xs.tail).all fun q => p q.1 q.2
def ltB : D → D → Bool
  | .int a, .int b => decide (a < b)
  | _, _ => false
def isPlaces : D → Bool
  | .tuple xs => decide (xs.length ≤ 64) && xs.all (isNum · 1000000) && chainB ltB xs
  | _ => false
theorem cutT {xs : List D} : cutD xs (some 1) none = xs.tail := by
  cases xs with
  | nil => rfl
  | cons x xs => exact cut1
theorem isNum_int {d : D} {m : Int} (h : isNum d m = true) : ∃ i : Int, d = .int i ∧ 0 ≤ i ∧ i ≤ m := by
  cases d with
  | int i => simp [isNum] at h; exact ⟨i, rfl, h⟩
  | _ => cases h
theorem zip_mem {xs : List D} {q : D × D} (h : q ∈ xs.zip xs.tail) : q.1 ∈ xs ∧ q.2 ∈ xs := by
  have := List.of_mem_zip (a := q.1) (b := q.2) h
  exact ⟨this.1, List.mem_of_mem_tail this.2⟩
theorem zip_len {xs : List D} : (xs.zip xs.tail).length ≤ xs.length := by rw [List.length_zip]; omega
theorem s_are_places {l w k : Nat} (hl : 2 ≤ l) {d : D} (h : Ok w k d) (hw : w ≤ 1000000) : evL cls tbl l 4 [.dat d] = .ret (.dat (.bool (isPlaces d))) [] := by
  obtain ⟨l, rfl, hl1⟩ := lev hl
  cases d with
  | tuple xs =>
    obtain ⟨k, hk⟩ := evL_step (cls := cls) (tbl := tbl) (l := l) (vs := [.dat (.tuple xs)]) f_are_places (f := 4) rfl rfl
    rw [hk]; clear hk
    have hlen := h.lenT
    have hf : fit xs.length = true := fitn.mpr (by omega)
    have e64 : decide ((64 : Int) < xs.length) = !decide (xs.length ≤ 64) := by rw [← decide_not]; exact decide_eq_decide.mpr (by omega)
    simp [f_are_places, tyB, e64]
    cases h64 : decide (xs.length ≤ 64) with
    | false => simp [isPlaces, h64]
    | true =>
    simp
    rw [lc_all' (bs := xs) (inj := id) (g := fun x => .bool (isNum x 1000000)) (by simp) hf (by simp) (by intro x _; simp [s_is_number hl1])]
    cases hn : xs.all (isNum · 1000000) with
    | false => simp [p_all, isPlaces, hn]
    | true =>
    simp [p_all, hn]
    rw [lc_gen2' (bs := xs.zip xs.tail) (f1 := fun q => q.1) (f2 := fun q => q.2) (p := fun _ => true) (g := fun q => .bool (ltB q.1 q.2)) (by simp [cutT]) (fitn.mpr (Nat.le_trans zip_len (by omega))) (by simp) (by simp) (by decide) (by intro x _; simp)
      (by
        intro q m _
        obtain ⟨m1, m2⟩ := zip_mem m
        obtain ⟨a, ha, _⟩ := isNum_int (List.all_eq_true.mp hn _ m1)
        obtain ⟨b, hb, _⟩ := isNum_int (List.all_eq_true.mp hn _ m2)
        simp [ha, hb, ltB])]
    simp [p_all, isPlaces, h64, hn, chainB]
  | _ => rfl
end K20
end SK20L2
section SK20L3
set_option Elab.async false
set_option linter.all false
set_option maxRecDepth 100000
namespace K20
open PySem EV
theorem p_isinI {i : Int} {xs : List D} (h : inOk (.int i) xs = true) : psem .isin [.int i, .tuple xs] = some (.dat (.bool (isinD (.int i) xs))) := by simp [psem, pIsin, h]
theorem p_notinI {i : Int} {xs : List D} (h : inOk (.int i) xs = true) : psem .notin [.int i, .tuple xs] = some (.dat (.bool (!isinD (.int i) xs))) := by simp [psem, pNotin, h]
theorem p_ltN {a b : D} (h : cmpOk a b = true) : psem .lt [a, b] = some (.dat (.bool (PySem.W.dataLt a b))) := by simp [psem, pLt, h]
theorem canLay_ints : ∀ {xs : List D}, xs.all (isNum · 1000000) = true → PyData.canLayAll0 xs = true
  | [], _ => rfl
  | x :: xs, h => by
    simp only [List.all_cons, Bool.and_eq_true] at h
    obtain ⟨i, rfl, _⟩ := isNum_int h.1
    simp [PyData.canLayAll0, PyData.canLay0, canLay_ints h.2]
theorem places_ints {xs : List D} (h : isPlaces (.tuple xs) = true) : xs.all (isNum · 1000000) = true := by
  simp only [isPlaces, Bool.and_eq_true] at h
  exact h.1.2
theorem places_tup {d : D} (h : isPlaces d = true) : ∃ xs, d = .tuple xs := by
  cases d with
  | tuple xs => exact ⟨xs, rfl⟩
  | _ => cases h
theorem in_ok {i : Int} {xs : List D} (h : isPlaces (.tuple xs) = true) : inOk (.int i) xs = true := by
  simp [inOk, PyData.canLay0, canLay_ints (places_ints h), PyData.depth]
def inPl (ps x : D) : Bool := isNum x 1000000 && (match ps with | .tuple xs => isinD x xs | _ => false)
def isRoad (ps : D) : D → Bool
  | .tuple [a, b, c, e] => isLetter a && (inPl ps b && inPl ps c) && isNum e 1000000
  | _ => false
theorem len4 {xs : List D} (h : xs.length ≠ 4) (ps : D) : isRoad ps (.tuple xs) = false := by
  match xs, h with
  | [], _ => rfl
  | [_], _ => rfl
  | [_, _], _ => rfl
  | [_, _, _], _ => rfl
  | [_, _, _, _], h => exact absurd rfl h
  | _ :: _ :: _ :: _ :: _ :: _, _ => rfl
theorem four {xs : List D} (h : xs.length = 4) : ∃ a b c e, xs = [a, b, c, e] := by
  match xs, h with
  | [a, b, c, e], _ => exact ⟨a, b, c, e, rfl⟩
theorem cut13 {a b c e : D} : cutD [a, b, c, e] (some 1) (some 3) = [b, c] := rfl
theorem p_all2 {a b : Bool} : psem .all [.list [.bool a, .bool b]] = some (.dat (.bool (a && b))) := by simp [psem, pAll, boolsOf]
theorem ix3 {a b c e : D} : L2.atI [a, b, c, e] 3 = some e := rfl
theorem ix1 {a b : D} : L2.atI [a, b] 1 = some b := rfl
theorem fit2 : fit 2 = true := rfl
theorem s_is_road {l w k : Nat} (hl : 3 ≤ l) {ps d : D} (hp : isPlaces ps = true) (h : Ok w k d) (hw : w ≤ 1000000) : evL cls tbl l 5 [.dat ps, .dat d] = .ret (.dat (.bool (isRoad ps d))) [] := by
  obtain ⟨l, rfl, hl1⟩ := lev hl
  obtain ⟨xs, rfl⟩ := places_tup hp
  cases d with
  | tuple ys =>
    obtain ⟨k, hk⟩ := evL_step (cls := cls) (tbl := tbl) (l := l) (vs := [.dat (.tuple xs), .dat (.tuple ys)]) f_is_road (f := 5) rfl rfl
    rw [hk]; clear hk
    by_cases h4 : ys.length = 4
    · obtain ⟨a, b, c, e, rfl⟩ := four h4
      have ka := h.tup a (by simp)
      simp [f_is_road, tyB, m_is_letter hl1 ka hw]
      cases hla : isLetter a with
      | false => simp [isRoad, hla]
      | true =>
      simp [cut13]
      rw [lc_all' (bs := [b, c]) (inj := id) (g := fun x => .bool (inPl (.tuple xs) x)) (by simp [cut13]) rfl (by simp)
        (by
          intro x _
          simp [s_is_number (l := l) (by omega)]
          cases hn : isNum x 1000000 with
          | false => simp [inPl, hn]
          | true =>
          obtain ⟨i, rfl, _⟩ := isNum_int hn
          simp [p_isinI (in_ok hp), inPl, hn])]
      simp [p_all2, ix3, s_is_number (l := l) (by omega), isRoad, hla]
      cases inPl (.tuple xs) b <;> cases inPl (.tuple xs) c <;> simp
    · rw [len4 h4]
      have e4 : ((ys.length : Int) != 4) = true := by rw [bne_iff_ne]; omega
      simp [f_is_road, tyB, e4]
  | _ => rfl
theorem s_law_is_road {l w k : Nat} (hl : 3 ≤ l) {ps d : D} (hp : isPlaces ps = true) (h : Ok w k d) (hw : w ≤ 1000000) : evL cls tbl l 19 [.dat ps, .dat d] = .ret (.dat (.bool (isRoad ps d))) [] := by
  obtain ⟨l, rfl, hl1⟩ := lev hl
  obtain ⟨xs, rfl⟩ := places_tup hp
  cases d with
  | tuple ys =>
    obtain ⟨k, hk⟩ := evL_step (cls := cls) (tbl := tbl) (l := l) (vs := [.dat (.tuple xs), .dat (.tuple ys)]) f__law_is_road (f := 19) rfl rfl
    rw [hk]; clear hk
    by_cases h4 : ys.length = 4
    · obtain ⟨a, b, c, e, rfl⟩ := four h4
      have ka := h.tup a (by simp)
      simp [f__law_is_road, tyB, m_law_is_letter (l := l) (by omega) ka hw]
      cases hla : isLetter a with
      | false => simp [isRoad, hla]
      | true =>
      simp [cut13]
      have p6 : psem .pow [.int 10, .int 6] = some (.dat (.int 1000000)) := by kernel_rfl
      rw [lc_gen' (bs := [b, c]) (inj := id) (p := fun x => !inPl (.tuple xs) x) (g := fun x => x) (by simp [cut13]) rfl (by simp)
        (by
          intro x _
          simp [p6, s_law_is_number (l := l) (by omega)]
          cases hn : isNum x 1000000 with
          | false => simp [inPl, hn]
          | true =>
          obtain ⟨i, rfl, _⟩ := isNum_int hn
          simp [p_notinI (in_ok hp), inPl, hn]; cases isinD (.int i) xs <;> rfl) (by intro x _ _; simp)]
      simp [ix3, p6, s_law_is_number (l := l) (by omega), isRoad, hla, List.filter]
      cases inPl (.tuple xs) b <;> cases inPl (.tuple xs) c <;> simp
    · rw [len4 h4]
      have e4 : ((ys.length : Int) != 4) = true := by rw [bne_iff_ne]; omega
      simp [f__law_is_road, tyB, e4]
  | _ => rfl
end K20
end SK20L3
section SK20L4
set_option Elab.async false
set_option linter.all false
set_option maxRecDepth 100000
namespace K20
open PySem EV
theorem p_leN {a b : D} (h : cmpOk a b = true) : psem .le [a, b] = some (.dat (.bool (!PySem.W.dataLt b a))) := by cases a <;> simp [psem, pLe, h]
theorem p_gtN {a b : D} (h : cmpOk a b = true) : psem .gt [a, b] = some (.dat (.bool (PySem.W.dataLt b a))) := by cases a <;> simp [psem, pGt, h]
theorem road_form {ps d : D} (h : isRoad ps d = true) : ∃ (s : Str) (i j n : Int), d = .tuple [.str s, .int i, .int j, .int n] := by
  match d, h with
  | .tuple [a, b, c, e], h =>
    simp only [isRoad, inPl, Bool.and_eq_true] at h
    obtain ⟨⟨ha, ⟨hb, _⟩, hc, _⟩, he⟩ := h
    obtain ⟨i, rfl, _⟩ := isNum_int hb
    obtain ⟨j, rfl, _⟩ := isNum_int hc
    obtain ⟨n, rfl, _⟩ := isNum_int he
    cases a with
    | str s => exact ⟨s, i, j, n, rfl⟩
    | _ => cases ha
theorem road_lay {w k : Nat} {ps d : D} (h : isRoad ps d = true) (o : Ok w k d) : d.canLay0 = true ∧ d.depth = 1 := by
  obtain ⟨s, i, j, n, rfl⟩ := road_form h
  have := (o.tup (.str s) (by simp)).str.2
  simp [PyData.canLay0, PyData.canLayAll0, PyData.depth, PyData.depthAll, this]
theorem road_alike {ps qs a b : D} (ha : isRoad ps a = true) (hb : isRoad qs b = true) : PySem.W.alike a b = true := by
  obtain ⟨s, i, j, n, rfl⟩ := road_form ha
  obtain ⟨s', i', j', n', rfl⟩ := road_form hb
  simp [PySem.W.alike, PySem.W.alikeAll]
theorem road_cmp {w k : Nat} {ps qs a b : D} (ha : isRoad ps a = true) (hb : isRoad qs b = true) (oa : Ok w k a) (ob : Ok w k b) : cmpOk a b = true := by
  have h1 := road_lay ha oa
  have h2 := road_lay hb ob
  have h3 := road_alike ha hb
  obtain ⟨s, i, j, n, rfl⟩ := road_form ha
  simp [cmpOk, h1, h2, h3, deepD]
def leB (a b : D) : Bool := !PySem.W.dataLt b a
def isRoads (ps : D) : D → Bool
  | .tuple rs => decide (rs.length ≤ 200) && rs.all (isRoad ps) && chainB leB rs
  | _ => false
def isNet : D → Bool
  | .tuple [p, r] => isPlaces p && isRoads p r
  | _ => false
theorem len2 {xs : List D} (h : xs.length ≠ 2) : isNet (.tuple xs) = false := by
  match xs, h with
  | [], _ => rfl
  | [_], _ => rfl
  | [_, _], h => exact absurd rfl h
  | _ :: _ :: _ :: _, _ => rfl
theorem two {xs : List D} (h : xs.length = 2) : ∃ a b, xs = [a, b] := by
  match xs, h with
  | [a, b], _ => exact ⟨a, b, rfl⟩
theorem e200 {n : Nat} : decide ((200 : Int) < n) = !decide (n ≤ 200) := by rw [← decide_not]; exact decide_eq_decide.mpr (by omega)
theorem e64 {n : Nat} : decide ((64 : Int) < n) = !decide (n ≤ 64) := by rw [← decide_not]; exact decide_eq_decide.mpr (by omega)
theorem s_is_net {l w k : Nat} (hl : 4 ≤ l) {d : D} (h : Ok w k d) (hw : w ≤ 1000000) : evL cls tbl l 6 [.dat d] = .ret (.dat (.bool (isNet d))) [] := by
  obtain ⟨l, rfl, hl1⟩ := lev hl
  cases d with
  | tuple ys =>
    obtain ⟨k, hk⟩ := evL_step (cls := cls) (tbl := tbl) (l := l) (vs := [.dat (.tuple ys)]) f_is_net (f := 6) rfl rfl
    rw [hk]; clear hk
    by_cases h2 : ys.length = 2
    · obtain ⟨p, r, rfl⟩ := two h2
      have kp := h.tup p (by simp)
      have kr := h.tup r (by simp)
      simp [f_is_net, tyB, s_are_places (l := l) (by omega) kp hw]
      cases hp : isPlaces p with
      | false => simp [isNet, hp]
      | true =>
      simp [setTs, setTup]
      cases r with
      | tuple rs =>
        have hlen := kr.lenT
        have hf : fit rs.length = true := fitn.mpr (by omega)
        simp [tyB, e200]
        cases h2 : decide (rs.length ≤ 200) with
        | false => simp [isNet, isRoads, h2]
        | true =>
        simp
        rw [lc_all' (bs := rs) (inj := id) (g := fun x => .bool (isRoad p x)) (by simp) hf (by simp) (by intro x m; simp [s_is_road hl1 hp (kr.tup x m) hw])]
        cases hn : rs.all (isRoad p) with
        | false => simp [p_all, isNet, isRoads, hn]
        | true =>
        simp [p_all, hn]
        rw [lc_gen2' (bs := rs.zip rs.tail) (f1 := fun q => q.1) (f2 := fun q => q.2) (p := fun _ => true) (g := fun q => .bool (leB q.1 q.2)) (by simp [cutT]) (fitn.mpr (Nat.le_trans zip_len (by omega))) (by simp) (by simp) (by decide) (by intro x _; simp)
          (by
            intro q m _
            obtain ⟨m1, m2⟩ := zip_mem m
            have := road_cmp (List.all_eq_true.mp hn _ m1) (List.all_eq_true.mp hn _ m2) (kr.tup _ m1) (kr.tup _ m2)
            simp [p_leN this, leB])]
        simp [p_all, isNet, isRoads, h2, hn, hp, chainB]
      | _ => simp [tyB, isNet, isRoads]
    · rw [len2 h2]
      have e4 : ((ys.length : Int) != 2) = true := by rw [bne_iff_ne]; omega
      simp [f_is_net, tyB, e4]
  | _ => rfl
theorem chain_none {p : D → D → Bool} {xs : List D} : ((xs.zip xs.tail).filter fun q => !p q.1 q.2).isEmpty = chainB p xs := filter_none
theorem s_law_is_net {l w k : Nat} (hl : 4 ≤ l) {d : D} (h : Ok w k d) (hw : w ≤ 1000000) : evL cls tbl l 20 [.dat d] = .ret (.dat (.bool (isNet d))) [] := by
  obtain ⟨l, rfl, hl1⟩ := lev hl
  have p6 : psem .pow [.int 10, .int 6] = some (.dat (.int 1000000)) := by kernel_rfl
  cases d with
  | tuple ys =>
    obtain ⟨k, hk⟩ := evL_step (cls := cls) (tbl := tbl) (l := l) (vs := [.dat (.tuple ys)]) f__law_is_net (f := 20) rfl rfl
    rw [hk]; clear hk
    by_cases h2 : ys.length = 2
    · obtain ⟨p, r, rfl⟩ := two h2
      have kp := h.tup p (by simp)
      have kr := h.tup r (by simp)
      cases p with
      | tuple xs =>
        have hlen := kp.lenT
        have hf : fit xs.length = true := fitn.mpr (by omega)
        simp [f__law_is_net, tyB, e64]
        cases h64 : decide (xs.length ≤ 64) with
        | false => simp [isNet, isPlaces, h64]
        | true =>
        simp
        rw [lc_gen' (bs := xs) (inj := id) (p := fun x => !isNum x 1000000) (g := fun x => x) (by simp) hf (by simp)
          (by intro x _; simp [p6, s_law_is_number (l := l) (by omega)]; cases isNum x 1000000 <;> rfl) (by intro x _ _; simp)]
        cases hn : xs.all (isNum · 1000000) with
        | false => simp [tl_list, filter_none, isNet, isPlaces, hn]
        | true =>
        simp [tl_list, filter_none, hn]
        rw [lc_gen2' (bs := xs.zip xs.tail) (f1 := fun q => q.1) (f2 := fun q => q.2) (p := fun q => !ltB q.1 q.2) (g := fun q => .int 1) (by simp [cutT]) (fitn.mpr (Nat.le_trans zip_len (by omega))) (by simp) (by simp) (by decide)
          (by
            intro q m
            obtain ⟨m1, m2⟩ := zip_mem m
            obtain ⟨a, ha, _⟩ := isNum_int (List.all_eq_true.mp hn _ m1)
            obtain ⟨b, hb, _⟩ := isNum_int (List.all_eq_true.mp hn _ m2)
            have e : decide (b ≤ a) = !decide (a < b) := by rw [← decide_not]; exact decide_eq_decide.mpr (by omega)
            simp [ha, hb, ltB, e]; cases decide (a < b) <;> rfl) (by intro x _ _; simp)]
        cases hc : chainB ltB xs with
        | false => simp [tl_list, chain_none, isNet, isPlaces, hn, hc]
        | true =>
        have hp : isPlaces (.tuple xs) = true := by show (decide (xs.length ≤ 64) && xs.all (isNum · 1000000) && chainB ltB xs) = true; rw [h64, hn, hc]; rfl
        simp [tl_list, chain_none, hc, ix1]
        cases r with
        | tuple rs =>
          have hlen := kr.lenT
          have hf : fit rs.length = true := fitn.mpr (by omega)
          simp [tyB, e200]
          cases h2 : decide (rs.length ≤ 200) with
          | false => simp [isNet, isRoads, h2]
          | true =>
          simp
          rw [lc_gen' (bs := rs) (inj := id) (p := fun x => !isRoad (.tuple xs) x) (g := fun x => x) (by simp [ix1]) hf (by simp)
            (by intro x m; simp [s_law_is_road hl1 hp (kr.tup x m) hw]; cases isRoad (.tuple xs) x <;> rfl) (by intro x _ _; simp)]
          cases hn : rs.all (isRoad (.tuple xs)) with
          | false => simp [tl_list, filter_none, isNet, isRoads, hn]
          | true =>
          simp [tl_list, filter_none, hn]
          rw [lc_gen2' (bs := rs.zip rs.tail) (f1 := fun q => q.1) (f2 := fun q => q.2) (p := fun q => !leB q.1 q.2) (g := fun q => .int 1) (by simp [cutT, ix1]) (fitn.mpr (Nat.le_trans zip_len (by omega))) (by simp) (by simp) (by decide)
            (by
              intro q m
              obtain ⟨m1, m2⟩ := zip_mem m
              have := road_cmp (List.all_eq_true.mp hn _ m1) (List.all_eq_true.mp hn _ m2) (kr.tup _ m1) (kr.tup _ m2)
              simp [p_gtN this, leB]; cases PySem.W.dataLt q.2 q.1 <;> rfl) (by intro x _ _; simp)]
          simp [tl_list, chain_none, isNet, isRoads, h2, hn, hp]
        | _ => simp [tyB, isNet, isRoads]
      | _ => simp [f__law_is_net, tyB, isNet, isPlaces]
    · rw [len2 h2]
      have e4 : ((ys.length : Int) != 2) = true := by rw [bne_iff_ne]; omega
      simp [f__law_is_net, tyB, e4]
  | _ => rfl
theorem s_need_net {l w k : Nat} (hl : 5 ≤ l) {d : D} (h : Ok w k d) (hw : w ≤ 1000000) : evL cls tbl l 7 [.dat d] = (if isNet d = true then .ret (.dat .none) [] else .exc 1 [] []) := by
  obtain ⟨l, rfl, hl1⟩ := lev hl
  obtain ⟨k, hk⟩ := evL_step (cls := cls) (tbl := tbl) (l := l) (vs := [.dat d]) f_need_net (f := 7) rfl rfl
  rw [hk]; clear hk
  simp [f_need_net, s_is_net hl1 h hw]
  cases isNet d <;> rfl
end K20
end SK20L4
section SK20L5
set_option Elab.async false
set_option linter.all false
set_option maxRecDepth 100000
namespace EV
open PySem
section
variable {cls : Nat → Nat → Bool} {cl : Nat → List Val → CRes} {r : Rec} {ρ : Env}
def tryK (cls : Nat → Nat → Bool) (c i j : Nat) (o : Out Fl) : Out Fl :=
  match o with
  | .exc c' fs ρ => if cls c' c then .ok .nx ((ρ.set i none).set j (some (.exc c' fs))) else .exc c' fs ρ
  | o => o
@[simp] theorem s_try' {body : List Sm} {c i j : Nat} : stepS cls r (.try_ body c i j) ρ = tryK cls c i j (evSs r body ρ) := by
  show (match evSs r body ρ with | .exc c' fs ρ => if cls c' c then Out.ok Fl.nx ((ρ.set i none).set j (some (.exc c' fs))) else Out.exc c' fs ρ | o => o) = _
  unfold tryK
  cases evSs r body ρ <;> rfl
@[simp] theorem tryK_ok {c i j : Nat} {f : Fl} : tryK cls c i j (.ok f ρ) = .ok f ρ := rfl
theorem tryK_exc {c i j c' : Nat} {fs : List D} (h : cls c' c = true) : tryK cls c i j (.exc c' fs ρ) = .ok .nx ((ρ.set i none).set j (some (.exc c' fs))) := by
  show (if cls c' c then _ else _) = _
  rw [h]; rfl
@[simp] theorem s_mut' {m : Mut} {i : Nat} {as : List Ex} : stepS cls r (.mut m i as) ρ = (ofO (olAt ρ i) ρ).bind fun _ ρ => (evDs r as ρ).bind fun ds ρ => (ofO (mutSem m (ρ[i]?.getD none) ds) ρ).bind fun ys ρ => .ok .nx (ρ.set i (some (.ol ys))) := rfl
theorem p_addT {xs ys : List D} (h : fit (xs.length + ys.length) = true) : psem .add [.tuple xs, .tuple ys] = some (.dat (.tuple (xs ++ ys))) := by simp [psem, pAdd, h]
theorem p_addL {xs ys : List D} (h : fit (xs.length + ys.length) = true) : psem .add [.list xs, .list ys] = some (.lst (xs ++ ys)) := by simp [psem, pAdd, h]
theorem p_sortedT {xs : List D} (h : allAlike xs = true) : psem .sorted [.tuple xs] = some (.lst (sortD xs)) := by simp [psem, pSorted, h]
theorem p_notinT {x : List D} {xs : List D} (h : inOk (.tuple x) xs = true) : psem .notin [.tuple x, .tuple xs] = some (.dat (.bool (!isinD (.tuple x) xs))) := by simp [psem, pNotin, h]
theorem p_indexT {x : D} {xs : List D} {k : Nat} (h : inOk x xs = true) (hk : idxD x xs = some k) : psem .index [.tuple xs, x] = some (.dat (.int k)) := by simp [psem, pIndex, h, hk]
theorem cutTo {xs : List D} {k : Nat} : cutD xs none (some (k : Int)) = xs.take k := by
  unfold cutD
  rw [HT.sIx_nat, HT.sIx_none]
  simp only [List.drop_zero, Nat.sub_zero]
  rcases Nat.le_total k xs.length with h | h
  · rw [Nat.min_eq_left h]
  · rw [Nat.min_eq_right h, List.take_of_length_le h, List.take_of_length_le (Nat.le_refl _)]
theorem cutFrom {xs : List D} {k : Nat} : cutD xs (some (k : Int)) none = xs.drop k := by
  unfold cutD
  rw [HT.sIx_nat, HT.sIx_none]
  rcases Nat.le_total k xs.length with h | h
  · rw [Nat.min_eq_left h, List.take_of_length_le (by rw [List.length_drop]; omega)]
  · rw [Nat.min_eq_right h, List.drop_of_length_le h, List.drop_of_length_le (Nat.le_refl _), List.take_nil]
theorem cutFrom1 {xs : List D} {k : Nat} : cutD xs (some ((k : Int) + 1)) none = xs.drop (k + 1) := by
  rw [show ((k : Int) + 1) = ((k + 1 : Nat) : Int) by omega, cutFrom]
theorem idx_in {x : D} : ∀ {xs : List D}, isinD x xs = true → ∃ k, idxD x xs = some k ∧ k < xs.length ∧ delD x xs = some (xs.take k ++ xs.drop (k + 1))
  | [], h => by cases h
  | y :: ys, h => by
    simp only [isinD, List.any_cons] at h
    cases hy : PyData.eqv y x with
    | true => exact ⟨0, by simp [idxD, hy], by simp, by simp [delD, hy]⟩
    | false =>
      rw [hy] at h
      obtain ⟨k, h1, h2, h3⟩ := idx_in (xs := ys) h
      exact ⟨k + 1, by simp [idxD, hy, h1], by simp; omega, by simp [delD, hy, h3]⟩
theorem canLayAll_iff {xs : List D} : PyData.canLayAll0 xs = true ↔ ∀ x ∈ xs, x.canLay0 = true := by
  induction xs with
  | nil => simp [PyData.canLayAll0]
  | cons x xs ih => simp [PyData.canLayAll0, ih]
end
end EV
namespace K20
open PySem EV
theorem net_form {d : D} (h : isNet d = true) : ∃ xs rs, d = .tuple [.tuple xs, .tuple rs] ∧ isPlaces (.tuple xs) = true ∧ rs.length ≤ 200 ∧ ∀ r ∈ rs, isRoad (.tuple xs) r = true := by
  match d, h with
  | .tuple [p, r], h =>
    simp only [isNet, Bool.and_eq_true] at h
    obtain ⟨xs, rfl⟩ := places_tup h.1
    cases r with
    | tuple rs =>
      have h2 := h.2
      simp only [isRoads, Bool.and_eq_true] at h2
      exact ⟨xs, rs, rfl, h.1, of_decide_eq_true h2.1.1, List.all_eq_true.mp h2.1.2⟩
    | _ => cases h.2
theorem all_alike {w k : Nat} {ps : D} {rs : List D} (h : ∀ d ∈ rs, isRoad ps d = true) (o : ∀ d ∈ rs, Ok w k d) : allAlike rs = true := by
  have h1 : PyData.canLayAll0 rs = true := canLayAll_iff.mpr fun x m => (road_lay (h x m) (o x m)).1
  have h2 : PyData.depthAll rs ≤ deepD := depthAll_le.mpr fun x m => by rw [(road_lay (h x m) (o x m)).2]; decide
  have h3 : (rs.all fun x => rs.all fun y => PySem.W.alike x y) = true := List.all_eq_true.mpr fun x m => List.all_eq_true.mpr fun y n => road_alike (h x m) (h y n)
  have h4 : rs.all isTupC = true := List.all_eq_true.mpr fun x m => by obtain ⟨s, i, j, n, rfl⟩ := road_form (h x m); rfl
  simp only [allAlike, h1, h2, h3, h4, Bool.true_and, Bool.true_or, decide_true]
theorem in_ok2 {w k : Nat} {ps r : D} {rs : List D} (hr : isRoad ps r = true) (o : Ok w k r) (h : ∀ d ∈ rs, isRoad ps d = true) (os : ∀ d ∈ rs, Ok w k d) : inOk r rs = true := by
  have h1 : PyData.canLayAll0 rs = true := canLayAll_iff.mpr fun x m => (road_lay (h x m) (os x m)).1
  have h2 := road_lay hr o
  simp [inOk, h1, h2, deepD]
def zMany : Str := ⟨#[109,97,110,121]⟩
def zNet : Str := ⟨#[110,101,116]⟩
def zRoad : Str := ⟨#[114,111,97,100]⟩
def zWay (b : Bool) : Str := if b then ⟨#[119,105,116,104]⟩ else ⟨#[119,105,116,104,111,117,116]⟩
def rest (r : D) (rs : List D) : List D := (delD r rs).getD []
/-- what it answers -/
def ansC (b : Bool) (d r : D) : CRes :=
  if isNet d = true then
    match d with
    | .tuple [p, .tuple rs] =>
      if isRoad p r = true then
        if b = true then (if rs.length = 200 then .exc 3 [.int 200] [] else .ret (.dat (.tuple [p, .tuple (sortD (rs ++ [r]))])) [])
        else (if isinD r rs = true then .ret (.dat (.tuple [p, .tuple (rest r rs)])) [] else .exc 2 [] [])
      else .exc 2 [] []
    | _ => .stuck
  else .exc 1 [] []
theorem i200 {n : Nat} : ((n : Int) == 200) = decide (n = 200) := by rw [Bool.eq_iff_iff]; simp; omega
theorem s_with_road {l w k : Nat} (hl : 6 ≤ l) {d r : D} (hd : Ok w k d) (hr : Ok w k r) (hw : w ≤ 1000000) : evL cls tbl l 8 [.dat d, .dat r] = ansC true d r := by
  obtain ⟨l, rfl, hl1⟩ := lev hl
  obtain ⟨k, hk⟩ := evL_step (cls := cls) (tbl := tbl) (l := l) (vs := [.dat d, .dat r]) f_with_road (f := 8) rfl rfl
  rw [hk]; clear hk
  cases hn : isNet d with
  | false =>
    simp [f_with_road, s_need_net hl1 hd hw, hn, ansC]
    rfl
  | true =>
  obtain ⟨xs, rs, rfl, hp, hlen, hrs⟩ := net_form hn
  have krs := hd.tup (.tuple rs) (by simp)
  simp [f_with_road, s_need_net hl1 hd hw, hn, s_is_road (l := l) (by omega) hp hr hw]
  cases hx : isRoad (.tuple xs) r with
  | false =>
    simp [ansC, hn, hx]
    rfl
  | true =>
  simp [ix1, i200]
  cases h200 : decide (rs.length = 200) with
  | true =>
    simp [iniOk, smallD, ansC, hn, hx, of_decide_eq_true h200]
    rfl
  | false =>
  have hall : allAlike (rs ++ [r]) = true := all_alike (ps := .tuple xs) (w := w) (k := _)
    (by intro x m; rcases List.mem_append.mp m with m | m; exact hrs x m; cases List.mem_singleton.mp m; exact hx)
    (by intro x m; rcases List.mem_append.mp m with m | m; exact krs.tup x m; cases List.mem_singleton.mp m; exact hr)
  simp [ix1, p_addT (fitn.mpr (by simp; omega) : fit (rs.length + [r].length) = true), p_sortedT hall, ansC, hn, hx, of_decide_eq_false h200]
theorem s_without_road {l w k : Nat} (hl : 6 ≤ l) {d r : D} (hd : Ok w k d) (hr : Ok w k r) (hw : w ≤ 1000000) : evL cls tbl l 9 [.dat d, .dat r] = ansC false d r := by
  obtain ⟨l, rfl, hl1⟩ := lev hl
  obtain ⟨k, hk⟩ := evL_step (cls := cls) (tbl := tbl) (l := l) (vs := [.dat d, .dat r]) f_without_road (f := 9) rfl rfl
  rw [hk]; clear hk
  cases hn : isNet d with
  | false =>
    simp [f_without_road, s_need_net hl1 hd hw, hn, ansC]
    rfl
  | true =>
  obtain ⟨xs, rs, rfl, hp, hlen, hrs⟩ := net_form hn
  have krs := hd.tup (.tuple rs) (by simp)
  simp [f_without_road, s_need_net hl1 hd hw, hn, s_is_road (l := l) (by omega) hp hr hw]
  cases hx : isRoad (.tuple xs) r with
  | false =>
    simp [ansC, hn, hx]
    rfl
  | true =>
  have hin := in_ok2 hx hr hrs fun x m => krs.tup x m
  obtain ⟨s, i, j, n, rfl⟩ := road_form hx
  simp [ix1, p_notinT hin]
  cases hi : isinD (.tuple [.str s, .int i, .int j, .int n]) rs with
  | false =>
    simp [ansC, hn, hx, hi]
    rfl
  | true =>
  obtain ⟨q, h1, h2, h3⟩ := idx_in hi
  simp [ix1, p_indexT hin h1, ansC, hn, hx, hi, rest, h3, cutTo, cutFrom1]
  rw [p_addT (fitn.mpr (by simp; omega))]
  simp
end K20
end SK20L5
section SK20L6
set_option Elab.async false
set_option linter.all false
set_option maxRecDepth 100000
namespace K20
open PySem EV
def toldD (b : Bool) (d r : D) : D :=
  if isNet d = true then
    match d with
    | .tuple [p, .tuple rs] =>
      if isRoad p r = true then
        if b = true then (if rs.length = 200 then .tuple [.str zMany, .int 200] else .tuple [p, .tuple (sortD (rs ++ [r]))])
        else (if isinD r rs = true then .tuple [p, .tuple (rest r rs)] else .str zRoad)
      else .str zRoad
    | _ => .none
  else .str zNet
theorem Ok.pair {w k : Nat} {d r : D} (hd : Ok w k d) (hr : Ok w k r) : Ok (2 * w + 2) (k + 1) (.list [d, r]) := by
  refine ⟨?_, ?_, ?_⟩
  · simp only [K20.nice, niceAll, hd.nice, hr.nice, Bool.true_and]
  · have := hd.weight; have := hr.weight
    simp only [PyData.weight, PyData.weightAll]; omega
  · have := hd.depth; have := hr.depth
    simp only [PyData.depth, PyData.depthAll]; omega
theorem way_eq (b : Bool) : (zWay b == (⟨#[119,105,116,104]⟩ : Str)) = b := by cases b <;> decide
theorem way_eq2 (b : Bool) : (zWay b == (⟨#[119,105,116,104,111,117,116]⟩ : Str)) = !b := by cases b <;> decide
theorem ans_cases (b : Bool) (d r : D) : (ansC b d r = .exc 1 [] [] ∧ toldD b d r = .str zNet) ∨ (ansC b d r = .exc 2 [] [] ∧ toldD b d r = .str zRoad) ∨ (ansC b d r = .exc 3 [.int 200] [] ∧ toldD b d r = .tuple [.str zMany, .int 200]) ∨ (ansC b d r = .ret (.dat (toldD b d r)) []) := by
  cases hn : isNet d with
  | false => exact .inl (by simp [ansC, toldD, hn])
  | true =>
  obtain ⟨xs, rs, rfl, hp, hlen, hrs⟩ := net_form hn
  cases hx : isRoad (.tuple xs) r with
  | false => exact .inr (.inl (by simp [ansC, toldD, hn, hx]))
  | true =>
  cases b with
  | true =>
    by_cases h2 : rs.length = 200
    · exact .inr (.inr (.inl (by simp [ansC, toldD, hn, hx, h2])))
    · exact .inr (.inr (.inr (by simp [ansC, toldD, hn, hx, h2])))
  | false =>
    cases hi : isinD r rs with
    | false => exact .inr (.inl (by simp [ansC, toldD, hn, hx, hi]))
    | true => exact .inr (.inr (.inr (by simp [ansC, toldD, hn, hx, hi])))
theorem s_told {l w k : Nat} (hl : 7 ≤ l) (b : Bool) {d r : D} (hd : Ok w k d) (hr : Ok w k r) (hw : w ≤ 400000) (hk : k ≤ 50) : evL cls tbl l 21 [.dat (.str (zWay b)), .dat d, .dat r] = .ret (.dat (toldD b d r)) [] := by
  obtain ⟨l, rfl, hl1⟩ := lev hl
  obtain ⟨m, hm⟩ := evL_step (cls := cls) (tbl := tbl) (l := l) (vs := [.dat (.str (zWay b)), .dat d, .dat r]) f__law_told (f := 21) rfl rfl
  rw [hm]; clear hm
  have hrep := (hd.pair hr).repr (by omega) (by omega)
  generalize hS : (PyData.list [d, r]).shown = S at hrep
  have hc := ans_cases b d r
  have hw' : w ≤ 1000000 := by omega
  cases b
  all_goals
    simp [f__law_told, setVals, hrep, way_eq, s_with_road hl1 hd hr hw', s_without_road hl1 hd hr hw']
    rcases hc with ⟨h1, h2⟩ | ⟨h1, h2⟩ | ⟨h1, h2⟩ | h1
    · rw [h1, h2]
      simp
      rw [tryK_exc (by decide)]
      simp [hrep, isxOf, cls, clsT]
      all_goals rfl
    · rw [h1, h2]
      simp
      rw [tryK_exc (by decide)]
      simp [hrep, isxOf, cls, clsT, isNonD]
      all_goals rfl
    · rw [h1, h2]
      simp
      rw [tryK_exc (by decide)]
      simp [hrep, isxOf, cls, clsT, fldOf]
      all_goals rfl
    · rw [h1]
      simp [hrep, isxOf, isNonD]
theorem s_due {l w k : Nat} (hl : 5 ≤ l) (b : Bool) {d r : D} (hd : Ok w k d) (hr : Ok w k r) (hw : w ≤ 400000) : evL cls tbl l 22 [.dat (.str (zWay b)), .dat d, .dat r] = .ret (.dat (toldD b d r)) [] := by
  obtain ⟨l, rfl, hl1⟩ := lev hl
  obtain ⟨m, hm⟩ := evL_step (cls := cls) (tbl := tbl) (l := l) (vs := [.dat (.str (zWay b)), .dat d, .dat r]) f__law_due (f := 22) rfl rfl
  rw [hm]; clear hm
  cases hn : isNet d with
  | false => simp [f__law_due, s_law_is_net hl1 hd (by omega), hn, toldD]; rfl
  | true =>
  obtain ⟨xs, rs, rfl, hp, hlen, hrs⟩ := net_form hn
  have krs := hd.tup (.tuple rs) (by simp)
  simp [f__law_due, s_law_is_net hl1 hd (by omega), hn, s_law_is_road (l := l) (by omega) hp hr (by omega)]
  cases hx : isRoad (.tuple xs) r with
  | false => simp [toldD, hn, hx]; rfl
  | true =>
  have hin := in_ok2 hx hr hrs fun x m => krs.tup x m
  have hfm := road_form hx
  cases b with
  | true =>
    simp [way_eq, way_eq2, ix1, i200]
    cases h200 : decide (rs.length = 200) with
    | true => simp [toldD, hn, hx, of_decide_eq_true h200]; rfl
    | false =>
    have hall : allAlike (rs ++ [r]) = true := all_alike (ps := .tuple xs) (w := w) (k := _)
      (by intro x m; rcases List.mem_append.mp m with m | m; exact hrs x m; cases List.mem_singleton.mp m; exact hx)
      (by intro x m; rcases List.mem_append.mp m with m | m; exact krs.tup x m; cases List.mem_singleton.mp m; exact hr)
    simp [ix1, p_addT (fitn.mpr (by simp; omega) : fit (rs.length + [r].length) = true), p_sortedT hall, toldD, hn, hx, of_decide_eq_false h200]
  | false =>
    obtain ⟨s, i, j, n, rfl⟩ := hfm
    simp [way_eq, way_eq2, ix1, p_notinT hin]
    cases hi : isinD (.tuple [.str s, .int i, .int j, .int n]) rs with
    | false => simp [toldD, hn, hx, hi]; rfl
    | true =>
    obtain ⟨q, h1, h2, h3⟩ := idx_in hi
    simp [olAt, mutSem, msem, mRemove, hin, h3, toldD, hn, hx, hi, rest]
theorem s_alike {l w k : Nat} (hl : 1 ≤ l) {d : D} (hd : Ok w k d) (hw : w ≤ 1000000) (hk : k ≤ 60) : evL cls tbl l 14 [.dat d, .dat d] = .ret (.dat (.bool true)) [] := by
  obtain ⟨l, rfl, hl1⟩ := lev hl
  obtain ⟨m, hm⟩ := evL_step (cls := cls) (tbl := tbl) (l := l) (vs := [.dat d, .dat d]) f__law_alike (f := 14) rfl rfl
  rw [hm]; clear hm
  simp [f__law_alike, hd.repr hw hk]
end K20
end SK20L6
section SK20G1
set_option Elab.async false
set_option linter.all false
set_option maxRecDepth 100000
namespace EV
open PySem
section
variable {cls : Nat → Nat → Bool} {cl : Nat → List Val → CRes} {r : Rec} {ρ : EV.Env} {α β : Type}
def Post (o : Out α) (Q : α → EV.Env → Prop) : Prop := ∃ a ρ, o = .ok a ρ ∧ Q a ρ
theorem Post.bind {o : Out α} {f : α → EV.Env → Out β} {Q : β → EV.Env → Prop} (h : Post o fun a ρ => Post (f a ρ) Q) : Post (o.bind f) Q := by
  obtain ⟨a, ρ, rfl, h⟩ := h
  exact h
theorem Post.ok {a : α} {Q : α → EV.Env → Prop} (h : Q a ρ) : Post (.ok a ρ) Q := ⟨_, _, rfl, h⟩
@[simp] theorem e_scut {i : Nat} {l h : D} : stepE cls cl r (.scut i (.cst l) (.cst h)) ρ = (match ρ[i]? with | some (some (.scr ds)) => prOut .slc [.list ds, l, h] ρ | _ => .stuck) := by
  show (match ρ[i]?, Ex.cst l, Ex.cst h with | some (some (.scr ds)), .cst l, .cst h => prOut .slc [.list ds, l, h] ρ | _, _, _ => .stuck) = _
  split <;> simp_all
@[simp] theorem s_setIx' {i : Nat} {k v : Ex} : stepS cls r (.setIx i k v) ρ = (r.e v ρ).bind fun v ρ => (ofO v.data ρ).bind fun v ρ => (evDs r [.pk i, k] ρ).bind fun ds ρ => (ofO (ixSem (ρ[i]?.getD none) ds v) ρ).bind fun w ρ => .ok .nx (ρ.set i (some w)) := rfl
theorem for_inv {step : D → EV.Env → Out Fl} {P : Nat → EV.Env → Prop} : ∀ (xs : List D) (n : Nat) (ρ : EV.Env), P n ρ →
    (∀ k x ρ, n ≤ k → k < n + xs.length → x ∈ xs → P k ρ → ∃ ρ', step x ρ = .ok .nx ρ' ∧ P (k + 1) ρ') → ∃ ρ', forLoop step xs ρ = .ok .nx ρ' ∧ P (n + xs.length) ρ'
  | [], n, ρ, h0, _ => ⟨ρ, rfl, h0⟩
  | x :: xs, n, ρ, h0, h => by
    obtain ⟨ρ1, e1, h1⟩ := h n x ρ (Nat.le_refl _) (by simp) List.mem_cons_self h0
    obtain ⟨ρ2, e2, h2⟩ := for_inv xs (n + 1) ρ1 h1 fun k x ρ a b m q => h k x ρ (by omega) (by simp; omega) (List.mem_cons_of_mem _ m) q
    refine ⟨ρ2, ?_, by rw [List.length_cons, show n + (xs.length + 1) = n + 1 + xs.length by omega]; exact h2⟩
    show ((step x ρ).bind fun f ρ => match f with | .nx => forLoop step xs ρ | .ct => forLoop step xs ρ | .bk => .ok .nx ρ | .rt v => .ok (.rt v) ρ) = _
    rw [e1]
    exact e2
/-- a loop that keeps something -/
theorem q_s_for {t : Tgt} {kd : ItK} {as : List Ex} {body : List Sm} {P : Nat → EV.Env → Prop} {xs : List D} {ρ0 : EV.Env} (hI : evI r kd as ρ0 = .ok xs ρ) (h0 : P 0 ρ)
    (h : ∀ k x ρ, k < xs.length → x ∈ xs → P k ρ → ∃ ρ1 ρ', setTgt t x ρ = some ρ1 ∧ evSs r body ρ1 = .ok .nx ρ' ∧ P (k + 1) ρ') : ∃ ρ', stepS cls r (.for_ t kd as body) ρ0 = .ok .nx ρ' ∧ P xs.length ρ' := by
  obtain ⟨ρ', e, q⟩ := for_inv (step := fun x ρ => (ofO (setTgt t x ρ) ρ).bind fun ρ _ => evSs r body ρ) (P := P) xs 0 ρ h0 fun k x ρ _ hk m q => by
    obtain ⟨ρ1, ρ', e1, e2, e3⟩ := h k x ρ (by omega) m q
    refine ⟨ρ', ?_, e3⟩
    show (ofO (setTgt t x ρ) ρ).bind _ = _
    rw [e1]
    exact e2
  refine ⟨ρ', ?_, by simpa using q⟩
  show ((evI r kd as ρ0).bind fun xs ρ => forLoop _ xs ρ) = _
  rw [hI]
  exact e
theorem lcl_inv {step : D → EV.Env → Out (Option D)} {P : EV.Env → Prop} {R : D → Prop} : ∀ (xs : List D) (ρ : EV.Env), P ρ →
    (∀ x ρ, x ∈ xs → P ρ → ∃ y ρ', step x ρ = .ok (some y) ρ' ∧ R y ∧ P ρ') → ∃ ys ρ', lcLoop step xs ρ = .ok ys ρ' ∧ ys.length = xs.length ∧ (∀ y ∈ ys, R y) ∧ P ρ'
  | [], ρ, h0, _ => ⟨[], ρ, rfl, rfl, (fun _ m => by cases m), h0⟩
  | x :: xs, ρ, h0, h => by
    obtain ⟨y, ρ1, e1, r1, h1⟩ := h x ρ List.mem_cons_self h0
    obtain ⟨ys, ρ2, e2, l2, r2, h2⟩ := lcl_inv xs ρ1 h1 fun x ρ m q => h x ρ (List.mem_cons_of_mem _ m) q
    refine ⟨y :: ys, ρ2, ?_, by simp [l2], ?_, h2⟩
    · show ((step x ρ).bind fun y ρ => (lcLoop step xs ρ).bind fun ys ρ => .ok (match y with | some y => y :: ys | none => ys) ρ) = _
      rw [e1, bind_okE, e2]
      rfl
    · intro z m
      cases m with
      | head => exact r1
      | tail _ m => exact r2 z m
/-- a comprehension over one name that keeps something -/
theorem lc_inv {e : Ex} {i : Nat} {kd : ItK} {as : List Ex} {P : EV.Env → Prop} {R : D → Prop} {xs : List D} {ρ0 : EV.Env} (hI : evI r kd as ρ0 = .ok xs ρ) (hf : fit xs.length = true) (h0 : P ρ)
    (h : ∀ x ρ, x ∈ xs → P ρ → ∃ v y ρ', r.e e ((ρ.set i none).set i (some (.dat x))) = .ok v ρ' ∧ v.data = some y ∧ R y ∧ P ρ') : ∃ ys ρ', stepE cls cl r (.lc e (.nm i) kd as [] [i]) ρ0 = .ok (.ol ys) (ρ'.set i (ρ[i]?.getD none)) ∧ ys.length = xs.length ∧ (∀ y ∈ ys, R y) ∧ P ρ' := by
  obtain ⟨ys, ρ', e1, l1, r1, p1⟩ := lcl_inv (step := lcStep r (.nm i) [] (fun ρ => (r.e e ρ).bind fun v ρ => ofO v.data ρ) [i]) (P := P) (R := R) xs ρ h0 fun x ρ m q => by
    obtain ⟨v, y, ρ', e1, e2, e3, e4⟩ := h x ρ m q
    refine ⟨y, ρ', ?_, e3, e4⟩
    show ((r.e e ((ρ.set i none).set i (some (.dat x)))).bind fun v ρ => ofO v.data ρ).bind _ = _
    rw [e1, bind_okE, e2]
    rfl
  refine ⟨ys, ρ', ?_, l1, r1, p1⟩
  rw [lc_shape hI hf, e1]
  rfl
@[simp] theorem p_neg {a : Int} : psem .neg [.int a] = some (.dat (.int (-a))) := rfl
@[simp] theorem q_it_range {n : Int} (h : small62 n = true) (h2 : n ≤ 16777216) : itSem .range [.int n] = some (rangeL 0 n) := by simp [itSem, iRange, h, h2]
@[simp] theorem q_it_enum {xs : List D} : itSem .enum [.list xs] = some (xs.zipIdx.map fun p => .tuple [.int p.2, p.1]) := rfl
end
end EV
end SK20G1
section SK20G2
set_option Elab.async false
set_option linter.all false
set_option maxRecDepth 100000
namespace K20
open PySem EV
theorem mem_range {x : D} {a b : Int} (h : x ∈ rangeL a b) : ∃ i : Int, x = .int i ∧ a ≤ i ∧ i < b := by
  unfold rangeL at h
  obtain ⟨k, hk, rfl⟩ := List.mem_map.mp h
  rw [List.mem_range] at hk
  exact ⟨_, rfl, by omega, by omega⟩
def pr : Int := 1000000000000002493
theorem pr_pos : 0 < pr := by decide
theorem small_lt {x : Int} (h0 : 0 ≤ x) (h : x < 18446744073709551616) : small64 x = true := by unfold small64; simp; omega
theorem mulR {a b : Int} (h : small64 b = true) : psem .mul [.int a, .int b] = some (.dat (.int (a * b))) := p_mulI (by simp [h])
theorem mulL {a b : Int} (h : small64 a = true) : psem .mul [.int a, .int b] = some (.dat (.int (a * b))) := p_mulI (by simp [h])
theorem s_spread {l : Nat} (hl : 1 ≤ l) (a b : Int) : ∃ z, evL cls tbl l 10 [.dat (.int a), .dat (.int b)] = .ret (.dat (.int z)) [] := by
  obtain ⟨l, rfl, hl1⟩ := lev hl
  obtain ⟨m, hm⟩ := evL_step (cls := cls) (tbl := tbl) (l := l) (vs := [.dat (.int a), .dat (.int b)]) f__law_spread (f := 10) rfl rfl
  rw [hm]; clear hm
  have c1 : ∀ a, psem .mul [.int a, .int 7046029254386353087] = some (.dat (.int (a * 7046029254386353087))) := fun a => mulR (by decide)
  have c2 : ∀ a, psem .mul [.int a, .int 3935559000370003845] = some (.dat (.int (a * 3935559000370003845))) := fun a => mulR (by decide)
  have c3 : ∀ a, psem .mul [.int a, .int 65599] = some (.dat (.int (a * 65599))) := fun a => mulR (by decide)
  have c4 : ∀ a, psem .mul [.int 3, .int a] = some (.dat (.int (3 * a))) := fun a => mulL (by decide)
  have c5 : ∀ a, psem .mul [.int 271, .int a] = some (.dat (.int (271 * a))) := fun a => mulL (by decide)
  have c6 : ∀ a, psem .mod [.int a, .int 1000000000000002493] = some (.dat (.int (a % 1000000000000002493))) := fun a => p_modI (by decide)
  have c7 : ∀ a, psem .mul [.int a, .int 1000000000000002493] = some (.dat (.int (a * 1000000000000002493))) := fun a => mulR (by decide)
  simp only [f__law_spread, List.map_cons, List.map_nil, List.length_cons, List.length_nil, List.cons_append, List.nil_append, List.replicate, Nat.reduceSub, ss_cons', evF_s, s_set', evF_e, e_cst, bind_okE, e_pr, ds_pr, ds_pk', ds_cst, ds_nil, peek_def, pkK_def, data_dat, dsK_dat, prOut_def, c1, c2, c6, p_addI, p_tointI, ofO_some, Option.map_some, prval_dat, List.getElem?_cons_zero, List.getElem?_cons_succ, List.set_cons_zero, List.set_cons_succ]
  obtain ⟨ρ', e, x, w, h0, h1, rfl⟩ := q_s_for (cls := cls) (r := evF cls (evL cls tbl l) (m + 99)) (t := .nm 4) (kd := .range) (as := [.cst (.int 4)]) (xs := rangeL 0 4)
    (ρ0 := [some (.dat (.int a)), some (.dat (.int b)), some (.dat (.int 1000000000000002493)), some (.dat (.int ((a * 7046029254386353087 + b * 3935559000370003845 + 19) % 1000000000000002493))), none])
    (body := [(.set 3 (.pr .mod [(.pr .toint [(.pr .add [(.pr .add [(.pr .add [(.pr .mul [(.pk 3), (.pk 3)]), (.pr .mul [(.cst (.int 3)), (.pk 3)])]), (.pr .mul [(.cst (.int 271)), (.pk 4)])]), (.pk 1)])]), (.pk 2)]))])
    (P := fun _ ρ => ∃ (x : Int) (w : Option Val), 0 ≤ x ∧ x < 1000000000000002493 ∧ ρ = [some (.dat (.int a)), some (.dat (.int b)), some (.dat (.int 1000000000000002493)), some (.dat (.int x)), w])
    (by simp [q_it_range (n := 4) (by decide) (by decide)]; rfl) ⟨_, none, Int.emod_nonneg _ (by decide), Int.emod_lt_of_pos _ (by decide), rfl⟩
    (by
      rintro k y ρ hk hy ⟨x, w, h0, h1, rfl⟩
      obtain ⟨i, rfl, _, _⟩ := mem_range hy
      have c8 : psem .mul [.int x, .int x] = some (.dat (.int (x * x))) := mulR (small_lt h0 (by omega))
      refine ⟨_, [some (.dat (.int a)), some (.dat (.int b)), some (.dat (.int 1000000000000002493)), some (.dat (.int ((x * x + 3 * x + 271 * i + b) % 1000000000000002493))), some (.dat (.int i))], rfl, ?_, _, _, Int.emod_nonneg _ (by decide), Int.emod_lt_of_pos _ (by decide), rfl⟩
      simp [c8, c4, c5, c6])
  rw [e]
  refine ⟨x * 1000000000000002493 + (x * 65599 + b) % 1000000000000002493, ?_⟩
  simp [c7, c3, c6]

/-- the spring -/
structure SpOk (v : Val) : Prop where
  form : ∃ (ns : List Int) (a b : Int), v = .ol [.list (ns.map .int), .int a, .int b] ∧ ns.length ≤ 17
theorem at_mod {α : Type} {xs : List α} {i : Int} (h : xs ≠ []) : ∃ x ∈ xs, L2.atI xs (i % (xs.length : Int)) = some x := by
  have hl : 0 < xs.length := List.length_pos_iff.mpr h
  have h0 := Int.emod_nonneg i (show (xs.length : Int) ≠ 0 by omega)
  have h1 := Int.emod_lt_of_pos i (show (0 : Int) < xs.length by omega)
  have hk : (i % (xs.length : Int)).toNat < xs.length := by omega
  refine ⟨xs[(i % (xs.length : Int)).toNat], List.getElem_mem hk, ?_⟩
  unfold L2.atI L2.ixN
  rw [if_pos h0, if_pos h1]
  show xs[(i % (xs.length : Int)).toNat]? = _
  exact List.getElem?_eq_getElem hk
theorem at_in {α : Type} {xs : List α} {i : Int} (h0 : 0 ≤ i) (h1 : i < xs.length) : ∃ x ∈ xs, L2.atI xs i = some x := by
  have hk : i.toNat < xs.length := by omega
  refine ⟨xs[i.toNat], List.getElem_mem hk, ?_⟩
  unfold L2.atI L2.ixN
  rw [if_pos h0, if_pos h1]
  exact List.getElem?_eq_getElem hk
theorem set1 {a b c : D} {v : D} : ixSem (some (.ol [a, b, c])) [.list [a, b, c], .int 1] v = some (.ol [a, v, c]) := rfl
theorem set2 {a b c : D} {v : D} : ixSem (some (.ol [a, b, c])) [.list [a, b, c], .int 2] v = some (.ol [a, b, v]) := rfl
theorem at2 {a b c : D} : L2.atI [a, b, c] 2 = some c := rfl
theorem at1 {a b c : D} : L2.atI [a, b, c] 1 = some b := rfl
theorem s_under {l : Nat} (hl : 2 ≤ l) {v : Val} (hv : SpOk v) {n : Int} (h0 : 0 < n) (hn : small64 n = true) : ∃ (z : Int) (v' : Val), 0 ≤ z ∧ z < n ∧ SpOk v' ∧ evL cls tbl l 12 [v, .dat (.int n)] = .ret (.dat (.int z)) [v'] := by
  obtain ⟨l, rfl, hl1⟩ := lev hl
  obtain ⟨⟨ns, a, b, rfl, hns⟩⟩ := hv
  obtain ⟨m, hm⟩ := evL_step (cls := cls) (tbl := tbl) (l := l) (vs := [.ol [.list (ns.map .int), .int a, .int b], .dat (.int n)]) f__law_under (f := 12) rfl rfl
  rw [hm]; clear hm
  have p16 : psem .pow [.int 10, .int 16] = some (.dat (.int 10000000000000000)) := by kernel_rfl
  have p13 : psem .pow [.int 10, .int 13] = some (.dat (.int 10000000000000)) := by kernel_rfl
  have m13 : ∀ a, psem .mod [.int a, .int 10000000000000] = some (.dat (.int (a % 10000000000000))) := fun a => p_modI (by decide)
  have mn : ∀ a, psem .mod [.int a, .int n] = some (.dat (.int (a % n))) := fun a => p_modI h0
  have fn : ∀ a, psem .fdiv [.int a, .int n] = some (.dat (.int (a / n))) := fun a => p_fdivI h0 hn
  have ml : psem .fdiv [.int a, .int ((ns.length : Int) + 1)] = some (.dat (.int (a / ((ns.length : Int) + 1)))) := p_fdivI (by omega) (small_lt (by omega) (by omega))
  cases hb : decide (b < n) with
  | false =>
    refine ⟨b % n, .ol [.list (ns.map .int), .int a, .int (b / n)], Int.emod_nonneg _ (by omega), Int.emod_lt_of_pos _ h0, ⟨⟨ns, a, _, rfl, hns⟩⟩, ?_⟩
    simp [f__law_under, at2, hb, mn, fn, set2]
    exact finP_rt (outs1 rfl)
  | true =>
    obtain ⟨sp, hsp⟩ : ∃ sp : Int → Int → Int, ∀ x y, evL cls tbl l 10 [.dat (.int x), .dat (.int y)] = .ret (.dat (.int (sp x y))) [] := ⟨fun x y => Classical.choose (s_spread hl1 x y), fun x y => Classical.choose_spec (s_spread hl1 x y)⟩
    by_cases h : ns = []
    · have he : ns.isEmpty = true := by rw [h]; rfl
      refine ⟨sp (a / ((ns.length : Int) + 1)) a % n, .ol [.list (ns.map .int), .int (a + 1), .int (sp (a / ((ns.length : Int) + 1)) a / n)], Int.emod_nonneg _ (by omega), Int.emod_lt_of_pos _ h0, ⟨⟨ns, _, _, rfl, hns⟩⟩, ?_⟩
      simp [f__law_under, at2, hb, mn, fn, set1, set2, setVals, at1, he, p16, p13, m13, ml, hsp]
      exact finP_rt (outs1 rfl)
    · have he : ns.isEmpty = false := by cases ns <;> simp_all
      obtain ⟨x, hm, e⟩ := at_mod (xs := ns.map PyData.int) (i := a) (by simpa using h)
      obtain ⟨c, _, rfl⟩ := List.mem_map.mp hm
      rw [List.length_map] at e
      have hl : 0 < (ns.length : Int) := by have := List.length_pos_iff.mpr h; omega
      have mm : psem .mod [.int a, .int ns.length] = some (.dat (.int (a % ns.length))) := p_modI hl
      cases hc : (decide (c < 10000000000000000) || decide ((ns.length : Int) ≤ a)) with
      | false =>
        rw [Bool.or_eq_false_iff] at hc
        refine ⟨c % n, .ol [.list (ns.map .int), .int (a + 1), .int (c / n)], Int.emod_nonneg _ (by omega), Int.emod_lt_of_pos _ h0, ⟨⟨ns, _, _, rfl, hns⟩⟩, ?_⟩
        simp [f__law_under, at2, hb, mn, fn, set1, set2, setVals, at1, he, p16, p13, m13, ml, hsp, mm, e, hc.1, hc.2]
        exact finP_rt (outs1 rfl)
      | true =>
        refine ⟨sp (c % 10000000000000 + a / ((ns.length : Int) + 1)) a % n, .ol [.list (ns.map .int), .int (a + 1), .int (sp (c % 10000000000000 + a / ((ns.length : Int) + 1)) a / n)], Int.emod_nonneg _ (by omega), Int.emod_lt_of_pos _ h0, ⟨⟨ns, _, _, rfl, hns⟩⟩, ?_⟩
        cases h1 : decide (c < 10000000000000000) with
        | true =>
          simp [f__law_under, at2, hb, mn, fn, set1, set2, setVals, at1, he, p16, p13, m13, ml, hsp, mm, e, h1]
          exact finP_rt (outs1 rfl)
        | false =>
          rw [h1, Bool.false_or] at hc
          simp [f__law_under, at2, hb, mn, fn, set1, set2, setVals, at1, he, p16, p13, m13, ml, hsp, mm, e, h1, hc]
          exact finP_rt (outs1 rfl)
theorem s_any {l : Nat} (hl : 3 ≤ l) {v : Val} (hv : SpOk v) {xs : List D} (h : xs ≠ []) (hn : xs.length < 1000000) : ∃ (d : D) (v' : Val), d ∈ xs ∧ SpOk v' ∧ evL cls tbl l 13 [v, .dat (.list xs)] = .ret (.dat d) [v'] := by
  obtain ⟨l, rfl, hl1⟩ := lev hl
  have hp := List.length_pos_iff.mpr h
  obtain ⟨z, v', hz, hzl, hv', e⟩ := s_under hl1 hv (n := xs.length) (by omega) (small_lt (by omega) (by omega))
  obtain ⟨d, hd, ed⟩ := at_in (xs := xs) hz hzl
  refine ⟨d, v', hd, hv', ?_⟩
  obtain ⟨m, hm⟩ := evL_step (cls := cls) (tbl := tbl) (l := l) (vs := [v, .dat (.list xs)]) f__law_any (f := 13) rfl rfl
  rw [hm]; clear hm
  obtain ⟨ns, a, b, rfl, _⟩ := hv.form
  simp [f__law_any, e, ed]
  exact finP_rt (outs1 rfl)
theorem s_anyT {l : Nat} (hl : 3 ≤ l) {v : Val} (hv : SpOk v) {xs : List D} (h : xs ≠ []) (hn : xs.length < 1000000) : ∃ (d : D) (v' : Val), d ∈ xs ∧ SpOk v' ∧ evL cls tbl l 13 [v, .dat (.tuple xs)] = .ret (.dat d) [v'] := by
  obtain ⟨l, rfl, hl1⟩ := lev hl
  have hp := List.length_pos_iff.mpr h
  obtain ⟨z, v', hz, hzl, hv', e⟩ := s_under hl1 hv (n := xs.length) (by omega) (small_lt (by omega) (by omega))
  obtain ⟨d, hd, ed⟩ := at_in (xs := xs) hz hzl
  refine ⟨d, v', hd, hv', ?_⟩
  obtain ⟨m, hm⟩ := evL_step (cls := cls) (tbl := tbl) (l := l) (vs := [v, .dat (.tuple xs)]) f__law_any (f := 13) rfl rfl
  rw [hm]; clear hm
  obtain ⟨ns, a, b, rfl, _⟩ := hv.form
  simp [f__law_any, e, ed]
  exact finP_rt (outs1 rfl)
end K20
end SK20G2
section SK20G3
set_option Elab.async false
set_option linter.all false
set_option maxRecDepth 100000
namespace K20
open PySem EV
theorem ixN_in {n : Nat} {i : Int} (h0 : 0 ≤ i) (h1 : i < n) : L2.ixN n i = some i.toNat := by
  unfold L2.ixN
  rw [if_pos h0, if_pos h1]
theorem s_spring {l : Nat} (hl : 1 ≤ l) (ns : List Int) (hn : ns.length ≤ 63) : ∃ v, SpOk v ∧ evL cls tbl l 11 [.scr (ns.map .int)] = .ret v [] := by
  obtain ⟨l, rfl, hl1⟩ := lev hl
  obtain ⟨m, hm⟩ := evL_step (cls := cls) (tbl := tbl) (l := l) (vs := [.scr (ns.map .int)]) f__law_spring (f := 11) rfl rfl
  rw [hm]; clear hm
  have cT : cutD (ns.map PyData.int) none (some 17) = (ns.take 17).map .int := by
    rw [show (17 : Int) = ((17 : Nat) : Int) from rfl, cutTo, List.map_take]
  simp only [f__law_spring, List.map_cons, List.map_nil, List.length_cons, List.length_nil, List.cons_append, List.nil_append, List.replicate, Nat.reduceSub, ss_cons', evF_s, s_set', evF_e]
  rw [lc_all (bs := ns.take 17) (inj := .int) (g := fun k => .int (if k < 0 then -k else k)) (ρ := [some (.scr (ns.map .int)), none, none, none]) (by simp [cT]) (fitn.mpr (by simp; omega)) (by simp) (by intro x _; simp)]
  simp only [bind_okE, List.set_cons_succ, List.set_cons_zero]
  obtain ⟨ρ', e, is, w2, w3, h1, rfl⟩ := q_s_for (cls := cls) (r := evF cls (evL cls tbl l) (m + 99)) (ρ := [some (.scr (ns.map .int)), some (.ol ((ns.take 17).map fun k => .int (if k < 0 then -k else k))), none, none]) (t := .tup [2, 3]) (kd := .enum) (as := [.scut 0 (.cst (.int 17)) (.cst (.int 60))]) (xs := (cutD (ns.map PyData.int) (some 17) (some 60)).zipIdx.map fun p => .tuple [.int p.2, p.1])
    (ρ0 := [some (.scr (ns.map .int)), some (.ol ((ns.take 17).map fun k => .int (if k < 0 then -k else k))), none, none])
    (body := [(.setIx 1 (.pr .mod [(.pr .toint [(.pk 2)]), (.cst (.int 17))]) (.pr .add [(.pr .idx [(.pk 1), (.pr .mod [(.pr .toint [(.pk 2)]), (.cst (.int 17))])]), (.pr .abs [(.pk 3)])]))])
    (P := fun _ ρ => ∃ (is : List Int) (w2 w3 : Option Val), is.length = min 17 ns.length ∧ ρ = [some (.scr (ns.map .int)), some (.ol (is.map .int)), w2, w3])
    (by simp) ⟨(ns.take 17).map fun k => if k < 0 then -k else k, none, none, by simp, by rw [List.map_map]; rfl⟩
    (by
      rintro k y ρ hk hy ⟨is, w2, w3, hlen, rfl⟩
      obtain ⟨⟨x, q⟩, hq, rfl⟩ := List.mem_map.mp hy
      have hx : x ∈ cutD (ns.map PyData.int) (some 17) (some 60) := by
        have := List.mem_zipIdx hq
        rw [this.2.2]; exact List.getElem_mem _
      have hx2 : x ∈ (ns.map PyData.int).drop 17 := by
        have : HT.sIx (ns.map PyData.int).length 0 (some 17) = min 17 ns.length := by
          have := HT.sIx_nat (ns.map PyData.int).length 0 17
          rw [List.length_map] at this
          rw [List.length_map]
          exact this
        unfold cutD at hx
        rw [this] at hx
        have hx := List.mem_of_mem_take hx
        rcases Nat.le_total 17 ns.length with h | h
        · rwa [Nat.min_eq_left h] at hx
        · rw [Nat.min_eq_right h, List.drop_of_length_le (by simp)] at hx; cases hx
      have h17 : 17 ≤ ns.length := by
        rcases Nat.lt_or_ge ns.length 17 with h | h
        · rw [List.drop_of_length_le (by simp; omega)] at hx2; cases hx2
        · exact h
      obtain ⟨a, _, rfl⟩ := List.mem_map.mp (List.mem_of_mem_drop hx2)
      have hl17 : is.length = 17 := by omega
      have b0 := Int.emod_nonneg (q : Int) (show (17 : Int) ≠ 0 by decide)
      have b1 := Int.emod_lt_of_pos (q : Int) (show (0 : Int) < 17 by decide)
      have m17 : psem .mod [.int (q : Int), .int 17] = some (.dat (.int ((q : Int) % 17))) := p_modI (by decide)
      obtain ⟨d, hd, ed⟩ := at_in (xs := is.map PyData.int) (i := (q : Int) % 17) b0 (by rw [List.length_map, hl17]; exact b1)
      obtain ⟨c, _, rfl⟩ := List.mem_map.mp hd
      have ei : L2.ixN (is.map PyData.int).length ((q : Int) % 17) = some ((q : Int) % 17).toNat := ixN_in b0 (by rw [List.length_map, hl17]; exact b1)
      refine ⟨[some (.scr (ns.map .int)), some (.ol (is.map .int)), some (.dat (.int q)), some (.dat (.int a))], [some (.scr (ns.map .int)), some (.ol ((is.set ((q : Int) % 17).toNat (c + (if a < 0 then -a else a))).map .int)), some (.dat (.int q)), some (.dat (.int a))], rfl, ?_, is.set ((q : Int) % 17).toNat (c + (if a < 0 then -a else a)), _, _, by rw [List.length_set]; exact hlen, rfl⟩
      rw [List.length_map] at ei
      simp [m17, ed, ixSem, ei, List.map_set])
  rw [e]
  refine ⟨.ol [.list (is.map .int), .int 0, .int 0], ⟨⟨is, 0, 0, rfl, by omega⟩⟩, ?_⟩
  simp
end K20
end SK20G3
section SK20G4
set_option Elab.async false
set_option linter.all false
set_option maxRecDepth 100000
namespace K20
open PySem EV
theorem mem_insI {x n : Int} : ∀ {l : List Int}, x ∈ insI n l → x = n ∨ x ∈ l
  | [], h => by simpa [insI] using h
  | y :: l, h => by
    unfold insI at h
    split at h
    · simpa using h
    · split at h
      · exact .inr h
      · rcases List.mem_cons.mp h with h | h
        · exact .inr (by rw [h]; exact List.mem_cons_self)
        · rcases mem_insI h with h | h
          · exact .inl h
          · exact .inr (List.mem_cons_of_mem _ h)
theorem insI_ne {n : Int} : ∀ {l : List Int}, insI n l ≠ []
  | [] => by simp [insI]
  | y :: l => by unfold insI; split <;> try split
                 all_goals simp
theorem insI_len {n : Int} : ∀ {l : List Int}, (insI n l).length ≤ l.length + 1
  | [] => by simp [insI]
  | y :: l => by
    have := insI_len (n := n) (l := l)
    unfold insI; split <;> try split
    all_goals simp
    all_goals omega
theorem mem_ssI {x : Int} : ∀ {l : List Int}, x ∈ ssI l → x ∈ l
  | [], h => by simp [ssI] at h
  | n :: l, h => by
    rcases mem_insI (show x ∈ insI n (ssI l) from h) with h | h
    · rw [h]; exact List.mem_cons_self
    · exact List.mem_cons_of_mem _ (mem_ssI h)
theorem ssI_len : ∀ {l : List Int}, (ssI l).length ≤ l.length
  | [] => Nat.le_refl _
  | n :: l => by
    have := ssI_len (l := l)
    have := insI_len (n := n) (l := ssI l)
    show (insI n (ssI l)).length ≤ l.length + 1
    omega
theorem ints_map (is : List Int) : intsOf (is.map PyData.int) = some is := by
  induction is with
  | nil => rfl
  | cons i is ih =>
    show (intsOf (is.map PyData.int)).map (i :: ·) = _
    rw [ih]; rfl
theorem p_sortset {is : List Int} (h : is.length < 60) : psem .sortset [.list (is.map .int)] = some (.lst ((ssI is).map .int)) := by
  simp [psem, pSortset, ints_map, h]
theorem mem_insD {x n : D} : ∀ {l : List D}, x ∈ insD n l → x = n ∨ x ∈ l
  | [], h => by simpa [insD] using h
  | y :: l, h => by
    unfold insD at h
    split at h
    · rcases List.mem_cons.mp h with h | h
      · exact .inr (by rw [h]; exact List.mem_cons_self)
      · rcases mem_insD h with h | h
        · exact .inl h
        · exact .inr (List.mem_cons_of_mem _ h)
    · simpa using h
theorem insD_perm {n : D} : ∀ {l : List D}, (insD n l).Perm (n :: l)
  | [] => .refl _
  | y :: l => by
    unfold insD
    split
    · exact (List.Perm.cons y insD_perm).trans (.swap n y l)
    · exact .refl _
theorem sortD_perm : ∀ {l : List D}, (sortD l).Perm l
  | [] => .refl _
  | n :: l => insD_perm.trans (.cons n sortD_perm)
theorem at_last {α : Type} {xs : List α} {x : α} : L2.atI (xs ++ [x]) (-1) = some x := by
  unfold L2.atI L2.ixN
  rw [if_neg (by decide), if_pos (by simp; omega)]
  have : ((-1 : Int) + ((xs ++ [x]).length : Int)).toNat = xs.length := by simp; omega
  show (xs ++ [x])[((-1 : Int) + ((xs ++ [x]).length : Int)).toNat]? = _
  rw [this]
  simp
theorem p_sortedL {xs : List D} (h : allAlike xs = true) : psem .sorted [.list xs] = some (.lst (sortD xs)) := by simp [psem, pSorted, h]
def zLet : List Str := [⟨#[97]⟩, ⟨#[98]⟩, ⟨#[97,98,99,100,101,102,103,104,64,57,57,57,57]⟩, ⟨#[122,64,48]⟩, ⟨#[97,64,50]⟩, ⟨#[97,64,49,48]⟩]
structure RoadL (r : D) : Prop where
  form : ∃ (s : Str) (i j n : Int), r = .tuple [.str s, .int i, .int j, .int n] ∧ s ∈ zLet ∧ i.natAbs ≤ 1000000 ∧ j.natAbs ≤ 1000000 ∧ n.natAbs ≤ 1000000
theorem let_ok {s : Str} (h : s ∈ zLet) : PyData.strOk s = true ∧ s.length ≤ 13 := by
  have : ∀ s ∈ zLet, PyData.strOk s = true ∧ s.length ≤ 13 := by decide +kernel
  exact this s h
theorem roadL_all {rs : List D} (h : ∀ r ∈ rs, RoadL r) : allAlike rs = true := by
  have h1 : PyData.canLayAll0 rs = true := canLayAll_iff.mpr fun x m => by
    obtain ⟨s, i, j, n, rfl, hs, _⟩ := (h x m).form
    simp [PyData.canLay0, PyData.canLayAll0, (let_ok hs).1]
  have h2 : PyData.depthAll rs ≤ deepD := depthAll_le.mpr fun x m => by
    obtain ⟨s, i, j, n, rfl, _⟩ := (h x m).form
    simp [PyData.depth, PyData.depthAll, deepD]
  have h3 : (rs.all fun x => rs.all fun y => PySem.W.alike x y) = true := List.all_eq_true.mpr fun x m => List.all_eq_true.mpr fun y q => by
    obtain ⟨s, i, j, n, rfl, _⟩ := (h x m).form
    obtain ⟨s', i', j', n', rfl, _⟩ := (h y q).form
    simp [PySem.W.alike, PySem.W.alikeAll]
  have h4 : rs.all isTupC = true := List.all_eq_true.mpr fun x m => by obtain ⟨s, i, j, n, rfl, _⟩ := (h x m).form; rfl
  simp only [allAlike, h1, h2, h3, h4, Bool.true_and, Bool.true_or, decide_true]
structure NetL (d : D) : Prop where
  form : ∃ (ps : List Int) (rs : List D), d = .tuple [.tuple (ps.map .int), .tuple rs] ∧ ps.length ≤ 5 ∧ (∀ p ∈ ps, p.natAbs ≤ 1000000) ∧ rs.length ≤ 16 ∧ ∀ r ∈ rs, RoadL r
theorem p6 : psem .pow [.int 10, .int 6] = some (.dat (.int 1000000)) := by kernel_rfl
theorem sm5 : small64 5 = true := by decide
theorem s_some_net {l : Nat} (hl : 4 ≤ l) {v : Val} (hv : SpOk v) : ∃ (d : D) (v' : Val), NetL d ∧ SpOk v' ∧ evL cls tbl l 15 [v, .dat (.int 5), .dat (.int 8), .dat (.list (zLet.map .str))] = .ret (.dat d) [v'] := by
  obtain ⟨l, rfl, hl1⟩ := lev hl
  obtain ⟨m, hm⟩ := evL_step (cls := cls) (tbl := tbl) (l := l) (vs := [v, .dat (.int 5), .dat (.int 8), .dat (.list (zLet.map .str))]) f__law_some_net (f := 15) rfl rfl
  generalize hLL : zLet.map PyData.str = LL at hm ⊢
  rw [hm]; clear hm
  obtain ⟨z0, v0, hz0, hz0l, hv0, e0⟩ := s_under (l := l) (by omega) hv (n := 5) (by decide) sm5
  have r0 : itSem .range [.int (1 + z0)] = some (rangeL 0 (1 + z0)) := q_it_range (by unfold small62; simp; omega) (by omega)
  obtain ⟨ys, ρ1, e1, hys, hR, v1, w1, hv1, rfl⟩ := lc_inv (cls := cls) (cl := evL cls tbl l) (r := evF cls (evL cls tbl l) (m + 97)) (e := (.call 13 [(.mt 0), (.lst [(.cst (.int 0)), (.cst (.int 1)), (.cst (.int 2)), (.cst (.int 5)), (.pr .pow [(.cst (.int 10)), (.cst (.int 6))])])])) (i := 6) (kd := .range) (as := [(.pr .add [(.cst (.int 1)), (.call 12 [(.mt 0), (.var 1)])])])
    (ρ0 := [some v, some (.dat (.int 5)), some (.dat (.int 8)), some (.dat (.list LL)), none, none, none, none])
    (ρ := [some v0, some (.dat (.int 5)), some (.dat (.int 8)), some (.dat (.list LL)), none, none, none, none])
    (xs := rangeL 0 (1 + z0))
    (P := fun ρ => ∃ (v : Val) (w : Option Val), SpOk v ∧ ρ = [some v, some (.dat (.int 5)), some (.dat (.int 8)), some (.dat (.list LL)), none, none, w, none])
    (R := fun y => ∃ i : Int, y = .int i ∧ i.natAbs ≤ 1000000)
    (by simp [e0, r0]) (fitn.mpr (by simp [rangeL]; omega)) ⟨v0, none, hv0, rfl⟩
    (by
      rintro x ρ hx ⟨v, w, hv, rfl⟩
      obtain ⟨d, v', hd, hv', e⟩ := s_any (l := l) (by omega) hv (xs := [.int 0, .int 1, .int 2, .int 5, .int 1000000]) (by simp) (by simp)
      refine ⟨.dat d, d, [some v', some (.dat (.int 5)), some (.dat (.int 8)), some (.dat (.list LL)), none, none, some (.dat x), none], ?_, rfl, ?_, v', _, hv', rfl⟩
      · simp [p6, e]
      · simp at hd
        rcases hd with rfl | rfl | rfl | rfl | rfl <;> exact ⟨_, rfl, by decide⟩)
  obtain ⟨is, rfl, his⟩ : ∃ is : List Int, ys = is.map .int ∧ ∀ i ∈ is, i.natAbs ≤ 1000000 := by
    clear e1 hys
    induction ys with
    | nil => exact ⟨[], rfl, by simp⟩
    | cons y ys ih =>
      obtain ⟨is, rfl, h⟩ := ih fun y m => hR y (List.mem_cons_of_mem _ m)
      obtain ⟨i, rfl, hi⟩ := hR y List.mem_cons_self
      exact ⟨i :: is, rfl, by simp [hi]; exact h⟩
  have hlr : (rangeL 0 (1 + z0)).length = (1 + z0).toNat := by simp [rangeL]
  have hil : is.length = (1 + z0).toNat := by rw [← hlr, ← hys, List.length_map]
  have e1' := e1
  obtain ⟨PS, hPS⟩ : ∃ PS, PS = (ssI is).map PyData.int := ⟨_, rfl⟩
  have hPn : PS ≠ [] := by
    rw [hPS]
    cases is with
    | nil => simp at hil; omega
    | cons i is => simp [ssI, insI_ne]
  have hPl : PS.length ≤ 5 := by rw [hPS, List.length_map]; have := ssI_len (l := is); omega
  have hPi : ∀ d ∈ PS, ∃ i : Int, d = .int i ∧ i.natAbs ≤ 1000000 := by
    intro d hd
    rw [hPS] at hd
    obtain ⟨i, hi, rfl⟩ := List.mem_map.mp hd
    exact ⟨i, rfl, his i (mem_ssI hi)⟩
  have hss : psem .sortset [.list (is.map .int)] = some (.lst PS) := by rw [hPS]; exact p_sortset (by omega)
  obtain ⟨z2, v2, hz2, hz2l, hv2, e2⟩ := s_under (l := l) (by omega) hv1 (n := 9) (by decide) (by decide)
  have r2 : itSem .range [.int z2] = some (rangeL 0 z2) := q_it_range (by unfold small62; simp; omega) (by omega)
  obtain ⟨ρ3, e3, v3, rs, w4, w6, w7, hv3, hw4, hrs, hrl, rfl⟩ := q_s_for (cls := cls) (r := evF cls (evL cls tbl l) (m + 99)) (t := .nm 6) (kd := .range) (as := [(.call 12 [(.mt 0), (.pr .add [(.pk 2), (.cst (.int 1))])])])
    (ρ0 := [some v1, some (.dat (.int 5)), some (.dat (.int 8)), some (.dat (.list LL)), some (.ol PS), some (.ol []), none, none])
    (ρ := [some v2, some (.dat (.int 5)), some (.dat (.int 8)), some (.dat (.list LL)), some (.ol PS), some (.ol []), none, none])
    (body := [(.set 7 (.tup [(.call 13 [(.mt 0), (.var 3)]), (.call 13 [(.mt 0), (.var 4)]), (.call 13 [(.mt 0), (.var 4)])])), (.mut .append 5 [(.pr .add [(.pk 7), (.tup [(.call 13 [(.mt 0), (.lst [(.cst (.int 0)), (.cst (.int 1)), (.cst (.int 1)), (.cst (.int 3)), (.pr .pow [(.cst (.int 10)), (.cst (.int 6))])])])])])]), (.if_ (.pr .eq [(.call 12 [(.mt 0), (.cst (.int 4))]), (.cst (.int 0))]) [(.mut .append 5 [(.pr .idx [(.pk 5), (.pr .neg [(.cst (.int 1))])])])] [])])
    (xs := rangeL 0 z2)
    (P := fun k ρ => ∃ (v : Val) (rs : List D) (w4 : Val) (w6 w7 : Option Val), SpOk v ∧ (w4 = .ol PS ∨ w4 = .dat (.list PS)) ∧ (∀ r ∈ rs, RoadL r) ∧ rs.length ≤ 2 * k ∧ ρ = [some v, some (.dat (.int 5)), some (.dat (.int 8)), some (.dat (.list LL)), some w4, some (.ol rs), w6, w7])
    (by simp [e2, r2]) ⟨v2, [], _, none, none, hv2, .inl rfl, by simp, by simp, rfl⟩
    (by
      rintro k x ρ hk hx ⟨v, rs, w4, w6, w7, hv, hw4, hrs, hrl, rfl⟩
      have hk' : k < 9 := by simp [rangeL] at hk; omega
      obtain ⟨d1, u1, hd1, hu1, c1⟩ := s_any (l := l) (by omega) hv (xs := LL) (by rw [← hLL]; simp [zLet]) (by rw [← hLL]; simp [zLet])
      obtain ⟨d2, u2, hd2, hu2, c2⟩ := s_any (l := l) (by omega) hu1 (xs := PS) hPn (by omega)
      obtain ⟨d3, u3, hd3, hu3, c3⟩ := s_any (l := l) (by omega) hu2 (xs := PS) hPn (by omega)
      obtain ⟨d4, u4, hd4, hu4, c4⟩ := s_any (l := l) (by omega) hu3 (xs := [.int 0, .int 1, .int 1, .int 3, .int 1000000]) (by simp) (by simp)
      obtain ⟨z, u5, hz, hzl, hu5, c5⟩ := s_under (l := l) (by omega) hu4 (n := 4) (by decide) (by decide)
      have hadd : psem .add [.tuple [d1, d2, d3], .tuple [d4]] = some (.dat (.tuple [d1, d2, d3, d4])) := p_addT (by simp [fit])
      have hrd : RoadL (.tuple [d1, d2, d3, d4]) := by
        rw [← hLL] at hd1
        obtain ⟨s, hs, rfl⟩ := List.mem_map.mp hd1
        obtain ⟨i, rfl, hi⟩ := hPi _ hd2
        obtain ⟨j, rfl, hj⟩ := hPi _ hd3
        obtain ⟨n, rfl, hn⟩ : ∃ n : Int, d4 = .int n ∧ n.natAbs ≤ 1000000 := by
          simp at hd4
          rcases hd4 with rfl | rfl | rfl | rfl <;> exact ⟨_, rfl, by decide⟩
        exact ⟨⟨s, i, j, n, rfl, hs, hi, hj, hn⟩⟩
      have hap : ∀ d, mAppend rs [d] = some (rs ++ [d]) := fun d => by simp [mAppend, fitn.mpr (show rs.length + 1 ≤ 16777216 by omega)]
      have hap2 : ∀ d e, mAppend (rs ++ [d]) [e] = some (rs ++ [d] ++ [e]) := fun d e => by simp [mAppend, fitn.mpr (show rs.length + 1 + 1 ≤ 16777216 by omega)]
      have hr1 : ∀ r ∈ rs ++ [PyData.tuple [d1, d2, d3, d4]], RoadL r := by
        intro r m
        rcases List.mem_append.mp m with m | m
        · exact hrs r m
        · cases List.mem_singleton.mp m; exact hrd
      have hr2 : ∀ r ∈ rs ++ [PyData.tuple [d1, d2, d3, d4]] ++ [PyData.tuple [d1, d2, d3, d4]], RoadL r := by
        intro r m
        rcases List.mem_append.mp m with m | m
        · exact hr1 r m
        · cases List.mem_singleton.mp m; exact hrd
      cases h0 : (z == 0) with
      | true =>
        refine ⟨_, [some u5, some (.dat (.int 5)), some (.dat (.int 8)), some (.dat (.list LL)), some (.dat (.list PS)), some (.ol (rs ++ [.tuple [d1, d2, d3, d4]] ++ [.tuple [d1, d2, d3, d4]])), some (.dat x), some (.dat (.tuple [d1, d2, d3]))], rfl, ?_, u5, _, _, _, _, hu5, .inr rfl, hr2, ?_, rfl⟩
        · rcases hw4 with rfl | rfl <;> simp [c1, c2, c3, c4, c5, hadd, hap, hap2, olAt, mutSem, msem, p6, h0, at_last]
        · simp; omega
      | false =>
        refine ⟨_, [some u5, some (.dat (.int 5)), some (.dat (.int 8)), some (.dat (.list LL)), some (.dat (.list PS)), some (.ol (rs ++ [.tuple [d1, d2, d3, d4]])), some (.dat x), some (.dat (.tuple [d1, d2, d3]))], rfl, ?_, u5, _, _, _, _, hu5, .inr rfl, hr1, ?_, rfl⟩
        · rcases hw4 with rfl | rfl <;> simp [c1, c2, c3, c4, c5, hadd, hap, hap2, olAt, mutSem, msem, p6, h0, at_last]
        · simp; omega)
  have hlz : (rangeL 0 z2).length = z2.toNat := by simp [rangeL]
  refine ⟨.tuple [.tuple PS, .tuple (sortD rs)], v3, ⟨⟨ssI is, sortD rs, by rw [hPS], ?_, fun p hp => his p (mem_ssI hp), ?_, fun r hr => hrs r (sortD_perm.mem_iff.mp hr)⟩⟩, hv3, ?_⟩
  · have := ssI_len (l := is); omega
  · rw [sortD_perm.length_eq]; omega
  · rcases hw4 with rfl | rfl
    · simp [f__law_some_net, e1, hss, e3, p_sortedL (roadL_all hrs)]
      exact finP_rt (outs1 rfl)
    · simp [f__law_some_net, e1, hss, e3, p_sortedL (roadL_all hrs)]
      exact finP_rt (outs1 rfl)
end K20
end SK20G4
section SK20G5
set_option Elab.async false
set_option linter.all false
set_option maxRecDepth 100000
namespace K20
open PySem EV
mutual
def pureD : D → Bool
  | .int i => decide (i.natAbs < 10 ^ 11)
  | .str z => PyData.strOk z
  | .tuple xs => pureAll xs
  | .none => false
  | .bool _ => false
  | .list _ => false
  | .dict _ => false
def pureAll : List D → Bool
  | [] => true
  | x :: xs => pureD x && pureAll xs
end
theorem pureAll_iff {xs : List D} : pureAll xs = true ↔ ∀ x ∈ xs, pureD x = true := by
  induction xs with
  | nil => simp [pureAll]
  | cons x xs ih => simp [pureAll, ih]
mutual
theorem pure_nice : ∀ d : D, pureD d = true → nice (10 ^ 12) d = true
  | .int i, h => by
    simp only [pureD, decide_eq_true_eq] at h
    simp only [nice, decide_eq_true_eq]
    omega
  | .str z, h => h
  | .tuple xs, h => pureAll_nice xs h
  | .none, h => by cases h
  | .bool _, h => by cases h
  | .list _, h => by cases h
  | .dict _, h => by cases h
theorem pureAll_nice : ∀ xs : List D, pureAll xs = true → niceAll (10 ^ 12) xs = true
  | [], _ => rfl
  | x :: xs, h => by
    simp only [pureAll, Bool.and_eq_true] at h
    simp only [niceAll, Bool.and_eq_true]
    exact ⟨pure_nice x h.1, pureAll_nice xs h.2⟩
end
/-! sizes -/
theorem Ok.mono {w k w' k' : Nat} {d : D} (h : Ok w k d) (hw : w ≤ w') (hk : k ≤ k') : Ok w' k' d := ⟨h.nice, Nat.le_trans h.weight hw, Nat.le_trans h.depth hk⟩
theorem mkT {w k : Nat} {ys : List D} (h : ∀ x ∈ ys, K20.nice (10 ^ 12) x = true ∧ x.depth ≤ k) (hw : PyData.weightAll ys ≤ w) : Ok w (k + 1) (.tuple ys) ∧ Ok w (k + 1) (.list ys) := by
  have h1 : niceAll (10 ^ 12) ys = true := niceAll_iff.mpr fun x m => (h x m).1
  have h2 : PyData.depthAll ys ≤ k := depthAll_le.mpr fun x m => (h x m).2
  exact ⟨⟨h1, hw, by simp only [PyData.depth]; omega⟩, ⟨h1, hw, by simp only [PyData.depth]; omega⟩⟩
theorem weight_drop (n : Nat) (xs : List D) : PyData.weightAll (xs.drop n) ≤ PyData.weightAll xs := by
  have := weightAll_app (xs.take n) (xs.drop n)
  rw [List.take_append_drop] at this
  omega
theorem weight_take (n : Nat) (xs : List D) : PyData.weightAll (xs.take n) ≤ PyData.weightAll xs := by
  have := weightAll_app (xs.take n) (xs.drop n)
  rw [List.take_append_drop] at this
  omega
theorem weight_cut (xs : List D) (a b : Option Int) : PyData.weightAll (cutD xs a b) ≤ PyData.weightAll xs := Nat.le_trans (weight_take _ _) (weight_drop _ _)
theorem mem_cut {x : D} {xs : List D} {a b : Option Int} (h : x ∈ cutD xs a b) : x ∈ xs := List.mem_of_mem_drop (List.mem_of_mem_take h)
theorem len_cut (xs : List D) (a b : Option Int) : (cutD xs a b).length ≤ xs.length := by unfold cutD; rw [List.length_take, List.length_drop]; omega
def tS (i : Int) : Str := toString i
theorem p_tostrI {i : Int} (h : i.natAbs < 10 ^ 12) : psem .tostr [.int i] = some (.dat (.str (tS i))) := by
  have : i.natAbs.log2 < 1920 := by
    have := nice_showable (.int i) (by simp only [nice, decide_eq_true_eq]; exact h)
    simpa [PyData.showable] using this
  simp only [psem, pTostr, this, if_true]
  rfl
theorem strOk_ofString (s : String) : PyData.strOk (Str.ofString s) = true := by
  rw [Str.ofString_eq_toList, strOk_iff]
  intro c hc
  simp only [List.mem_map, List.toList_toArray] at hc
  obtain ⟨ch, _, rfl⟩ := hc
  have := ch.valid
  simp only [UInt32.isValidChar, Nat.isValidChar] at this
  show ch.val.toNat < _
  omega
theorem p_addS {a b : Str} (h : fit (a.length + b.length) = true) : psem .add [.str a, .str b] = some (.dat (.str (a ++ b))) := by simp [psem, pAdd, h]
theorem strOk_app {a b : Str} (ha : PyData.strOk a = true) (hb : PyData.strOk b = true) : PyData.strOk (a ++ b) = true := by
  rw [strOk_iff] at ha hb ⊢
  intro c hc
  have e : (a ++ b).cps = a.cps ++ b.cps := rfl
  rw [e, Array.toList_append] at hc
  rcases List.mem_append.mp hc with h | h
  · exact ha c h
  · exact hb c h
theorem p_revT {xs : List D} : psem .rev [.tuple xs] = some (.dat (.tuple xs.reverse)) := rfl
theorem p_slcS {z : Str} {l h : D} {lo hi : Option Int} (hl : opInt l = some lo) (hh : opInt h = some hi) (hf : fit z.length = true) : psem .slc [.str z, l, h] = some (.dat (.str (L2.cutS z lo hi))) := by simp [psem, pSlc, hl, hh, hf]
theorem eqv_nilT {xs : List D} : PyData.eqv (.tuple xs) (.tuple []) = xs.isEmpty := by cases xs <;> simp [PyData.eqv, PyData.eqvAll]
theorem p_neNilT {xs : List D} : psem .ne [.tuple xs, .tuple []] = some (.dat (.bool (!xs.isEmpty))) := by simp [psem, pNe, eqOk, lenOk, eqv_nilT]
/-- what is always among the bent things -/
def fix13 (d : D) : List D := [.none, .int 0, .int 1, .bool true, .str ⟨#[]⟩, .str ⟨#[97]⟩, .str ⟨#[120]⟩, .tuple [], .list [], .dict [], .tuple [.list []], d, .tuple [d]]
theorem fix_ok {w k : Nat} {d : D} (h : Ok w k d) : ∀ x ∈ fix13 d, Ok (w + 1) (k + 2) x := by
  have hk : ∀ x : D, K20.nice (10 ^ 12) x = true → x.weight ≤ 1 → x.depth ≤ 2 → Ok (w + 1) (k + 2) x := fun x a b c => ⟨a, by omega, by omega⟩
  intro x hx
  simp only [fix13, List.mem_cons, List.not_mem_nil, or_false] at hx
  rcases hx with rfl | rfl | rfl | rfl | rfl | rfl | rfl | rfl | rfl | rfl | rfl | h12 | h13
  iterate 11 exact hk _ (by decide +kernel) (by decide +kernel) (by decide +kernel)
  · rw [h12]; exact h.mono (by omega) (by omega)
  · rw [h13]
    have := (mkT (w := w + 1) (k := k) (ys := [d]) (by
      intro y hy; cases List.mem_singleton.mp hy; exact ⟨h.nice, h.depth⟩) (by have := h.weight; simp only [PyData.weightAll]; omega)).1
    exact this.mono (by omega) (by omega)
theorem wInt {i : Int} (h : i.natAbs < 10 ^ 12) : (PyData.int i).weight ≤ 41 := by
  simp only [PyData.weight]
  split
  · omega
  · rename_i h0
    have h0' : i.natAbs ≠ 0 := by intro e; exact h0 (by simp; omega)
    have := (Nat.log2_lt h0').mpr (Nat.lt_trans h (by decide : 10 ^ 12 < 2 ^ 40))
    omega
theorem okI {w k : Nat} {i : Int} (h : i.natAbs < 10 ^ 12) (hw : 41 ≤ w) : Ok w k (.int i) := ⟨by simp only [nice, decide_eq_true_eq]; exact h, by have := wInt h; omega, by simp only [PyData.depth]; omega⟩
theorem okS {w k : Nat} {z : Str} (h : PyData.strOk z = true) (hw : z.length ≤ w) : Ok w k (.str z) := ⟨h, hw, by simp only [PyData.depth]; omega⟩
theorem okB {w k : Nat} {b : Bool} : Ok w k (.bool b) := ⟨rfl, by simp only [PyData.weight]; omega, by simp only [PyData.depth]; omega⟩
end K20
end SK20G5
section SK20G6
set_option Elab.async false
set_option linter.all false
set_option maxRecDepth 100000
namespace K20
open PySem EV
def bPl : List D := rangeL 0 64
def bRd : D := .tuple [.str ⟨#[107,106]⟩, .int 0, .int 63, .int 0]
def bR (n : Nat) : List D := List.replicate n bRd
def bN (xs : List D) (n : Nat) : D := .tuple [.tuple xs, .tuple (bR n)]
theorem b0 : isNet (bN bPl 0) = true := by decide +kernel
theorem b1 : isNet (bN (bPl ++ [.int 64]) 0) = false := by decide +kernel
theorem b2 : isNet (bN bPl 200) = true := by decide +kernel
theorem b3 : isNet (bN bPl 201) = false := by decide +kernel
theorem t0 : toldD true (bN bPl 200) bRd = .tuple [.str zMany, .int 200] := by kernel_rfl
theorem t1 : toldD true (bN bPl 200) (.tuple [.str ⟨#[107,106]⟩, .int 0, .int 63]) = .str zRoad := by kernel_rfl
theorem t2 : toldD true (bN bPl 201) (.int 0) = .str zNet := by kernel_rfl
theorem t3 : toldD false (bN bPl 200) bRd = bN bPl 199 := by kernel_rfl
theorem ok_bN {xs : List D} {n : Nat} (h : xs = bPl ∨ xs = bPl ++ [.int 64]) (hn : n ≤ 201) : Ok 300000 50 (bN xs n) := by
  have hx : niceAll (10 ^ 12) xs = true ∧ PyData.weightAll xs ≤ 1000 ∧ PyData.depthAll xs = 0 := by
    rcases h with rfl | rfl <;> decide +kernel
  have hr : ∀ n, niceAll (10 ^ 12) (List.replicate n bRd) = true ∧ PyData.weightAll (List.replicate n bRd) = 13 * n ∧ PyData.depthAll (List.replicate n bRd) ≤ 1 := by
    intro n
    induction n with
    | zero => decide +kernel
    | succ n ih =>
      have e1 : nice (10 ^ 12) bRd = true := by decide +kernel
      have e2 : bRd.weight = 12 := by decide +kernel
      have e3 : bRd.depth = 1 := by decide +kernel
      simp only [List.replicate_succ, niceAll, PyData.weightAll, PyData.depthAll, e1, e2, e3, ih.1, ih.2.1]
      have := ih.2.2
      refine ⟨rfl, by omega, by omega⟩
  obtain ⟨h1, h2, h3⟩ := hr n
  refine ⟨?_, ?_, ?_⟩
  · simp only [bN, bR, nice, niceAll, hx.1, h1, Bool.and_self]
  · simp only [bN, bR, PyData.weight, PyData.weightAll]; omega
  · simp only [bN, bR, PyData.depth, PyData.depthAll, hx.2.2]; omega
theorem ok_rd : Ok 300000 50 bRd := ⟨by decide +kernel, by decide +kernel, by decide +kernel⟩
theorem ok_rd3 : Ok 300000 50 (.tuple [.str ⟨#[107,106]⟩, .int 0, .int 63]) := ⟨by decide +kernel, by decide +kernel, by decide +kernel⟩
theorem ok_i : Ok 300000 50 (.int 0) := ⟨by decide +kernel, by decide +kernel, by decide +kernel⟩
theorem q0 : psem .trange [.int 64] = some (.dat (.tuple bPl)) := by kernel_rfl
theorem q1 : psem .add [.tuple bPl, .tuple [.int 64]] = some (.dat (.tuple (bPl ++ [.int 64]))) := p_addT (by decide +kernel)
theorem q2 : psem .mul [.tuple [bRd], .int 200] = some (.dat (.tuple (bR 200))) := by kernel_rfl
theorem q3 : psem .mul [.tuple [bRd], .int 201] = some (.dat (.tuple (bR 201))) := by kernel_rfl
theorem q4 : psem .mul [.tuple [bRd], .int 199] = some (.dat (.tuple (bR 199))) := by kernel_rfl
theorem q5 : psem .ne [.list [.bool true, .bool false, .bool true, .bool false], .list [.bool true, .bool false, .bool true, .bool false]] = some (.dat (.bool false)) := by kernel_rfl
theorem q6 : psem .ne [.tuple [.str zMany, .int 200], .tuple [.str zMany, .int 200]] = some (.dat (.bool false)) := by kernel_rfl
theorem q7 : psem .eq [.tuple [.tuple bPl, .tuple (bR 199)], .tuple [.tuple bPl, .tuple (bR 199)]] = some (.dat (.bool true)) := by kernel_rfl
theorem q8 : psem .slc [bRd, .none, .int 3] = some (.dat (.tuple [.str ⟨#[107,106]⟩, .int 0, .int 63])) := by kernel_rfl
theorem q9 : bR 0 = [] := rfl
theorem at4_2 {a b c d : D} : L2.atI [a, b, c, d] 2 = some c := rfl
theorem s_bounds {l : Nat} (hl : 8 ≤ l) : evL cls tbl l 23 [] = .ret (.dat (.bool true)) [] := by
  obtain ⟨l, rfl, hl1⟩ := lev hl
  obtain ⟨m, hm⟩ := evL_step (cls := cls) (tbl := tbl) (l := l) (vs := []) f__law_bounds_right (f := 23) rfl rfl
  rw [hm]; clear hm
  have i0 : evL cls tbl l 6 [.dat (.tuple [.tuple bPl, .tuple []])] = .ret (.dat (.bool true)) [] := by rw [← b0]; exact s_is_net (l := l) (by omega) (ok_bN (n := 0) (.inl rfl) (by omega)) (by omega)
  have i1 : evL cls tbl l 6 [.dat (.tuple [.tuple (bPl ++ [.int 64]), .tuple []])] = .ret (.dat (.bool false)) [] := by rw [← b1]; exact s_is_net (l := l) (by omega) (ok_bN (n := 0) (.inr rfl) (by omega)) (by omega)
  have i2 : evL cls tbl l 6 [.dat (.tuple [.tuple bPl, .tuple (bR 200)])] = .ret (.dat (.bool true)) [] := by rw [← b2]; exact s_is_net (l := l) (by omega) (ok_bN (n := 200) (.inl rfl) (by omega)) (by omega)
  have i3 : evL cls tbl l 6 [.dat (.tuple [.tuple bPl, .tuple (bR 201)])] = .ret (.dat (.bool false)) [] := by rw [← b3]; exact s_is_net (l := l) (by omega) (ok_bN (n := 201) (.inl rfl) (by omega)) (by omega)
  have j0 : evL cls tbl l 21 [.dat (.str ⟨#[119,105,116,104]⟩), .dat (.tuple [.tuple bPl, .tuple (bR 200)]), .dat bRd] = .ret (.dat (.tuple [.str zMany, .int 200])) [] := by rw [← t0]; exact s_told (l := l) (by omega) true (ok_bN (n := 200) (.inl rfl) (by omega)) ok_rd (by omega) (by omega)
  have j1 : evL cls tbl l 21 [.dat (.str ⟨#[119,105,116,104]⟩), .dat (.tuple [.tuple bPl, .tuple (bR 200)]), .dat (.tuple [.str ⟨#[107,106]⟩, .int 0, .int 63])] = .ret (.dat (.str ⟨#[114,111,97,100]⟩)) [] := by rw [show (PyData.str ⟨#[114,111,97,100]⟩) = .str zRoad from rfl, ← t1]; exact s_told (l := l) (by omega) true (ok_bN (n := 200) (.inl rfl) (by omega)) ok_rd3 (by omega) (by omega)
  have j2 : evL cls tbl l 21 [.dat (.str ⟨#[119,105,116,104]⟩), .dat (.tuple [.tuple bPl, .tuple (bR 201)]), .dat (.int 0)] = .ret (.dat (.str ⟨#[110,101,116]⟩)) [] := by rw [show (PyData.str ⟨#[110,101,116]⟩) = .str zNet from rfl, ← t2]; exact s_told (l := l) (by omega) true (ok_bN (n := 201) (.inl rfl) (by omega)) ok_i (by omega) (by omega)
  have j3 : evL cls tbl l 21 [.dat (.str ⟨#[119,105,116,104,111,117,116]⟩), .dat (.tuple [.tuple bPl, .tuple (bR 200)]), .dat bRd] = .ret (.dat (.tuple [.tuple bPl, .tuple (bR 199)])) [] := by rw [show (PyData.tuple [.tuple bPl, .tuple (bR 199)]) = bN bPl 199 from rfl, ← t3]; exact s_told (l := l) (by omega) false (ok_bN (n := 200) (.inl rfl) (by omega)) ok_rd (by omega) (by omega)
  have hrd : PyData.tuple [.str ⟨#[107,106]⟩, .int 0, .int 63, .int 0] = bRd := rfl
  have hmany : (⟨#[109,97,110,121]⟩ : Str) = zMany := rfl
  simp [f__law_bounds_right, q0, q1, hrd, q2, q3]
  rw [lc_all (ρ := [some (.dat (.tuple bPl)), some (.dat bRd), some (.dat (.list [.tuple [.tuple bPl, .tuple []], .tuple [.tuple (bPl ++ [.int 64]), .tuple []], .tuple [.tuple bPl, .tuple (bR 200)], .tuple [.tuple bPl, .tuple (bR 201)]])), none]) (bs := [(.tuple [.tuple bPl, .tuple []], true), (.tuple [.tuple (bPl ++ [.int 64]), .tuple []], false), (.tuple [.tuple bPl, .tuple (bR 200)], true), (.tuple [.tuple bPl, .tuple (bR 201)], false)]) (inj := fun q : D × Bool => q.1) (g := fun q => .bool q.2) (by simp) rfl (by simp)
    (by
      intro q hq
      simp only [List.mem_cons, List.not_mem_nil, or_false] at hq
      rcases hq with rfl | rfl | rfl | rfl <;> simp [i0, i1, i2, i3])]
  simp [q5, at4_2, j0, j1, j2, j3, hmany, q6, q7, q8, q4, ix3]
end K20
end SK20G6
section SK20G7
set_option Elab.async false
set_option linter.all false
set_option maxRecDepth 100000
namespace K20
open PySem EV
theorem fixL {d : D} : fix13 d = [.none, .int 0, .int 1, .bool true, .str ⟨#[]⟩, .str ⟨#[97]⟩, .str ⟨#[120]⟩, .tuple [], .list [], .dict [], .tuple [.list []], d, .tuple [d]] := rfl
theorem add13 {d : D} {os : List D} (h : os.length ≤ 2) : psem .add [.list [.none, .int 0, .int 1, .bool true, .str ⟨#[]⟩, .str ⟨#[97]⟩, .str ⟨#[120]⟩, .tuple [], .list [], .dict [], .tuple [.list []], d, .tuple [d]], .list os] = some (.lst (fix13 d ++ os)) := by
  rw [← fixL]
  exact p_addL (fitn.mpr (by simp [fix13]; omega))
/-- the part for all kinds -/
theorem bent_int {l : Nat} (hl : 4 ≤ l) {v : Val} {os : List D} {c e : Nat} {i : Int} (hd : i.natAbs < 10 ^ 11) (hv : SpOk v) (ho : ∀ o ∈ os, Ok c e o) (hos : os.length ≤ 2) :
    ∃ (d' : D) (v' : Val), SpOk v' ∧ Ok (2 * (PyData.int i).weight + c + 100) ((PyData.int i).depth + e + 2) d' ∧ evL cls tbl l 16 [v, .dat (.int i), .dat (.list os)] = .ret (.dat d') [v'] := by
  obtain ⟨l, rfl, hl1⟩ := lev hl
  obtain ⟨C, hC⟩ : ∃ C, C = fix13 (.int i) ++ os := ⟨_, rfl⟩
  have h1 := add13 (d := .int i) hos
  rw [← hC] at h1
  obtain ⟨C2, hC2⟩ : ∃ C2, C2 = C ++ [.int (i + 1), .int (i - 1), .int (-i), .bool (i == 1), .str (tS i)] := ⟨_, rfl⟩
  have lC : C.length ≤ 15 := by rw [hC]; simp [fix13]; omega
  have h2 : psem .add [.list C, .list [.int (i + 1), .int (i - 1), .int (-i), .bool (i == 1), .str (tS i)]] = some (.lst C2) := by rw [hC2]; exact p_addL (fitn.mpr (by simp; omega))
  obtain ⟨d', v', hd', hv', e'⟩ := s_any (l := l) (by omega) hv (xs := C2) (by rw [hC2]; simp) (by rw [hC2]; simp; omega)
  have base : Ok (PyData.int i).weight (PyData.int i).depth (.int i) := ⟨by simp only [nice, decide_eq_true_eq]; omega, Nat.le_refl _, Nat.le_refl _⟩
  refine ⟨d', v', hv', ?_, ?_⟩
  · rw [hC2, hC] at hd'
    rcases List.mem_append.mp hd' with h | h
    · rcases List.mem_append.mp h with h | h
      · exact (fix_ok base _ h).mono (by omega) (by omega)
      · exact (ho _ h).mono (by omega) (by omega)
    · simp only [List.mem_cons, List.not_mem_nil, or_false] at h
      rcases h with rfl | rfl | rfl | rfl | rfl
      · exact okI (by omega) (by omega)
      · exact okI (by omega) (by omega)
      · exact okI (by omega) (by omega)
      · exact okB
      · have hlen : (tS i).length ≤ 13 := by
          show (Str.ofString (toString i)).length ≤ 13
          rw [ofString_length]
          exact int_text_length_le10 (k := 12) (by decide) (by omega)
        exact okS (strOk_ofString _) (by omega)
  · obtain ⟨m, hm⟩ := evL_step (cls := cls) (tbl := tbl) (l := l) (vs := [v, .dat (.int i), .dat (.list os)]) f__law_bent (f := 16) rfl rfl
    rw [hm]; clear hm
    simp [f__law_bent, tyB, mixE, mixD, h1, h2, p_tostrI (i := i) (by omega), e']
    exact finP_rt (outs1 rfl)
theorem bent_str {l : Nat} (hl : 4 ≤ l) {v : Val} {os : List D} {c e : Nat} {z : Str} (hd : PyData.strOk z = true) (hz : z.length ≤ 100000) (hv : SpOk v) (ho : ∀ o ∈ os, Ok c e o) (hos : os.length ≤ 2) :
    ∃ (d' : D) (v' : Val), SpOk v' ∧ Ok (2 * (PyData.str z).weight + c + 100) ((PyData.str z).depth + e + 2) d' ∧ evL cls tbl l 16 [v, .dat (.str z), .dat (.list os)] = .ret (.dat d') [v'] := by
  obtain ⟨l, rfl, hl1⟩ := lev hl
  obtain ⟨C, hC⟩ : ∃ C, C = fix13 (.str z) ++ os := ⟨_, rfl⟩
  have h1 := add13 (d := .str z) hos
  rw [← hC] at h1
  obtain ⟨C2, hC2⟩ : ∃ C2, C2 = C ++ [.str (z ++ ⟨#[97]⟩), .str (z ++ ⟨#[64,48]⟩), .str (L2.cutS z (some 1) none), .str (z ++ ⟨#[64,48,49]⟩)] := ⟨_, rfl⟩
  have lC : C.length ≤ 15 := by rw [hC]; simp [fix13]; omega
  have h2 : psem .add [.list C, .list [.str (z ++ ⟨#[97]⟩), .str (z ++ ⟨#[64,48]⟩), .str (L2.cutS z (some 1) none), .str (z ++ ⟨#[64,48,49]⟩)]] = some (.lst C2) := by rw [hC2]; exact p_addL (fitn.mpr (by simp; omega))
  obtain ⟨d', v', hd', hv', e'⟩ := s_any (l := l) (by omega) hv (xs := C2) (by rw [hC2]; simp) (by rw [hC2]; simp; omega)
  have base : Ok (PyData.str z).weight (PyData.str z).depth (.str z) := ⟨hd, Nat.le_refl _, Nat.le_refl _⟩
  have wz : (PyData.str z).weight = z.length := rfl
  have a1 : psem .add [.str z, .str ⟨#[97]⟩] = some (.dat (.str (z ++ ⟨#[97]⟩))) := p_addS (fitn.mpr (by simp [Str.length] at hz ⊢; omega))
  have a2 : psem .add [.str z, .str ⟨#[64,48]⟩] = some (.dat (.str (z ++ ⟨#[64,48]⟩))) := p_addS (fitn.mpr (by simp [Str.length] at hz ⊢; omega))
  have a3 : psem .add [.str z, .str ⟨#[64,48,49]⟩] = some (.dat (.str (z ++ ⟨#[64,48,49]⟩))) := p_addS (fitn.mpr (by simp [Str.length] at hz ⊢; omega))
  have a4 : psem .slc [.str z, .int 1, .none] = some (.dat (.str (L2.cutS z (some 1) none))) := p_slcS rfl rfl (fitn.mpr (by omega))
  refine ⟨d', v', hv', ?_, ?_⟩
  · rw [hC2, hC] at hd'
    rcases List.mem_append.mp hd' with h | h
    · rcases List.mem_append.mp h with h | h
      · exact (fix_ok base _ h).mono (by omega) (by omega)
      · exact (ho _ h).mono (by omega) (by omega)
    · simp only [List.mem_cons, List.not_mem_nil, or_false] at h
      rcases h with rfl | rfl | rfl | rfl
      · exact okS (strOk_app hd (by decide +kernel)) (by rw [strLen_append, wz]; simp [Str.length]; omega)
      · exact okS (strOk_app hd (by decide +kernel)) (by rw [strLen_append, wz]; simp [Str.length]; omega)
      · refine okS ?_ (by rw [wz]; have := L2.cutS_length z (some 1) none; omega)
        rw [strOk_iff] at hd ⊢
        intro x hx
        exact hd x (List.mem_of_mem_drop (List.mem_of_mem_take (by simpa [L2.cutS] using hx)))
      · exact okS (strOk_app hd (by decide +kernel)) (by rw [strLen_append, wz]; simp [Str.length]; omega)
  · obtain ⟨m, hm⟩ := evL_step (cls := cls) (tbl := tbl) (l := l) (vs := [v, .dat (.str z), .dat (.list os)]) f__law_bent (f := 16) rfl rfl
    rw [hm]; clear hm
    simp [f__law_bent, tyB, mixE, mixD, h1, h2, a1, a2, a3, a4, e']
    exact finP_rt (outs1 rfl)
theorem extra_ok {w k : Nat} {xs : List D} (h : Ok w (k + 1) (.tuple xs)) : ∀ y ∈ [PyData.tuple (cutD xs (some 1) none), .tuple (cutD xs none (some (-1))), .tuple (xs ++ cutD xs (some (-1)) none), .tuple xs.reverse, .list xs, .tuple (xs ++ [.int 1])], Ok (2 * w + 60) (k + 1) y := by
  have hw : PyData.weightAll xs ≤ w := h.weight
  have hm : ∀ x ∈ xs, K20.nice (10 ^ 12) x = true ∧ x.depth ≤ k := fun x m => ⟨niceAll_iff.mp h.nice x m, by
    have h2 := h.depth
    have := depthAll_mem m
    simp only [PyData.depth] at h2
    omega⟩
  intro y hy
  simp only [List.mem_cons, List.not_mem_nil, or_false] at hy
  rcases hy with rfl | rfl | rfl | rfl | rfl | rfl
  · exact (mkT (fun x m => hm x (mem_cut m)) (by have := weight_cut xs (some 1) none; omega)).1
  · exact (mkT (fun x m => hm x (mem_cut m)) (by have := weight_cut xs none (some (-1)); omega)).1
  · refine (mkT (fun x m => ?_) ?_).1
    · rcases List.mem_append.mp m with m | m
      · exact hm x m
      · exact hm x (mem_cut m)
    · rw [weightAll_app]; have := weight_cut xs (some (-1)) none; omega
  · refine (mkT (fun x m => hm x (List.mem_reverse.mp m)) ?_).1
    rw [weightAll_perm (List.reverse_perm xs)]; omega
  · exact (mkT hm (by omega)).2
  · refine (mkT (fun x m => ?_) ?_).1
    · rcases List.mem_append.mp m with m | m
      · exact hm x m
      · cases List.mem_singleton.mp m
        exact ⟨by decide +kernel, by simp only [PyData.depth]; omega⟩
    · rw [weightAll_app]
      have : PyData.weightAll [PyData.int 1] ≤ 10 := by decide +kernel
      omega
theorem bent_tup {l : Nat} (hl : 4 ≤ l) {v : Val} {os : List D} {c e : Nat} {xs : List D} (hd : pureAll xs = true) (hw : PyData.weightAll xs ≤ 100000) (hv : SpOk v) (ho : ∀ o ∈ os, Ok c e o) (hos : os.length ≤ 2)
    (ih : ∀ (x : D) (v : Val), x ∈ xs → SpOk v → ∃ (d' : D) (v' : Val), SpOk v' ∧ Ok (2 * x.weight + c + 100) (x.depth + e + 2) d' ∧ evL cls tbl (l - 1) 16 [v, .dat x, .dat (.list os)] = .ret (.dat d') [v']) :
    ∃ (d' : D) (v' : Val), SpOk v' ∧ Ok (2 * (PyData.tuple xs).weight + c + 100) ((PyData.tuple xs).depth + e + 2) d' ∧ evL cls tbl l 16 [v, .dat (.tuple xs), .dat (.list os)] = .ret (.dat d') [v'] := by
  obtain ⟨l, rfl, hl1⟩ := lev hl
  obtain ⟨m, hm⟩ := evL_step (cls := cls) (tbl := tbl) (l := l) (vs := [v, .dat (.tuple xs), .dat (.list os)]) f__law_bent (f := 16) rfl rfl
  rw [hm]; clear hm
  have wt : (PyData.tuple xs).weight = PyData.weightAll xs := rfl
  have dt : (PyData.tuple xs).depth = PyData.depthAll xs + 1 := rfl
  have hlen := weightAll_len xs
  have hn : niceAll (10 ^ 12) xs = true := pureAll_nice xs hd
  have base : Ok (PyData.weightAll xs) (PyData.depthAll xs + 1) (.tuple xs) := ⟨hn, Nat.le_refl _, Nat.le_refl _⟩
  obtain ⟨C, hC⟩ : ∃ C, C = fix13 (.tuple xs) ++ os := ⟨_, rfl⟩
  have h1 := add13 (d := .tuple xs) hos
  rw [← hC] at h1
  have lC : C.length ≤ 15 := by rw [hC]; simp [fix13]; omega
  obtain ⟨C2, hC2⟩ : ∃ C2, C2 = C ++ [PyData.tuple (cutD xs (some 1) none), .tuple (cutD xs none (some (-1))), .tuple (xs ++ cutD xs (some (-1)) none), .tuple xs.reverse, .list xs, .tuple (xs ++ [.int 1])] := ⟨_, rfl⟩
  have h2 : psem .add [.list C, .list [.tuple (cutD xs (some 1) none), .tuple (cutD xs none (some (-1))), .tuple (xs ++ cutD xs (some (-1)) none), .tuple xs.reverse, .list xs, .tuple (xs ++ [.int 1])]] = some (.lst C2) := by rw [hC2]; exact p_addL (fitn.mpr (by simp; omega))
  have a1 : psem .add [.tuple xs, .tuple (cutD xs (some (-1)) none)] = some (.dat (.tuple (xs ++ cutD xs (some (-1)) none))) := p_addT (fitn.mpr (by have := len_cut xs (some (-1)) none; omega))
  have a2 : psem .add [.tuple xs, .tuple [.int 1]] = some (.dat (.tuple (xs ++ [.int 1]))) := p_addT (fitn.mpr (by simp; omega))
  have hin : ∀ d' ∈ C2, Ok (2 * (PyData.tuple xs).weight + c + 100) ((PyData.tuple xs).depth + e + 2) d' := by
    intro d' hd'
    rw [hC2, hC] at hd'
    rcases List.mem_append.mp hd' with h | h
    · rcases List.mem_append.mp h with h | h
      · exact (fix_ok base _ h).mono (by omega) (by omega)
      · exact (ho _ h).mono (by omega) (by omega)
    · exact (extra_ok base _ h).mono (by omega) (by omega)
  have fin : ∀ (v1 : Val), SpOk v1 → ∃ (d' : D) (v' : Val), SpOk v' ∧ Ok (2 * (PyData.tuple xs).weight + c + 100) ((PyData.tuple xs).depth + e + 2) d' ∧ evL cls tbl l 13 [v1, .dat (.list C2)] = .ret (.dat d') [v'] := by
    intro v1 hv1
    obtain ⟨d', v', hd', hv', e'⟩ := s_any (l := l) (by omega) hv1 (xs := C2) (by rw [hC2]; simp) (by rw [hC2]; simp; omega)
    exact ⟨d', v', hv', hin d' hd', e'⟩
  by_cases hx : xs = []
  · have he : xs.isEmpty = true := by rw [hx]; rfl
    obtain ⟨d', v', hv', ok', e'⟩ := fin v hv
    refine ⟨d', v', hv', ok', ?_⟩
    simp [f__law_bent, tyB, mixE, mixD, p_neNilT, he, h1, h2, a1, a2, p_revT, e']
    exact finP_rt (outs1 rfl)
  · have he : xs.isEmpty = false := by cases xs <;> simp_all
    obtain ⟨z, v1, hz, hzl, hv1, e1⟩ := s_under (l := l) (by omega) hv (n := 5) (by decide) sm5
    cases hz0 : decide (0 < z) with
    | false =>
      obtain ⟨d', v', hv', ok', e'⟩ := fin v1 hv1
      refine ⟨d', v', hv', ok', ?_⟩
      simp [f__law_bent, tyB, mixE, mixD, p_neNilT, he, h1, h2, a1, a2, p_revT, e', e1, hz0]
      exact finP_rt (outs1 rfl)
    | true =>
      have hp := List.length_pos_iff.mpr hx
      obtain ⟨k, v2, hk, hkl, hv2, e2⟩ := s_under (l := l) (by omega) hv1 (n := xs.length) (by omega) (small_lt (by omega) (by omega))
      obtain ⟨q, rfl⟩ := Int.eq_ofNat_of_zero_le hk
      have hq : q < xs.length := by omega
      have hat : L2.atI xs (q : Int) = some xs[q] := by
        unfold L2.atI L2.ixN
        rw [if_pos hk, if_pos hkl]
        simp
      obtain ⟨d', v', hv', ok', e'⟩ := ih xs[q] v2 (List.getElem_mem hq) hv2
      have b1 : psem .add [.tuple (xs.take q), .tuple [d']] = some (.dat (.tuple (xs.take q ++ [d']))) := p_addT (fitn.mpr (by simp; omega))
      have b2 : psem .add [.tuple (xs.take q ++ [d']), .tuple (xs.drop (q + 1))] = some (.dat (.tuple (xs.take q ++ [d'] ++ xs.drop (q + 1)))) := p_addT (fitn.mpr (by simp; omega))
      refine ⟨.tuple (xs.take q ++ [d'] ++ xs.drop (q + 1)), v', hv', ?_, ?_⟩
      · have hsp : xs = xs.take q ++ xs[q] :: xs.drop (q + 1) := by
          rw [← List.drop_eq_getElem_cons hq, List.take_append_drop]
        have hwx : PyData.weightAll xs = PyData.weightAll (xs.take q) + (xs[q].weight + 1 + PyData.weightAll (xs.drop (q + 1))) := by
          conv => lhs; rw [hsp]
          rw [weightAll_app, PyData.weightAll]
        have hdx := depthAll_mem (List.getElem_mem hq)
        have hmem : ∀ y ∈ xs, K20.nice (10 ^ 12) y = true ∧ y.depth ≤ PyData.depthAll xs + e + 2 := fun y m => ⟨niceAll_iff.mp hn y m, by have := depthAll_mem m; omega⟩
        refine ((mkT (w := 2 * (PyData.tuple xs).weight + c + 100) (k := PyData.depthAll xs + e + 2) (fun y m => ?_) ?_).1).mono (Nat.le_refl _) (by omega)
        · rcases List.mem_append.mp m with m | m
          · rcases List.mem_append.mp m with m | m
            · exact hmem y (List.mem_of_mem_take m)
            · cases List.mem_singleton.mp m
              exact ⟨ok'.nice, by have := ok'.depth; omega⟩
          · exact hmem y (List.mem_of_mem_drop m)
        · rw [weightAll_app, weightAll_app, PyData.weightAll, PyData.weightAll]
          have := ok'.weight
          omega
      · simp only [Nat.add_sub_cancel] at e'
        simp [f__law_bent, tyB, p_neNilT, he, e1, hz0, e2, hat, e', cutTo, cutFrom1, b1]
        rw [b2]
        simp
        exact finP_rt (outs1 rfl)
theorem s_bent : ∀ (n : Nat) (d : D) (l : Nat) (v : Val) (os : List D) (c e : Nat), pureD d = true → d.depth ≤ n → d.weight ≤ 100000 → n + 5 ≤ l → SpOk v → (∀ o ∈ os, Ok c e o) → os.length ≤ 2 →
    ∃ (d' : D) (v' : Val), SpOk v' ∧ Ok (2 * d.weight + c + 100) (d.depth + e + 2) d' ∧ evL cls tbl l 16 [v, .dat d, .dat (.list os)] = .ret (.dat d') [v'] := by
  intro n
  induction n with
  | zero =>
    intro d l v os c e hp hn hw hl hv ho hos
    cases d with
    | int i => exact bent_int (by omega) (by simpa [pureD] using hp) hv ho hos
    | str z => exact bent_str (by omega) hp hw hv ho hos
    | tuple xs => simp only [PyData.depth] at hn; omega
    | _ => cases hp
  | succ n ih =>
    intro d l v os c e hp hn hw hl hv ho hos
    cases d with
    | int i => exact bent_int (by omega) (by simpa [pureD] using hp) hv ho hos
    | str z => exact bent_str (by omega) hp hw hv ho hos
    | tuple xs =>
      simp only [PyData.depth] at hn
      refine bent_tup (by omega) hp hw hv ho hos fun x v m hv => ?_
      have h1 := depthAll_mem m
      have h2 := weightAll_mem m
      have h3 : PyData.weightAll xs ≤ 100000 := hw
      exact ih x (l - 1) v os c e (pureAll_iff.mp hp x m) (by omega) (by omega) (by omega) hv ho hos
    | _ => cases hp
end K20
end SK20G7
section SK20L8
set_option Elab.async false
set_option linter.all false
set_option maxRecDepth 100000
namespace K20
open PySem EV
theorem weightAll_le {xs : List D} {w : Nat} (h : ∀ x ∈ xs, x.weight ≤ w) : PyData.weightAll xs ≤ xs.length * (w + 1) := by
  induction xs with
  | nil => simp [PyData.weightAll]
  | cons x xs ih =>
    have h1 := h x List.mem_cons_self
    have h2 := ih fun y m => h y (List.mem_cons_of_mem _ m)
    rw [PyData.weightAll, List.length_cons, Nat.succ_mul]
    omega
theorem roadL_ok {r : D} (h : RoadL r) : pureD r = true ∧ Ok 140 1 r := by
  obtain ⟨s, i, j, n, rfl, hs, hi, hj, hn⟩ := h.form
  have hso := let_ok hs
  have wi := wInt (i := i) (by omega)
  have wj := wInt (i := j) (by omega)
  have wn := wInt (i := n) (by omega)
  have ws : (PyData.str s).weight = s.length := rfl
  have hp : pureD (.tuple [.str s, .int i, .int j, .int n]) = true := by
    simp only [pureD, pureAll, hso.1, Bool.true_and, Bool.and_true, Bool.and_eq_true, decide_eq_true_eq]
    omega
  refine ⟨hp, pure_nice _ hp, ?_, ?_⟩
  · show PyData.weightAll _ ≤ _
    simp only [PyData.weightAll, ws]; omega
  · simp [PyData.depth, PyData.depthAll]
theorem netL_ok {d : D} (h : NetL d) : ∃ (xs rs : List D), d = .tuple [.tuple xs, .tuple rs] ∧ pureD d = true ∧ Ok 3000 3 d ∧ Ok 3000 3 (.tuple xs) ∧ Ok 3000 3 (.tuple rs) ∧ rs.length ≤ 16 ∧ ∀ r ∈ rs, RoadL r := by
  obtain ⟨ps, rs, rfl, h1, h2, h3, h4⟩ := h.form
  have p1 : pureAll (ps.map PyData.int) = true := pureAll_iff.mpr fun x m => by
    obtain ⟨i, hi, rfl⟩ := List.mem_map.mp m
    have := h2 i hi
    simp only [pureD, decide_eq_true_eq]; omega
  have p2 : pureAll rs = true := pureAll_iff.mpr fun x m => (roadL_ok (h4 x m)).1
  have w1 : PyData.weightAll (ps.map PyData.int) ≤ 300 := by
    have := weightAll_le (xs := ps.map PyData.int) (w := 41) fun x m => by
      obtain ⟨i, hi, rfl⟩ := List.mem_map.mp m
      exact wInt (by have := h2 i hi; omega)
    rw [List.length_map] at this
    omega
  have w2 : PyData.weightAll rs ≤ 2400 := by
    have := weightAll_le (xs := rs) (w := 140) fun x m => (roadL_ok (h4 x m)).2.weight
    omega
  have d1 : PyData.depthAll (ps.map PyData.int) ≤ 0 := depthAll_le.mpr fun x m => by
    obtain ⟨i, hi, rfl⟩ := List.mem_map.mp m
    simp [PyData.depth]
  have d2 : PyData.depthAll rs ≤ 1 := depthAll_le.mpr fun x m => (roadL_ok (h4 x m)).2.depth
  have pd : pureD (.tuple [.tuple (ps.map PyData.int), .tuple rs]) = true := by simp only [pureD, pureAll, p1, p2, Bool.and_self]
  refine ⟨_, _, rfl, pd, ⟨pure_nice _ pd, ?_, ?_⟩, ⟨pureAll_nice _ p1, ?_, ?_⟩, ⟨pureAll_nice _ p2, ?_, ?_⟩, h3, h4⟩
  · simp only [PyData.weight, PyData.weightAll]; omega
  · simp only [PyData.depth, PyData.depthAll]; omega
  · simp only [PyData.weight]; omega
  · simp only [PyData.depth]; omega
  · simp only [PyData.weight]; omega
  · simp only [PyData.depth]; omega
theorem del_sub {x : D} : ∀ {xs ys : List D}, delD x xs = some ys → (∀ y ∈ ys, y ∈ xs) ∧ PyData.weightAll ys ≤ PyData.weightAll xs
  | [], _, h => by cases h
  | z :: xs, ys, h => by
    unfold delD at h
    split at h
    · cases h
      exact ⟨fun y m => List.mem_cons_of_mem _ m, by simp only [PyData.weightAll]; omega⟩
    · cases q : delD x xs with
      | none => rw [q] at h; cases h
      | some zs =>
        rw [q] at h; cases h
        obtain ⟨a, b⟩ := del_sub q
        refine ⟨fun y m => ?_, by simp only [PyData.weightAll]; omega⟩
        rcases List.mem_cons.mp m with m | m
        · rw [m]; exact List.mem_cons_self
        · exact List.mem_cons_of_mem _ (a y m)
theorem told_ok {b : Bool} {d r : D} (hd : Ok 20000 20 d) (hr : Ok 20000 20 r) : Ok 50000 30 (toldD b d r) := by
  cases hn : isNet d with
  | false => simp only [toldD, hn, Bool.false_eq_true, if_false]; exact ⟨by decide +kernel, by decide +kernel, by decide +kernel⟩
  | true =>
  obtain ⟨xs, rs, rfl, hp, hlen, hrs⟩ := net_form hn
  have kx := hd.tup (.tuple xs) (by simp)
  have kr := hd.tup (.tuple rs) (by simp)
  have hz : Ok 50000 30 (.str zRoad) := ⟨by decide +kernel, by decide +kernel, by decide +kernel⟩
  have pair : ∀ ys : List D, (∀ y ∈ ys, Ok 20000 20 y) → PyData.weightAll ys ≤ 40002 → PyData.weightAll xs ≤ 9000 → Ok 50000 30 (.tuple [.tuple xs, .tuple ys]) := by
    intro ys hy hw hx
    have h1 : niceAll (10 ^ 12) ys = true := niceAll_iff.mpr fun y m => (hy y m).nice
    have h2 : PyData.depthAll ys ≤ 20 := depthAll_le.mpr fun y m => (hy y m).depth
    have h3 := kx.depth
    have h4 : niceAll (10 ^ 12) xs = true := kx.nice
    refine ⟨by simp only [K20.nice, niceAll, h1, h4, Bool.and_self], ?_, ?_⟩
    · simp only [PyData.weight, PyData.weightAll]; omega
    · simp only [PyData.depth, PyData.depthAll] at h3 ⊢; omega
  have wx : PyData.weightAll xs ≤ 9000 := by
    have h64 : xs.length ≤ 64 := by
      simp only [isPlaces, Bool.and_eq_true, decide_eq_true_eq] at hp
      exact hp.1.1
    have := weightAll_le (xs := xs) (w := 41) fun x m => by
      obtain ⟨i, rfl, h0, h1⟩ := isNum_int (List.all_eq_true.mp (places_ints hp) x m)
      exact wInt (by omega)
    omega
  have wr : PyData.weightAll rs ≤ 20000 := kr.weight
  cases hx : isRoad (.tuple xs) r with
  | false => simp only [toldD, hn, hx]; exact hz
  | true =>
  cases b with
  | true =>
    by_cases h2 : rs.length = 200
    · simp only [toldD, hn, hx, h2, if_true]; exact ⟨by decide +kernel, by decide +kernel, by decide +kernel⟩
    · simp only [toldD, hn, hx, h2, if_true, if_false]
      refine pair _ (fun y m => ?_) ?_ wx
      · rcases List.mem_append.mp (sortD_perm.mem_iff.mp m) with m | m
        · exact kr.tup y m
        · cases List.mem_singleton.mp m; exact hr
      · rw [weightAll_perm sortD_perm, weightAll_app]
        have := hr.weight
        simp only [PyData.weightAll]; omega
  | false =>
    cases hi : isinD r rs with
    | false => simp only [toldD, hn, hx, hi, if_true, Bool.false_eq_true, if_false]; exact hz
    | true =>
      simp only [toldD, hn, hx, hi, if_true, Bool.false_eq_true, if_false]
      obtain ⟨q, h1, h2, h3⟩ := idx_in hi
      have hs := del_sub h3
      refine pair _ (fun y m => ?_) ?_ wx
      · rw [rest, h3] at m
        exact kr.tup y (hs.1 y m)
      · rw [rest, h3]
        have := hs.2
        simp only [Option.getD_some]; omega
def st8 : Sm := (.for_ (.nm 8) .val [(.tup [(.cst (.str ⟨#[119,105,116,104]⟩)), (.cst (.str ⟨#[119,105,116,104,111,117,116]⟩))])] [(.if_ (.not_ (.call 14 [(.call 21 [(.var 8), (.var 5), (.var 7)]), (.call 22 [(.var 8), (.var 5), (.var 7)])])) [(.ret (.cst (.bool false)))] [])])
def st7 : Sm := (.for_ (.nm 7) .val [(.var 6)] [st8])
def st6 : Sm := (.if_ (.pr .ne [(.pr .idx [(.pk 3), (.cst (.int 1))]), (.tup [])]) [(.set 6 (.pr .add [(.pk 6), (.lst [(.call 13 [(.mt 1), (.pr .idx [(.pk 3), (.cst (.int 1))])])])])), (.set 6 (.pr .add [(.pk 6), (.lst [(.call 16 [(.mt 1), (.call 13 [(.mt 1), (.pr .idx [(.pk 3), (.cst (.int 1))])]), (.lst [(.pr .pow [(.cst (.int 10)), (.cst (.int 6))]), (.pr .add [(.pr .pow [(.cst (.int 10)), (.cst (.int 6))]), (.cst (.int 1))])])])])]))] [])
def st5 : Sm := (.for_ (.nm 5) .val [(.var 4)] [(.if_ (.not_ (.call 14 [(.call 6 [(.var 5)]), (.call 20 [(.var 5)])])) [(.ret (.cst (.bool false)))] []), (.set 6 (.lst [(.tup [(.cst (.str ⟨#[97]⟩)), (.cst (.int 0)), (.cst (.int 0)), (.cst (.int 1))]), (.tup [(.cst (.str ⟨#[97]⟩)), (.cst (.int 0)), (.cst (.int 0))]), (.cst (.int 0)), (.lst [(.cst (.str ⟨#[97]⟩)), (.cst (.int 0)), (.cst (.int 0)), (.cst (.int 1))])])), st6, st7])
def exLc : Ex := (.lc (.call 16 [(.mt 1), (.var 3), (.lst [(.pr .idx [(.pk 3), (.cst (.int 0))]), (.pr .idx [(.pk 3), (.cst (.int 1))])])]) (.nm 9) .range [(.cst (.int 12))] [] [9])
def st2 : Sm := (.for_ (.nm 2) .range [(.cst (.int 8))] [(.set 3 (.call 15 [(.mt 1), (.cst (.int 5)), (.cst (.int 8)), (.lst [(.cst (.str ⟨#[97]⟩)), (.cst (.str ⟨#[98]⟩)), (.cst (.str ⟨#[97,98,99,100,101,102,103,104,64,57,57,57,57]⟩)), (.cst (.str ⟨#[122,64,48]⟩)), (.cst (.str ⟨#[97,64,50]⟩)), (.cst (.str ⟨#[97,64,49,48]⟩))])])), (.set 4 (.lst [(.var 3), (.cst .none), (.tup []), (.lst []), (.dct [] []), (.cst (.int 0)), (.tup [(.tup []), (.tup [])]), (.tup [(.tup [(.cst (.int 0))]), (.tup [])]), (.tup [(.lst [(.cst (.int 0))]), (.tup [])]), (.tup [(.tup [(.cst (.int 0)), (.cst (.int 0))]), (.tup [])]), (.tup [(.tup [(.cst (.int 1)), (.cst (.int 0))]), (.tup [])])])), (.set 4 (.pr .add [(.pk 4), exLc])), st5])
theorem body_eq : f_law.body = [(.set 1 (.call 11 [(.var 0)])), (.if_ (.not_ (.call 23 [])) [(.ret (.cst (.bool false)))] []), st2, (.ret (.cst (.bool true)))] := rfl
theorem in8 {l q : Nat} (hl : 8 ≤ l) {t r : D} (ht : Ok 20000 20 t) (hr : Ok 20000 20 r) (s0 s1 s2 s3 s4 s6 s8 s9 : Option Val) :
    ∃ w8, stepS cls (evF cls (evL cls tbl l) (q + 10)) st8 [s0, s1, s2, s3, s4, some (.dat t), s6, some (.dat r), s8, s9] = .ok .nx [s0, s1, s2, s3, s4, some (.dat t), s6, some (.dat r), w8, s9] := by
  obtain ⟨ρ', e, w8, rfl⟩ := q_s_for (cls := cls) (r := evF cls (evL cls tbl l) (q + 10)) (t := .nm 8) (kd := .val) (as := [(.tup [(.cst (.str ⟨#[119,105,116,104]⟩)), (.cst (.str ⟨#[119,105,116,104,111,117,116]⟩))])]) (body := [(.if_ (.not_ (.call 14 [(.call 21 [(.var 8), (.var 5), (.var 7)]), (.call 22 [(.var 8), (.var 5), (.var 7)])])) [(.ret (.cst (.bool false)))] [])])
    (ρ0 := [s0, s1, s2, s3, s4, some (.dat t), s6, some (.dat r), s8, s9]) (ρ := [s0, s1, s2, s3, s4, some (.dat t), s6, some (.dat r), s8, s9])
    (xs := [.str (zWay true), .str (zWay false)])
    (P := fun _ ρ => ∃ w8, ρ = [s0, s1, s2, s3, s4, some (.dat t), s6, some (.dat r), w8, s9]) (by simp [zWay]) ⟨s8, rfl⟩
    (by
      rintro k x ρ hk hx ⟨w8, rfl⟩
      obtain ⟨b, rfl⟩ : ∃ b, x = .str (zWay b) := by
        simp only [List.mem_cons, List.not_mem_nil, or_false] at hx
        rcases hx with rfl | rfl <;> exact ⟨_, rfl⟩
      refine ⟨_, [s0, s1, s2, s3, s4, some (.dat t), s6, some (.dat r), some (.dat (.str (zWay b))), s9], rfl, ?_, _, rfl⟩
      simp [s_told (l := l) (by omega) b ht hr (by omega) (by omega), s_due (l := l) (by omega) b ht hr (by omega), s_alike (l := l) (by omega) (told_ok (b := b) ht hr) (by omega) (by omega)])
  exact ⟨w8, e⟩
theorem in7 {l q : Nat} (hl : 8 ≤ l) {t : D} {rs : List D} (ht : Ok 20000 20 t) (hr : ∀ r ∈ rs, Ok 20000 20 r) (s0 s1 s2 s3 s4 s7 s8 s9 : Option Val) :
    ∃ w7 w8, stepS cls (evF cls (evL cls tbl l) (q + 20)) st7 [s0, s1, s2, s3, s4, some (.dat t), some (.ol rs), s7, s8, s9] = .ok .nx [s0, s1, s2, s3, s4, some (.dat t), some (.dat (.list rs)), w7, w8, s9] := by
  obtain ⟨ρ', e, w7, w8, rfl⟩ := q_s_for (cls := cls) (r := evF cls (evL cls tbl l) (q + 20)) (t := .nm 7) (kd := .val) (as := [(.var 6)]) (body := [st8])
    (ρ0 := [s0, s1, s2, s3, s4, some (.dat t), some (.ol rs), s7, s8, s9]) (ρ := [s0, s1, s2, s3, s4, some (.dat t), some (.dat (.list rs)), s7, s8, s9])
    (xs := rs)
    (P := fun _ ρ => ∃ w7 w8, ρ = [s0, s1, s2, s3, s4, some (.dat t), some (.dat (.list rs)), w7, w8, s9]) (by simp) ⟨s7, s8, rfl⟩
    (by
      rintro k x ρ hk hx ⟨w7, w8, rfl⟩
      obtain ⟨u8, e8⟩ := in8 (q := q + 9) hl ht (hr x hx) s0 s1 s2 s3 s4 (some (.dat (.list rs))) w8 s9
      refine ⟨_, [s0, s1, s2, s3, s4, some (.dat t), some (.dat (.list rs)), some (.dat x), u8, s9], rfl, ?_, _, _, rfl⟩
      simp [e8])
  exact ⟨w7, w8, e⟩
end K20
end SK20L8
section SK20L9
set_option Elab.async false
set_option linter.all false
set_option maxRecDepth 100000
namespace K20
open PySem EV
@[simp] theorem frz_scr {ds : List D} : (Val.scr ds).frz = .scr ds := rfl
@[simp] theorem frzAt_scr {ρ : EV.Env} {i : Nat} {ds : List D} : frzAt ρ i (.scr ds) = ρ := rfl
def R4 : List D := [.tuple [.str ⟨#[97]⟩, .int 0, .int 0, .int 1], .tuple [.str ⟨#[97]⟩, .int 0, .int 0], .int 0, .list [.str ⟨#[97]⟩, .int 0, .int 0, .int 1]]
theorem R4_ok : ∀ r ∈ R4, Ok 20000 20 r := by
  intro r hr
  simp only [R4, List.mem_cons, List.not_mem_nil, or_false] at hr
  rcases hr with rfl | rfl | rfl | rfl <;> exact ⟨by decide +kernel, by decide +kernel, by decide +kernel⟩
theorem fix10 {d : D} (h : Ok 20000 20 d) : ∀ x ∈ [d, .none, .tuple [], .list [], .dict [], .int 0, .tuple [.tuple [], .tuple []], .tuple [.tuple [.int 0], .tuple []], .tuple [.list [.int 0], .tuple []], .tuple [.tuple [.int 0, .int 0], .tuple []], .tuple [.tuple [.int 1, .int 0], .tuple []]], Ok 20000 20 x := by
  intro x hx
  simp only [List.mem_cons, List.not_mem_nil, or_false] at hx
  rcases hx with hx | rfl | rfl | rfl | rfl | rfl | rfl | rfl | rfl | rfl | rfl
  · rw [hx]; exact h
  iterate 10 exact ⟨by decide +kernel, by decide +kernel, by decide +kernel⟩
/-- the roads' list -/
theorem in6 {l q : Nat} (hl : 20 ≤ l) {v : Val} (hv : SpOk v) {xs rs : List D} (hr : ∀ r ∈ rs, RoadL r) (hrl : rs.length ≤ 16) (s0 s2 s4 s5 s7 s8 s9 : Option Val) :
    ∃ (v' : Val) (ys : List D), SpOk v' ∧ (∀ y ∈ ys, Ok 20000 20 y) ∧ stepS cls (evF cls (evL cls tbl l) (q + 20)) st6 [s0, some v, s2, some (.dat (.tuple [.tuple xs, .tuple rs])), s4, s5, some (.ol R4), s7, s8, s9] = .ok .nx [s0, some v', s2, some (.dat (.tuple [.tuple xs, .tuple rs])), s4, s5, some (.ol ys), s7, s8, s9] := by
  by_cases hx : rs = []
  · have he : rs.isEmpty = true := by rw [hx]; rfl
    refine ⟨v, R4, hv, R4_ok, ?_⟩
    simp [st6, ix1, p_neNilT, he]
  · have he : rs.isEmpty = false := by cases rs <;> simp_all
    obtain ⟨d1, v1, hd1, hv1, e1⟩ := s_anyT (l := l) (by omega) hv hx (by omega)
    obtain ⟨d2, v2, hd2, hv2, e2⟩ := s_anyT (l := l) (by omega) hv1 hx (by omega)
    obtain ⟨p2, k2⟩ := roadL_ok (hr _ hd2)
    obtain ⟨d3, v3, hv3, k3, e3⟩ := s_bent 1 d2 l v2 [.int 1000000, .int 1000001] 41 0 p2 k2.depth (by have := k2.weight; omega) (by omega) hv2 (by
      intro o ho
      simp only [List.mem_cons, List.not_mem_nil, or_false] at ho
      rcases ho with rfl | rfl <;> exact okI (by decide) (by omega)) (by simp)
    obtain ⟨A, hA⟩ : ∃ A, A = R4 ++ [d1] := ⟨_, rfl⟩
    obtain ⟨B, hB⟩ : ∃ B, B = A ++ [d3] := ⟨_, rfl⟩
    have a1 : psem .add [.list R4, .list [d1]] = some (.lst A) := by rw [hA]; exact p_addL (fitn.mpr (by simp [R4]))
    have a2 : psem .add [.list A, .list [d3]] = some (.lst B) := by rw [hB]; exact p_addL (fitn.mpr (by rw [hA]; simp [R4]))
    refine ⟨v3, B, hv3, ?_, ?_⟩
    · intro y hy
      rw [hB, hA] at hy
      rcases List.mem_append.mp hy with hy | hy
      · rcases List.mem_append.mp hy with hy | hy
        · exact R4_ok y hy
        · cases List.mem_singleton.mp hy
          exact (roadL_ok (hr _ hd1)).2.mono (by omega) (by omega)
      · cases List.mem_singleton.mp hy
        exact k3.mono (by have := k2.weight; omega) (by have := k2.depth; omega)
    · simp [st6, ix1, p_neNilT, he, e1, e2, e3, a1, a2, p6]
theorem in5 {l q : Nat} (hl : 20 ≤ l) {v : Val} (hv : SpOk v) {xs rs ts : List D} (hr : ∀ r ∈ rs, RoadL r) (hrl : rs.length ≤ 16) (ht : ∀ t ∈ ts, Ok 20000 20 t) (s0 s2 s5 s6 s7 s8 s9 : Option Val) :
    ∃ (v' : Val) (w5 w6 w7 w8 : Option Val), SpOk v' ∧ stepS cls (evF cls (evL cls tbl l) (q + 40)) st5 [s0, some v, s2, some (.dat (.tuple [.tuple xs, .tuple rs])), some (.ol ts), s5, s6, s7, s8, s9] = .ok .nx [s0, some v', s2, some (.dat (.tuple [.tuple xs, .tuple rs])), some (.dat (.list ts)), w5, w6, w7, w8, s9] := by
  obtain ⟨ρ', e, v', w5, w6, w7, w8, hv', rfl⟩ := q_s_for (cls := cls) (r := evF cls (evL cls tbl l) (q + 40)) (t := .nm 5) (kd := .val) (as := [(.var 4)]) (body := [(.if_ (.not_ (.call 14 [(.call 6 [(.var 5)]), (.call 20 [(.var 5)])])) [(.ret (.cst (.bool false)))] []), (.set 6 (.lst [(.tup [(.cst (.str ⟨#[97]⟩)), (.cst (.int 0)), (.cst (.int 0)), (.cst (.int 1))]), (.tup [(.cst (.str ⟨#[97]⟩)), (.cst (.int 0)), (.cst (.int 0))]), (.cst (.int 0)), (.lst [(.cst (.str ⟨#[97]⟩)), (.cst (.int 0)), (.cst (.int 0)), (.cst (.int 1))])])), st6, st7])
    (ρ0 := [s0, some v, s2, some (.dat (.tuple [.tuple xs, .tuple rs])), some (.ol ts), s5, s6, s7, s8, s9])
    (ρ := [s0, some v, s2, some (.dat (.tuple [.tuple xs, .tuple rs])), some (.dat (.list ts)), s5, s6, s7, s8, s9])
    (xs := ts)
    (P := fun _ ρ => ∃ (v' : Val) (w5 w6 w7 w8 : Option Val), SpOk v' ∧ ρ = [s0, some v', s2, some (.dat (.tuple [.tuple xs, .tuple rs])), some (.dat (.list ts)), w5, w6, w7, w8, s9]) (by simp) ⟨v, s5, s6, s7, s8, hv, rfl⟩
    (by
      rintro k t ρ hk hx ⟨v, w5, w6, w7, w8, hv, rfl⟩
      have kt := ht t hx
      obtain ⟨v', ys, hv', hys, e6⟩ := in6 (q := q + 19) hl hv (xs := xs) hr hrl s0 s2 (some (.dat (.list ts))) (some (.dat t)) w7 w8 s9
      obtain ⟨u7, u8, e7⟩ := in7 (q := q + 19) (l := l) (by omega) kt hys s0 (some v') s2 (some (.dat (.tuple [.tuple xs, .tuple rs]))) (some (.dat (.list ts))) w7 w8 s9
      refine ⟨_, [s0, some v', s2, some (.dat (.tuple [.tuple xs, .tuple rs])), some (.dat (.list ts)), some (.dat t), some (.dat (.list ys)), u7, u8, s9], rfl, ?_, v', _, _, _, _, hv', rfl⟩
      simp only [R4] at e6
      simp [s_is_net (l := l) (by omega) kt (by omega), s_law_is_net (l := l) (by omega) kt (by omega), s_alike (l := l) (by omega) (okB (w := 1) (k := 1) (b := isNet t)) (by omega) (by omega), e6, e7])
  exact ⟨v', w5, w6, w7, w8, hv', e⟩
theorem in5' {l f : Nat} (hf : 40 ≤ f) (hl : 20 ≤ l) {v : Val} (hv : SpOk v) {xs rs ts : List D} (hr : ∀ r ∈ rs, RoadL r) (hrl : rs.length ≤ 16) (ht : ∀ t ∈ ts, Ok 20000 20 t) (s0 s2 s5 s6 s7 s8 s9 : Option Val) :
    ∃ (v' : Val) (w5 w6 w7 w8 : Option Val), SpOk v' ∧ stepS cls (evF cls (evL cls tbl l) f) st5 [s0, some v, s2, some (.dat (.tuple [.tuple xs, .tuple rs])), some (.ol ts), s5, s6, s7, s8, s9] = .ok .nx [s0, some v', s2, some (.dat (.tuple [.tuple xs, .tuple rs])), some (.dat (.list ts)), w5, w6, w7, w8, s9] := by
  obtain ⟨q, rfl⟩ : ∃ q, f = q + 40 := ⟨f - 40, by omega⟩
  exact in5 hl hv hr hrl ht s0 s2 s5 s6 s7 s8 s9
theorem plain0 {l : Nat} (hl20 : 20 ≤ l) (ns : List Int) (hn : ns.length ≤ 63) : evL cls tbl (l + 1) 24 [.scr (ns.map PyData.int)] = .ret (.dat (.bool true)) [] := by
  obtain ⟨m, hm⟩ := evL_step (cls := cls) (tbl := tbl) (l := l) (vs := [.scr (ns.map .int)]) f_law (f := 24) rfl rfl
  rw [hm, body_eq]; clear hm
  obtain ⟨v0, hv0, e0⟩ := s_spring (l := l) (by omega) ns hn
  have eb := s_bounds (l := l) (by omega)
  generalize hS : ns.map PyData.int = S at *
  obtain ⟨ρ', e, w, hw⟩ := q_s_for (cls := cls) (r := evF cls (evL cls tbl l) (m + 99)) (t := .nm 2) (kd := .range) (as := [(.cst (.int 8))]) (body := [(.set 3 (.call 15 [(.mt 1), (.cst (.int 5)), (.cst (.int 8)), (.lst [(.cst (.str ⟨#[97]⟩)), (.cst (.str ⟨#[98]⟩)), (.cst (.str ⟨#[97,98,99,100,101,102,103,104,64,57,57,57,57]⟩)), (.cst (.str ⟨#[122,64,48]⟩)), (.cst (.str ⟨#[97,64,50]⟩)), (.cst (.str ⟨#[97,64,49,48]⟩))])])), (.set 4 (.lst [(.var 3), (.cst .none), (.tup []), (.lst []), (.dct [] []), (.cst (.int 0)), (.tup [(.tup []), (.tup [])]), (.tup [(.tup [(.cst (.int 0))]), (.tup [])]), (.tup [(.lst [(.cst (.int 0))]), (.tup [])]), (.tup [(.tup [(.cst (.int 0)), (.cst (.int 0))]), (.tup [])]), (.tup [(.tup [(.cst (.int 1)), (.cst (.int 0))]), (.tup [])])])), (.set 4 (.pr .add [(.pk 4), exLc])), st5])
    (ρ0 := [some (.scr S), some v0, none, none, none, none, none, none, none, none])
    (ρ := [some (.scr S), some v0, none, none, none, none, none, none, none, none])
    (xs := rangeL 0 8)
    (P := fun _ ρ => ∃ (v : Val) (w2 w3 w4 w5 w6 w7 w8 w9 : Option Val), SpOk v ∧ ρ = [some (.scr S), some v, w2, w3, w4, w5, w6, w7, w8, w9])
    (by simp [q_it_range (n := 8) (by decide) (by decide)]) ⟨v0, none, none, none, none, none, none, none, none, hv0, rfl⟩
    (by
      rintro k x ρ hk hx ⟨v, w2, w3, w4, w5, w6, w7, w8, w9, hv, rfl⟩
      obtain ⟨d, v1, hd, hv1, e1⟩ := s_some_net (l := l) (by omega) hv
      obtain ⟨xs, rs, rfl, pd, kd, kx, kr, hrl, hrs⟩ := netL_ok hd
      have e1' : evL cls tbl l 15 [v, .dat (.int 5), .dat (.int 8), .dat (.list [.str ⟨#[97]⟩, .str ⟨#[98]⟩, .str ⟨#[97,98,99,100,101,102,103,104,64,57,57,57,57]⟩, .str ⟨#[122,64,48]⟩, .str ⟨#[97,64,50]⟩, .str ⟨#[97,64,49,48]⟩])] = .ret (.dat (.tuple [.tuple xs, .tuple rs])) [v1] := e1
      clear e1
      obtain ⟨T, hT⟩ : ∃ T : List D, T = [.tuple [.tuple xs, .tuple rs], .none, .tuple [], .list [], .dict [], .int 0, .tuple [.tuple [], .tuple []], .tuple [.tuple [.int 0], .tuple []], .tuple [.list [.int 0], .tuple []], .tuple [.tuple [.int 0, .int 0], .tuple []], .tuple [.tuple [.int 1, .int 0], .tuple []]] := ⟨_, rfl⟩
      have kT : ∀ t ∈ T, Ok 20000 20 t := by rw [hT]; exact fix10 (kd.mono (by omega) (by omega))
      obtain ⟨ys, ρ1, e2, hys, kys, v2, u9, hv2, rfl⟩ := lc_inv (cls := cls) (cl := evL cls tbl l) (r := evF cls (evL cls tbl l) (m + 96)) (e := (.call 16 [(.mt 1), (.var 3), (.lst [(.pr .idx [(.pk 3), (.cst (.int 0))]), (.pr .idx [(.pk 3), (.cst (.int 1))])])])) (i := 9) (kd := .range) (as := [(.cst (.int 12))])
        (ρ0 := [some (.scr S), some v1, some (.dat x), some (.dat (.tuple [.tuple xs, .tuple rs])), some (.ol T), w5, w6, w7, w8, w9])
        (ρ := [some (.scr S), some v1, some (.dat x), some (.dat (.tuple [.tuple xs, .tuple rs])), some (.ol T), w5, w6, w7, w8, w9])
        (xs := rangeL 0 12)
        (P := fun ρ => ∃ (v : Val) (u9 : Option Val), SpOk v ∧ ρ = [some (.scr S), some v, some (.dat x), some (.dat (.tuple [.tuple xs, .tuple rs])), some (.ol T), w5, w6, w7, w8, u9])
        (R := fun y => Ok 20000 20 y)
        (by simp [q_it_range (n := 12) (by decide) (by decide)]) (by decide +kernel) ⟨v1, w9, hv1, rfl⟩
        (by
          rintro y ρ hy ⟨v, u9, hv, rfl⟩
          obtain ⟨d', v', hv', k', e'⟩ := s_bent 3 (.tuple [.tuple xs, .tuple rs]) l v [.tuple xs, .tuple rs] 3000 3 pd kd.depth (by have := kd.weight; omega) (by omega) hv (by
            intro o ho
            simp only [List.mem_cons, List.not_mem_nil, or_false] at ho
            rcases ho with rfl | rfl
            · exact kx
            · exact kr) (by simp)
          refine ⟨.dat d', d', [some (.scr S), some v', some (.dat x), some (.dat (.tuple [.tuple xs, .tuple rs])), some (.ol T), w5, w6, w7, w8, some (.dat y)], ?_, rfl, k'.mono (by have := kd.weight; omega) (by have := kd.depth; omega), v', _, hv', rfl⟩
          simp [ix1, e'])
      obtain ⟨T2, hT2⟩ : ∃ T2, T2 = T ++ ys := ⟨_, rfl⟩
      have hl12 : (rangeL 0 12).length = 12 := by decide +kernel
      have a1 : psem .add [.list T, .list ys] = some (.lst T2) := by rw [hT2]; exact p_addL (fitn.mpr (by rw [hys, hl12, hT]; simp))
      have kT2 : ∀ t ∈ T2, Ok 20000 20 t := by
        intro t m
        rw [hT2] at m
        rcases List.mem_append.mp m with m | m
        · exact kT t m
        · exact kys t m
      obtain ⟨v3, u5, u6, u7, u8, hv3, e3⟩ := in5' (f := m + 98) (by omega) hl20 hv2 (xs := xs) hrs hrl kT2 (some (.scr S)) (some (.dat x)) w5 w6 w7 w8 w9
      refine ⟨_, [some (.scr S), some v3, some (.dat x), some (.dat (.tuple [.tuple xs, .tuple rs])), some (.dat (.list T2)), u5, u6, u7, u8, w9], rfl, ?_, v3, _, _, _, _, _, _, _, _, hv3, rfl⟩
      rw [hT] at a1 e2
      simp at e2
      simp [e1', mixE, mixD, exLc, e2, a1, e3])
  obtain ⟨w2, w3, w4, w5, w6, w7, w8, w9, hv, rfl⟩ := hw
  have e' : stepS cls (evF cls (evL cls tbl l) (m + 99)) st2 _ = _ := e
  have n1 : f_law.ns = 10 := rfl
  have n2 : f_law.np = 1 := rfl
  have n3 : f_law.io = [] := rfl
  have n4 : List.replicate 9 (none : Option Val) = [none, none, none, none, none, none, none, none, none] := rfl
  simp [e0, eb, e', n1, n2, n3, n4]
theorem plain (ns : List Int) (hn : ns.length ≤ 63) : evL cls tbl 60 24 [.scr (ns.map PyData.int)] = .ret (.dat (.bool true)) [] := plain0 (l := 59) (by omega) ns hn
end K20
end SK20L9
section SK20Fin
set_option Elab.async false
set_option linter.all false
set_option maxRecDepth 100000
set_option maxHeartbeats 0
open PySem PySem.W PySem.Calls PyProof.Rows
theorem K20.holds_of (h : ∀ ns : List Int, ns.length ≤ 63 → (∀ k ∈ ns, Builtin.Int.intBits k ≤ 1048576) → EV.evL K20.cls K20.tbl 60 24 [.scr (ns.map PyData.int)] = .ret (.dat (.bool true)) []) : PySem.Challenge.rw_toldroads_k20_nets.Holds := by
  w_on; o_law
  refine HandSHeadRun.head_any (r := OpenLaw.row PySem.Challenge.rw_toldroads_k20_nets) (q := view (OpenLaw.row PySem.Challenge.rw_toldroads_k20_nets).prog [40]) (H := K20.L.hook 6) (ob := K20.L.ob 6) (M := 6000) (loose := K20.loose) (d := HandSHeadRun.topDef (OpenLaw.row PySem.Challenge.rw_toldroads_k20_nets).prog 40) (kwd := []) (EV.LawX.ob_eq 6 K20.L)
    (by kernel_rfl) (fun s => by kernel_rfl) K20.run (by kernel_rfl) (by kernel_rfl) (by kernel_rfl) (by rfl) (by first | assumption | decide +kernel) (by decide +kernel) ⟨rfl, rfl, rfl, rfl, rfl, by decide +kernel⟩ ?hw ?hc
  case hw => w_witness2
  case hc => exact EV.walk_ev (n := 63) (lv := 60) (fl := 24) (fn := K20.f_law) rfl (by decide) (by kernel_rfl) ⟨rfl, by decide, by decide⟩ K20.ok rfl (by decide +kernel) rfl rfl rfl (by kernel_rfl) h
end SK20Fin
theorem PySem.Challenge.cw_toldroads_k20_nets_holds : PySem.Challenge.rw_toldroads_k20_nets.Holds := by
  exact K20.holds_of fun ns h _ => K20.plain ns h
