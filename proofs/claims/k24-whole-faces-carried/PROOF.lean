import PyProof.Rows.All
import Wide.All
import OpenK.AllK
import Wide.FinOn
import HandS.ForMost
import HandS.Conv
import HandS.More
import HandS.Walk
import HandS.Zip
import HandS.Rev
import HandS.IsInst
import HandS.Wide
import HandS.TupAny
import HandS.TupMul
import HandS.Deep
import HandS.Flow
import HandS.HeadHook1
import KE.GoesMore
import KE.GoesEnum
import HandS.Defaults
import HandS.Words
import HandS.Ends
import HandS.HeadEnd
import OpenK.KOps
import OpenK.KMeth
import KE.KOpsOwn
import HandS.OwnEq
import HandS.Property
import HandS.Gcd
import PyProof.InstNe
import KE.KFmtOwn
import HandS.Style
import HandS.HeadHook2
import HandS.Head0
import HandS.Head1
import HandS.Head2
import PyProof.SetNew
import PyProof.Rows.SetFrom
import HandS.Strs
import HandS.Text
import HandS.TupSets
import HandS.Dict
import PySem.Challenge.RW_whatcrosses_k24_whole_faces_carried
set_option Elab.async false
set_option linter.all false
set_option maxRecDepth 100000
set_option maxHeartbeats 4000000
section
namespace VM
abbrev Sg := List Nat
/-- a value: lists, tuples, dicts and instances that no longer change are trees; one that may change is a reference into the store -/
inductive PV where
  | non | bl (b : Bool) | int (i : Int) | str (s : Sg)
  | tup (xs : List PV) | lst (xs : List PV)
  | dct (ks vs : List PV)
  | dctT (ks vs : List PV)
  | obj (c : Nat) (ks : List Nat) (vs : List PV)
  | scr (is : List Int)
  | ref (i : Nat)
  | ty (n : Nat) | fn (f : Nat) | cls (c : Nat)
  deriving Inhabited
/-- an object of the store -/
inductive SO where
  | dead
  | lst (xs : List PV)
  | dct (ks vs : List PV)
  | dctT (ks vs : List PV)
  | ins (c : Nat) (ks : List Nat) (vs : List PV)
  deriving Inhabited
abbrev Store := List SO
abbrev SZ : Nat := 16777216
abbrev Env := List (Option PV)
abbrev KV := PV → Store → Prop
abbrev TE := Env → Store → KV → KV → Prop
abbrev TT := Env → Store → (Bool → Store → Prop) → KV → Prop
abbrev TA := Env → Store → (List PV → Store → Prop) → KV → Prop
structure Ends where
  nx : Env → Store → Prop
  rt : KV
  bk : Env → Store → Prop
  ct : Env → Store → Prop
  xk : KV
abbrev TS := Ends → Env → Store → Prop
abbrev TG := PV → Env → Store → (Env → Store → Prop) → Prop
abbrev CS := Nat → List PV → Store → KV → KV → Prop

mutual
/-- ==, of data -/
def eqv : PV → PV → Bool
  | .non, y => match y with | .non => true | _ => false
  | .bl a, y => match y with | .bl b => a == b | .int j => (if a then 1 else 0) == j | _ => false
  | .int i, y => match y with | .int j => i == j | .bl b => i == (if b then 1 else 0) | _ => false
  | .str a, y => match y with | .str b => a == b | _ => false
  | .tup xs, y => match y with | .tup ys => eqvL xs ys | _ => false
  | .lst xs, y => match y with | .lst ys => eqvL xs ys | _ => false
  | _, _ => false
def eqvL : List PV → List PV → Bool
  | [], ys => match ys with | [] => true | _ => false
  | x :: xs, ys => match ys with | y :: ys => eqv x y && eqvL xs ys | [] => false
end
mutual
/-- data alone, at most so deep -/
def isD : Nat → PV → Bool
  | _, .non => true
  | _, .bl _ => true
  | _, .int _ => true
  | _, .str _ => true
  | n, .tup xs => match n with | 0 => false | n + 1 => isDL n xs
  | n, .lst xs => match n with | 0 => false | n + 1 => isDL n xs
  | _, _ => false
def isDL : Nat → List PV → Bool
  | _, [] => true
  | n, x :: xs => isD n x && isDL n xs
end
/-- the items of a list, as it stands -/
def asL (st : Store) : PV → Option (List PV)
  | .lst xs => some xs
  | .ref i => match st[i]? with | some (.lst xs) => some xs | _ => none
  | _ => none
def signs (s : Sg) : List PV := s.map fun c => .str [c]
/-- what a for walks -/
def items (st : Store) : PV → Option (List PV)
  | .lst xs => some xs
  | .tup xs => some xs
  | .str s => some (signs s)
  | .dct ks _ => some ks
  | .dctT ks _ => some ks
  | .ref i => match st[i]? with | some (.lst xs) => some xs | some (.dct ks _) => some ks | some (.dctT ks _) => some ks | _ => none
  | _ => none
/-- a mutable thing stands as it stood -/
def stays (st0 : Store) : PV → Store → Prop
  | .ref i, st => st[i]? = st0[i]?
  | _, _ => True
/-- truth, of what has no own __bool__ -/
def truth (st : Store) : PV → Option Bool
  | .non => some false
  | .bl b => some b
  | .int i => some (decide (i ≠ 0))
  | .str s => some (!s.isEmpty)
  | .tup xs => some (!xs.isEmpty)
  | .lst xs => some (!xs.isEmpty)
  | .dct ks _ => some (!ks.isEmpty)
  | .dctT ks _ => some (!ks.isEmpty)
  | .ref i => match st[i]? with | some (.lst xs) => some (!xs.isEmpty) | some (.dct ks _) => some (!ks.isEmpty) | some (.dctT ks _) => some (!ks.isEmpty) | _ => none
  | _ => none
/-- an index of Python's into n items -/
def ix (n : Nat) (i : Int) : Option Nat := if 0 ≤ i then (if i < n then some i.toNat else none) else if -(n : Int) ≤ i then some (i + n).toNat else none

def MulOk (i j : Int) : Prop := i.natAbs.log2 + j.natAbs.log2 < 100000000
def DivOk (_i j : Int) : Prop := j ≠ 0
def PowOk (i j : Int) : Prop := 0 ≤ j ∧ j ≤ 1000000 ∧ i.natAbs < 2 ^ 64

inductive Op where | add | sub | mul | fdiv | mod | pow | band
  deriving DecidableEq
inductive Cm where | eq | ne | lt | le | gt | ge | isN | notN | isin | notin
  deriving DecidableEq
def opAdd (x y : PV) (st : Store) (k : KV) : Prop := match x, y with
  | .int i, .int j => k (.int (i + j)) st
  | .str a, .str b => a.length + b.length ≤ SZ ∧ k (.str (a ++ b)) st
  | .tup a, .tup b => a.length + b.length ≤ SZ ∧ k (.tup (a ++ b)) st
  | x, y => match asL st x, asL st y with
    | some a, some b => a.length + b.length ≤ SZ ∧ k (.lst (a ++ b)) st
    | _, _ => False
def opSub (x y : PV) (st : Store) (k : KV) : Prop := match x, y with
  | .int i, .int j => k (.int (i - j)) st
  | _, _ => False
def opMul (x y : PV) (st : Store) (k : KV) : Prop := match x, y with
  | .int i, .int j => MulOk i j ∧ k (.int (i * j)) st
  | .lst a, .int j => -(2 ^ 63) ≤ j ∧ j < 2 ^ 63 ∧ a.length * j.toNat ≤ SZ ∧ k (.lst (List.replicate j.toNat a).flatten) st
  | .tup a, .int j => a ≠ [] ∧ 2 ≤ j ∧ j ≤ 1000 ∧ a.length ≤ 1000 ∧ k (.tup (List.replicate j.toNat a).flatten) st
  | _, _ => False
def opFdiv (x y : PV) (st : Store) (k : KV) : Prop := match x, y with
  | .int i, .int j => DivOk i j ∧ k (.int (i.fdiv j)) st
  | _, _ => False
def opMod (x y : PV) (st : Store) (k : KV) : Prop := match x, y with
  | .int i, .int j => j ≠ 0 ∧ k (.int (i.fmod j)) st
  | _, _ => False
def opPow (x y : PV) (st : Store) (k : KV) : Prop := match x, y with
  | .int i, .int j => PowOk i j ∧ k (.int (i ^ j.toNat)) st
  | _, _ => False
def opBin : Op → PV → PV → Store → KV → Prop
  | .add => opAdd | .sub => opSub | .mul => opMul | .fdiv => opFdiv | .mod => opMod | .pow => opPow
  | .band => fun _ _ _ _ => False
/-- a sign in a text; a flat value in a list or tuple of such -/
def opIn (x y : PV) (st : Store) (k : Bool → Store → Prop) : Prop := match y with
  | .str s => match x with | .str [c] => k (decide (c ∈ s)) st | _ => False
  | .tup ys => isD 0 x = true ∧ isDL 0 ys = true ∧ k (ys.any fun y => eqv y x) st
  | y => match asL st y with
    | some ys => isD 0 x = true ∧ isDL 0 ys = true ∧ k (ys.any fun y => eqv y x) st
    | none => False
/-- a list of the store as a tree -/
def frz (st : Store) : PV → PV
  | .ref i => match st[i]? with | some (.lst xs) => .lst xs | _ => .ref i
  | x => x
def opEq (x y : PV) (st : Store) (k : Bool → Store → Prop) : Prop := isD 60 (frz st x) = true ∧ isD 60 (frz st y) = true ∧ k (eqv (frz st x) (frz st y)) st
def isNon : PV → Bool
  | .non => true
  | _ => false
def opCm (c : Cm) (x y : PV) (st : Store) (k : Bool → Store → Prop) : Prop := match c with
  | .eq => opEq x y st k
  | .ne => opEq x y st fun b st => k (!b) st
  | .lt => match x, y with | .int i, .int j => k (decide (i < j)) st | _, _ => False
  | .le => match x, y with | .int i, .int j => k (decide (i ≤ j)) st | _, _ => False
  | .gt => match x, y with | .int i, .int j => k (decide (j < i)) st | _, _ => False
  | .ge => match x, y with | .int i, .int j => k (decide (j ≤ i)) st | _, _ => False
  | .isN => isNon y = true ∧ k (isNon x) st
  | .notN => isNon y = true ∧ k (!isNon x) st
  | .isin => opIn x y st k
  | .notin => opIn x y st fun b st => k (!b) st

def eVar (i : Nat) : TE := fun ρ st k _ => match ρ[i]? with | some (some v) => k v st | _ => False
def eC (v : PV) : TE := fun _ st k _ => k v st
def eBin (o : Op) (a b : TE) : TE := fun ρ st k x => a ρ st (fun u st => b ρ st (fun v st => opBin o u v st k) x) x
def eNeg (a : TE) : TE := fun ρ st k x => a ρ st (fun u st => match u with | .int i => k (.int (-i)) st | _ => False) x
def eCmp (c : Cm) (a b : TE) : TE := fun ρ st k x => a ρ st (fun u st => b ρ st (fun v st => opCm c u v st fun r st => k (.bl r) st) x) x
/-- a <= b < c -/
def eChain (c d : Cm) (a b e : TE) : TE := fun ρ st k x => a ρ st (fun u st => b ρ st (fun v st => opCm c u v st fun r st => if r = true then e ρ st (fun w st => opCm d v w st fun r st => k (.bl r) st) x else k (.bl false) st) x) x
/-- an expression as a test -/
def tOf (a : TE) : TT := fun ρ st k x => a ρ st (fun u st => match truth st u with | some b => k b st | none => False) x
def tCmp (c : Cm) (a b : TE) : TT := fun ρ st k x => a ρ st (fun u st => b ρ st (fun v st => opCm c u v st k) x) x
def tChain (c d : Cm) (a b e : TE) : TT := fun ρ st k x => a ρ st (fun u st => b ρ st (fun v st => opCm c u v st fun r st => if r = true then e ρ st (fun w st => opCm d v w st k) x else k false st) x) x
def tAnd (a b : TT) : TT := fun ρ st k x => a ρ st (fun r st => if r = true then b ρ st k x else k false st) x
def tOr (a b : TT) : TT := fun ρ st k x => a ρ st (fun r st => if r = true then k true st else b ρ st k x) x
def tNot (a : TT) : TT := fun ρ st k x => a ρ st (fun r st => k (!r) st) x
/-- a test as a value (its parts are bools) -/
def eTest (a : TT) : TE := fun ρ st k x => a ρ st (fun r st => k (.bl r) st) x
/-- and, or as values -/
def eAnd (a b : TE) : TE := fun ρ st k x => a ρ st (fun u st => match truth st u with | some true => b ρ st k x | some false => k u st | none => False) x
def eOr (a b : TE) : TE := fun ρ st k x => a ρ st (fun u st => match truth st u with | some false => b ρ st k x | some true => k u st | none => False) x
def eNot (a : TE) : TE := fun ρ st k x => a ρ st (fun u st => match truth st u with | some b => k (.bl !b) st | none => False) x
def eIf (t : TT) (a b : TE) : TE := fun ρ st k x => t ρ st (fun r st => if r = true then a ρ st k x else b ρ st k x) x
/-- a test by a test -/
def tIf (t a b : TT) : TT := fun ρ st k x => t ρ st (fun r st => if r = true then a ρ st k x else b ρ st k x) x
def aNil : TA := fun _ st k _ => k [] st
def aCons (a : TE) (r : TA) : TA := fun ρ st k x => a ρ st (fun u st => r ρ st (fun us st => k (u :: us) st) x) x
/-- displays: a list that does not change, one that does, a tuple -/
def eLst (a : TA) : TE := fun ρ st k x => a ρ st (fun us st => us.length ≤ SZ ∧ k (.lst us) st) x
def eLstM (a : TA) : TE := fun ρ st k x => a ρ st (fun us st => us.length ≤ SZ ∧ k (.ref st.length) (st ++ [.lst us])) x
def eTup (a : TA) : TE := fun ρ st k x => a ρ st (fun us st => us.length ≤ SZ ∧ k (.tup us) st) x
/-- a call of a def -/
def eCall (cs : CS) (f : Nat) (a : TA) : TE := fun ρ st k x => a ρ st (fun us st => cs f us st k x) x
/-- s[i] -/
def getIx (u v : PV) (st : Store) (k : KV) : Prop := match v with
  | .int i => match u with
    | .tup xs => match ix xs.length i with | some n => (match xs[n]? with | some y => k y st | none => False) | none => False
    | .str s => match ix s.length i with | some n => (match s[n]? with | some c => k (.str [c]) st | none => False) | none => False
    | u => match asL st u with
      | some xs => match ix xs.length i with | some n => (match xs[n]? with | some y => k y st | none => False) | none => False
      | none => False
  | _ => False
def eIx (a b : TE) : TE := fun ρ st k x => a ρ st (fun u st => b ρ st (fun v st => getIx u v st k) x) x
/-- s[lo:hi] -/
def cutIx (n d : Nat) : Option Int → Nat
  | none => d
  | some v => if v < 0 then (v + (n : Int)).toNat else min v.toNat n
def slc {α : Type} (xs : List α) (lo hi : Option Int) : List α := (xs.drop (cutIx xs.length 0 lo)).take (cutIx xs.length xs.length hi - cutIx xs.length 0 lo)
def getSl (u : PV) (lo hi : Option Int) (st : Store) (k : KV) : Prop := match u with
  | .tup xs => k (.tup (slc xs lo hi)) st
  | .str s => k (.str (slc s lo hi)) st
  | .scr is => k (.lst (slc (is.map PV.int) lo hi)) st
  | u => match asL st u with
    | some xs => k (.lst (slc xs lo hi)) st
    | none => False
def eSl (a : TE) (lo hi : Option TE) : TE := fun ρ st k x => a ρ st (fun u st =>
  (match lo with | none => fun (k : Option Int → Store → Prop) => k none st | some e => fun k => e ρ st (fun v st => match v with | .int i => k (some i) st | _ => False) x) fun lo st =>
  (match hi with | none => fun (k : Option Int → Store → Prop) => k none st | some e => fun k => e ρ st (fun v st => match v with | .int i => k (some i) st | _ => False) x) fun hi st =>
  getSl u lo hi st k) x

def gName (i : Nat) : TG := fun v ρ st k => k (ρ.set i (some v)) st
def gEach : List TG → List PV → Env → Store → (Env → Store → Prop) → Prop
  | [], [], ρ, st, k => k ρ st
  | t :: ts, v :: vs, ρ, st, k => t v ρ st fun ρ st => gEach ts vs ρ st k
  | _, _, _, _, _ => False
def gTup (ts : List TG) : TG := fun v ρ st k => match v with | .tup xs => xs.length = ts.length ∧ gEach ts xs ρ st k | _ => False
/-- what a for walks: the items, and what must stay as it is -/
abbrev TI := Env → Store → (List PV → (Store → Prop) → Store → Prop) → KV → Prop
/-- a list, a tuple, a text -/
def isSeq (st : Store) : PV → Bool
  | .lst _ => true
  | .tup _ => true
  | .str _ => true
  | .ref i => match st[i]? with | some (.lst _) => true | _ => false
  | _ => false
def iE (a : TE) : TI := fun ρ st k x => a ρ st (fun u st => match items st u with | some xs => isSeq st u = true ∧ k xs (stays st u) st | none => False) x
def i62 (i : Int) : Prop := -(2 ^ 62) ≤ i ∧ i < 2 ^ 62
def iRange1 (a : TE) : TI := fun ρ st k x => a ρ st (fun u st => match u with | .int n => i62 n ∧ k ((List.range n.toNat).map fun (i : Nat) => .int (i : Int)) (fun _ => True) st | _ => False) x
def iRange2 (a b : TE) : TI := fun ρ st k x => a ρ st (fun u st => b ρ st (fun v st => match u, v with | .int m, .int n => i62 m ∧ i62 n ∧ k ((List.range (n - m).toNat).map fun (i : Nat) => .int (m + (i : Int))) (fun _ => True) st | _, _ => False) x) x
def sq (st : Store) : PV → Option (List PV)
  | .tup xs => some xs
  | u => asL st u
def iZip (a b : TE) : TI := fun ρ st k x => a ρ st (fun u st => b ρ st (fun v st => match sq st u, sq st v with
  | some xs, some ys => k (List.zipWith (fun x y => .tup [x, y]) xs ys) (fun st' => stays st u st' ∧ stays st v st') st | _, _ => False) x) x
def iRev (a : TE) : TI := fun ρ st k x => a ρ st (fun u st => match asL st u with | some xs => k xs.reverse (stays st u) st | none => False) x
/-- a list comprehension's turns -/
def wipe (ρ : Env) : List Nat → Env
  | [] => ρ
  | v :: vs => (wipe ρ vs).set v none
def compGo (g : TG) (t : TT) (e : TE) (own : List Nat) (stay : Store → Prop) : List PV → List PV → Env → Store → (List PV → Store → Prop) → Prop
  | [], acc, _, st, k => stay st ∧ k acc st
  | v :: r, acc, ρ, st, k => stay st ∧ g v ρ st fun ρ' st => t ρ' st (fun b st => if b = true then e ρ' st (fun y st => acc.length < SZ ∧ compGo g t e own stay r (acc ++ [y]) ρ st k) (fun _ _ => False) else compGo g t e own stay r acc ρ st k) (fun _ _ => False)
def eComp (i : TI) (g : TG) (t : TT) (e : TE) (own : List Nat) : TE := fun ρ st k x => i ρ st (fun xs stay st => compGo g t e own stay xs [] (wipe ρ own) st fun ys st => k (.lst ys) st) x
/-- the same, the list goes on to change -/
def eCompM (i : TI) (g : TG) (t : TT) (e : TE) (own : List Nat) : TE := fun ρ st k x => i ρ st (fun xs stay st => compGo g t e own stay xs [] (wipe ρ own) st fun ys st => k (.ref st.length) (st ++ [.lst ys])) x
def tYes : TT := fun _ st k _ => k true st

def sNil : TS := fun D ρ st => D.nx ρ st
def sCons (a b : TS) : TS := fun D ρ st => a { D with nx := b D } ρ st
def sSet (g : TG) (e : TE) : TS := fun D ρ st => e ρ st (fun v st => g v ρ st D.nx) D.xk
/-- a, b = x, y over plain names -/
def sPar (is : List Nat) (a : TA) : TS := fun D ρ st => a ρ st (fun vs st => gEach (is.map gName) vs ρ st D.nx) D.xk
/-- xs[i] = e, a list of the store -/
def setIx (u v w : PV) (st : Store) (k : Store → Prop) : Prop := match u, v with
  | .ref r, .int i => match st[r]? with
    | some (.lst xs) => match ix xs.length i with | some n => k (st.set r (.lst (xs.set n w))) | none => False
    | _ => False
  | _, _ => False
def sSetIx (a b e : TE) : TS := fun D ρ st => e ρ st (fun w st => a ρ st (fun u st => b ρ st (fun v st => setIx u v w st fun st => D.nx ρ st) D.xk) D.xk) D.xk
def sExpr (e : TE) : TS := fun D ρ st => e ρ st (fun _ st => D.nx ρ st) D.xk
def sRet (e : TE) : TS := fun D ρ st => e ρ st D.rt D.xk
def sRetN : TS := fun D _ st => D.rt .non st
def sIf (t : TT) (a b : TS) : TS := fun D ρ st => t ρ st (fun r st => if r = true then a D ρ st else b D ρ st) D.xk
def sBreak : TS := fun D ρ st => D.bk ρ st
def sCont : TS := fun D ρ st => D.ct ρ st
def sNever : TS := fun _ _ _ => False
def forGo (g : TG) (b : TS) (stay : Store → Prop) : List PV → Ends → Env → Store → Prop
  | [], D, ρ, st => stay st ∧ D.nx ρ st
  | v :: r, D, ρ, st => stay st ∧ g v ρ st fun ρ st => b { D with nx := forGo g b stay r D, ct := forGo g b stay r D, bk := D.nx } ρ st
def sFor (i : TI) (g : TG) (b : TS) : TS := fun D ρ st => i ρ st (fun xs stay st => forGo g b stay xs D ρ st) D.xk
def whileGo (t : TT) (b : TS) : Nat → Ends → Env → Store → Prop
  | 0, _, _, _ => False
  | n + 1, D, ρ, st => t ρ st (fun r st => if r = true then b { D with nx := whileGo t b n D, ct := whileGo t b n D, bk := D.nx } ρ st else D.nx ρ st) D.xk
def sWhile (t : TT) (b : TS) : TS := fun D ρ st => ∃ n, whileGo t b n D ρ st
/-- xs.append(e), xs.insert(i, e), xs.pop() -/
def eAppend (a e : TE) : TE := fun ρ st k x => a ρ st (fun u st => (asL st u).isSome = true ∧ e ρ st (fun v st => match u with
  | .ref r => (match st[r]? with | some (.lst xs) => xs.length < SZ ∧ k .non (st.set r (.lst (xs ++ [v]))) | _ => False)
  | _ => False) x) x
def eInsert (a i e : TE) : TE := fun ρ st k x => a ρ st (fun u st => (asL st u).isSome = true ∧ i ρ st (fun w st => e ρ st (fun v st => match u, w with
  | .ref r, .int n => (match st[r]? with | some (.lst xs) => 0 ≤ n ∧ n < 2 ^ 62 ∧ xs.length < SZ ∧ k .non (st.set r (.lst (xs.take n.toNat ++ [v] ++ xs.drop n.toNat))) | _ => False)
  | _, _ => False) x) x) x

def bLen (u : PV) (st : Store) : Option Nat := match u with
  | .tup xs => some xs.length
  | .str s => some s.length
  | .dct ks _ => some ks.length
  | .dctT ks _ => some ks.length
  | u => match asL st u with
    | some xs => some xs.length
    | none => match u with
      | .ref i => match st[i]? with | some (.dct ks _) => some ks.length | some (.dctT ks _) => some ks.length | _ => none
      | _ => none
/-- f(e), f a built-in of one argument -/
def eB1 (f : PV → Store → KV → Prop) (a : TE) : TE := fun ρ st k x => a ρ st (fun u st => f u st k) x
def fLen (u : PV) (st : Store) (k : KV) : Prop := match bLen u st with | some n => k (.int n) st | none => False
def fAbs (u : PV) (st : Store) (k : KV) : Prop := match u with | .int i => k (.int i.natAbs) st | _ => False
def fInt (u : PV) (st : Store) (k : KV) : Prop := match u with | .int i => k (.int i) st | .bl b => k (.int (if b then 1 else 0)) st | _ => False
def seqOf (st : Store) : PV → Option (List PV)
  | .tup xs => some xs
  | u => asL st u
def fList (u : PV) (st : Store) (k : KV) : Prop := match seqOf st u with | some xs => k (.lst xs) st | none => False
def fListM (u : PV) (st : Store) (k : KV) : Prop := match seqOf st u with | some xs => k (.ref st.length) (st ++ [.lst xs]) | none => False
def fTuple (u : PV) (st : Store) (k : KV) : Prop := match seqOf st u with | some xs => k (.tup xs) st | none => False
def allInt : List PV → Option (List Int)
  | [] => some []
  | .int i :: r => (allInt r).map (i :: ·)
  | _ :: _ => none
def fSum (u : PV) (st : Store) (k : KV) : Prop := match asL st u with | some xs => (match allInt xs with | some is => k (.int is.sum) st | none => False) | none => False
def allBl : List PV → Option (List Bool)
  | [] => some []
  | .bl b :: r => (allBl r).map (b :: ·)
  | _ :: _ => none
def fAll (u : PV) (st : Store) (k : KV) : Prop := match asL st u with | some xs => (match allBl xs with | some bs => k (.bl (bs.all id)) st | none => False) | none => False
def fAny (u : PV) (st : Store) (k : KV) : Prop := match asL st u with | some xs => (match allBl xs with | some bs => k (.bl (bs.any id)) st | none => False) | none => False
/-- max(a, b) of whole numbers -/
def eMax2 (a b : TE) : TE := fun ρ st k x => a ρ st (fun u st => b ρ st (fun v st => match u, v with | .int i, .int j => k (.int (if j > i then j else i)) st | _, _ => False) x) x
/-- the kinds of isinstance -/
inductive Ty where | int | bool | str | list | tuple | dict
  deriving DecidableEq
/-- the kind of a value -/
inductive Kd where | non | bool | int | str | list | tuple | dict | other
  deriving DecidableEq
def kdOf (st : Store) : PV → Kd
  | .non => .non
  | .bl _ => .bool
  | .int _ => .int
  | .str _ => .str
  | .tup _ => .tuple
  | .lst _ => .list
  | .dct _ _ => .dict
  | .dctT _ _ => .dict
  | .ref i => match st[i]? with | some (.lst _) => .list | some (.dct _ _) => .dict | some (.dctT _ _) => .dict | _ => .other
  | _ => .other
def kdIs : Kd → Ty → Bool
  | .bool, .bool => true
  | .bool, .int => true
  | .int, .int => true
  | .str, .str => true
  | .list, .list => true
  | .tuple, .tuple => true
  | .dict, .dict => true
  | _, _ => false
def fIsi (ts : List Ty) (u : PV) (st : Store) (k : KV) : Prop := kdOf st u ≠ .other ∧ k (.bl (ts.any (kdIs (kdOf st u)))) st

structure FD where
  np : Nat
  ns : Nat
  body : CS → TS
def start (F : FD) (vs : List PV) : Env := vs.map some ++ List.replicate (F.ns - F.np) none
/-- a call of a def, at most so deep -/
def callN (FT : Nat → Option FD) : Nat → CS
  | 0 => fun _ _ _ _ _ => False
  | n + 1 => fun f vs st k x => match FT f with
    | some F => vs.length = F.np ∧ F.body (callN FT n) { nx := fun _ st => k .non st, rt := k, bk := fun _ _ => False, ct := fun _ _ => False, xk := x } (start F vs) st
    | none => False
/-- the class of an instance -/
def clsOf (st : Store) : PV → Option Nat
  | .obj c _ _ => some c
  | .ref i => match st[i]? with | some (.ins c _ _) => some c | _ => none
  | _ => none
def fget : List Nat → List PV → Nat → Option PV
  | k :: ks, v :: vs, n => if k = n then some v else fget ks vs n
  | _, _, _ => none
def fkeys : List Nat → Nat → List Nat
  | [], n => [n]
  | k :: ks, n => if k = n then k :: ks else k :: fkeys ks n
def fvals : List Nat → List PV → Nat → PV → List PV
  | k :: ks, v :: vs, n, x => if k = n then x :: vs else v :: fvals ks vs n x
  | _, _, _, x => [x]
/-- an attribute, as it stands -/
def fldOf (st : Store) (u : PV) (n : Nat) : Option PV := match u with
  | .obj _ ks vs => fget ks vs n
  | .ref i => match st[i]? with | some (.ins _ ks vs) => fget ks vs n | _ => none
  | _ => none
/-- class by class: the number of the def -/
abbrev Tab := List (Nat × Nat)
def tget : Tab → Nat → Option Nat
  | [], _ => none
  | (c, f) :: t, n => if c = n then some f else tget t n
/-- o.f: a property, or an attribute -/
def fldRun (cs : CS) (pt : Tab) (ft : List Nat) (n : Nat) (u : PV) (st : Store) (k : KV) (x : KV) : Prop := match clsOf st u with
  | some c => match tget pt c with
    | some f => cs f [u] st k x
    | none => ft.contains c = true ∧ match fldOf st u n with | some v => k v st | none => False
  | none => False
def eFld (cs : CS) (pt : Tab) (ft : List Nat) (n : Nat) (a : TE) : TE := fun ρ st k x => a ρ st (fun u st => fldRun cs pt ft n u st k x) x
/-- o.m(..) -/
def eMeth (cs : CS) (mt : Tab) (n : Nat) (a : TE) (t : TA) : TE := fun ρ st k x => a ρ st (fun u st => match clsOf st u with
  | some c => match tget mt c with
    | some f => fldOf st u n = none ∧ t ρ st (fun us st => cs f (u :: us) st k x) x
    | none => False
  | none => False) x
/-- C(..): the new instance goes on to change, or is frozen -/
def eNewM (cs : CS) (c f : Nat) (t : TA) : TE := fun ρ st k x => t ρ st (fun us st => cs f (.ref st.length :: us) (st ++ [.ins c [] []]) (fun v st' => isNon v = true ∧ k (.ref st.length) st') x) x
def eNew (cs : CS) (c f : Nat) (t : TA) : TE := fun ρ st k x => t ρ st (fun us st => cs f (.ref st.length :: us) (st ++ [.ins c [] []]) (fun v st' => isNon v = true ∧ match st'[st.length]? with
  | some (.ins c' ks vs) => k (.obj c' ks vs) (st'.set st.length .dead)
  | _ => False) x) x
/-- values that stand behind the given ones: defaults -/
def aDfl (t : TA) (ds : List PV) : TA := fun ρ st k x => t ρ st (fun us st => k (us ++ ds) st) x
/-- self.f = e -/
def sSetFld (ft : List Nat) (n : Nat) (a e : TE) : TS := fun D ρ st => e ρ st (fun y st => a ρ st (fun u st => match u with
  | .ref i => match st[i]? with
    | some (.ins c ks vs) => ft.contains c = true ∧ ks.length < 500 ∧ D.nx ρ (st.set i (.ins c (fkeys ks n) (fvals ks vs n y)))
    | _ => False
  | _ => False) D.xk) D.xk
/-- own operators: lt by the class on the left, rt (reflected) by the class on the right of an int -/
def opOwn (cs : CS) (lt rt : Tab) (o : Op) (u v : PV) (st : Store) (k : KV) (x : KV) : Prop := match clsOf st u with
  | some c => match tget lt c with
    | some f => match v with
      | .int _ => cs f [u, v] st k x
      | v => match clsOf st v with
        | some c' => c' = c ∧ cs f [u, v] st k x
        | none => False
    | none => False
  | none => match clsOf st v with
    | some c => match tget rt c, u with
      | some f, .int _ => cs f [v, u] st k x
      | _, _ => False
    | none => opBin o u v st k
def eBinO (cs : CS) (lt rt : Tab) (o : Op) (a b : TE) : TE := fun ρ st k x => a ρ st (fun u st => b ρ st (fun v st => opOwn cs lt rt o u v st k x) x) x
def eNegO (cs : CS) (nt : Tab) (a : TE) : TE := fun ρ st k x => a ρ st (fun u st => match clsOf st u with
  | some c => match tget nt c with | some f => cs f [u] st k x | none => False
  | none => match u with | .int i => k (.int (-i)) st | _ => False) x
/-- flat, not an own instance -/
def isFlat : PV → Bool
  | .non => true
  | .bl _ => true
  | .int _ => true
  | .str _ => true
  | _ => false
/-- == where the left side may be an own instance (its __eq__) -/
def opEqO (cs : CS) (et : Tab) (u v : PV) (st : Store) (k : Bool → Store → Prop) (x : KV) : Prop := match clsOf st u with
  | some c => match tget et c with
    | some f => (isFlat v = true ∨ clsOf st v = some c) ∧ cs f [u, v] st (fun r st => match r with | .bl b => k b st | _ => False) x
    | none => False
  | none => opEq u v st k
def opCmO (cs : CS) (et : Tab) (o : Cm) (u v : PV) (st : Store) (k : Bool → Store → Prop) (x : KV) : Prop := match o with
  | .eq => opEqO cs et u v st k x
  | .ne => opEqO cs et u v st (fun b st => k (!b) st) x
  | o => opCm o u v st k
def eCmpO (cs : CS) (et : Tab) (c : Cm) (a b : TE) : TE := fun ρ st k x => a ρ st (fun u st => b ρ st (fun v st => opCmO cs et c u v st (fun r st => k (.bl r) st) x) x) x
def tCmpO (cs : CS) (et : Tab) (c : Cm) (a b : TE) : TT := fun ρ st k x => a ρ st (fun u st => b ρ st (fun v st => opCmO cs et c u v st k x) x) x
/-- an expression as a test, own __bool__ and __len__ too -/
def truthO (cs : CS) (bt lt : Tab) (u : PV) (st : Store) (k : Bool → Store → Prop) (x : KV) : Prop := match clsOf st u with
  | some c => match tget bt c with
    | some f => cs f [u] st (fun r st => match r with | .bl b => k b st | _ => False) x
    | none => match tget lt c with
      | some f => cs f [u] st (fun r st => match r with | .int n => 0 ≤ n ∧ n < 2 ^ 62 ∧ k (decide (n ≠ 0)) st | _ => False) x
      | none => False
  | none => match truth st u with | some b => k b st | none => False
def tOfO (cs : CS) (bt lt : Tab) (a : TE) : TT := fun ρ st k x => a ρ st (fun u st => truthO cs bt lt u st k x) x
/-- isinstance with an own class: sup, the classes that are it or below it -/
def fIsiO (cl sup : List Nat) (u : PV) (st : Store) (k : KV) : Prop := match clsOf st u with
  | some c => cl.contains c = true ∧ k (.bl (sup.contains c)) st
  | none => kdOf st u ≠ .other ∧ k (.bl false) st
def fStr (u : PV) (st : Store) (k : KV) : Prop := match u with
  | .int i => i.natAbs.log2 < 1920 ∧ (toString i).length ≤ SZ ∧ k (.str ((toString i).toList.map Char.toNat)) st
  | _ => False
def eGcd (a b : TE) : TE := fun ρ st k x => a ρ st (fun u st => b ρ st (fun v st => match u, v with | .int i, .int j => k (.int (Int.gcd i j)) st | _, _ => False) x) x
end VM
end
section
namespace VS
open PySem PySem.Spec PyProof.Rows L2
open VM (PV SO Store)
abbrev VEnv := VM.Env

def cnL : List Str := ["Share", "Lot", "Net", "Post", "Answer", "Never", "Single", "Strided", "Ledger", "Desk", "System"]
def cn (c : Nat) : Str := cnL.getD c ""
/-- where the class of a number stands -/
def cA (K : PySem.W.Frag) (c : Nat) : Addr := He.ga K (cn c)
def anL0 : List Str := ["MOST_FACE", "MOST_HOUSES", "MOST_ROWS", "__init__", "__name__", "accept", "again", "age", "amounts", "anchor", "answer", "answer_letter", "answer_step", "append", "apply", "base", "book", "bottom", "busy", "change", "check_house", "clear", "code", "conclude", "dealing", "draft", "empty_way", "extended", "face", "failed"]
def anL1 : List Str := ["first", "free", "full", "gathered", "get", "give_back", "given", "heads", "history", "holds", "house", "houses", "index", "insert", "is_stale", "is_world", "items", "join", "joint", "label", "last", "last_taken", "last_written", "ledger", "letter_at", "line", "lines", "lose", "lot", "many"]
def anL2 : List Str := ["most", "name", "names", "near", "net", "of_rows", "onto", "over", "own_anchor", "own_bottom", "own_busy", "own_dealing", "own_done", "own_faces", "own_far", "own_houses", "own_ledger", "own_lines", "own_names", "own_net", "own_past", "own_post", "own_steps", "own_taken", "own_ties", "own_top", "own_undone", "own_way", "own_world", "own_written"]
def anL3 : List Str := ["partition", "pop", "post", "put", "put_on_way", "redo", "rest", "reverse", "say", "settle", "settled", "shared", "size", "solve", "split", "startswith", "steps", "stride", "strike", "take", "text", "ties", "told", "top", "tracks", "triples", "twin", "undo", "unknowns", "value"]
def anL4 : List Str := ["walk", "way", "weighed", "weights", "whole", "within", "world", "worlds", "worth", "write", "write_all"]
def anL : List Str := anL0 ++ anL1 ++ anL2 ++ anL3 ++ anL4
def an (n : Nat) : Str := match anL[n]? with
  | some s => s
  | none => ⟨Array.replicate (n + 1000) 0⟩
theorem an_nd : anL.Nodup := by decide +kernel
theorem an_short : ∀ s ∈ anL, s.cps.size < 1000 := by decide +kernel
theorem an_inj {n m : Nat} (h : an n = an m) : n = m := by
  unfold an at h
  cases e1 : anL[n]? with
  | some s =>
    rw [e1] at h
    obtain ⟨h1, h2⟩ := List.getElem?_eq_some_iff.mp e1
    cases e2 : anL[m]? with
    | some s' =>
      rw [e2] at h
      obtain ⟨h3, h4⟩ := List.getElem?_eq_some_iff.mp e2
      exact (List.getElem_inj an_nd).mp (h2.trans (h.trans h4.symm))
    | none =>
      rw [e2] at h
      have := an_short s (List.mem_of_getElem? e1)
      have e : s = ⟨Array.replicate (m + 1000) 0⟩ := h
      rw [e] at this
      simp at this
      omega
  | none =>
    rw [e1] at h
    cases e2 : anL[m]? with
    | some s' =>
      rw [e2] at h
      have := an_short s' (List.mem_of_getElem? e2)
      have e : s' = ⟨Array.replicate (n + 1000) 0⟩ := h.symm
      rw [e] at this
      simp at this
      omega
    | none =>
      rw [e2] at h
      have h : (⟨Array.replicate (n + 1000) 0⟩ : Str) = ⟨Array.replicate (m + 1000) 0⟩ := h
      injection h with h
      have := congrArg Array.size h
      simp at this
      omega
/-- the attributes of an instance, as the heap has them -/
def attrs (ks : List Nat) (vs : List V) : List (Str × V) := (ks.map an).zip vs
def kP : Key → PV
  | .inl i => .int i
  | .inr x => .str x.cps.toList
/-- a text that the machine bears -/
def sOk (s : List Nat) : Prop := s.length ≤ 16777216 ∧ ∀ c ∈ s, c < 1114112
mutual
def Rep (K : PySem.W.Frag) (F : Hp) (μ : List Addr) : PV → V → Prop
  | .non, v => v = .non
  | .bl b, v => v = .bl b
  | .int i, v => v = .int i
  | .str s, v => sOk s ∧ v = .str ⟨s.toArray⟩
  | .tup xs, v => ∃ a vs, v = .ref a ∧ SqT K F a vs ∧ RepL K F μ xs vs
  | .lst xs, v => ∃ a vs, v = .ref a ∧ F a = some (.lst vs) ∧ RepL K F μ xs vs
  | .scr is, v => ∃ a, v = .ref a ∧ SqL K F a (is.map V.int)
  | .dct ks xs, v => ∃ a kvs, v = .ref a ∧ F a = some (.dK kvs) ∧ ks = kvs.map (fun q => kP q.1) ∧ RepL K F μ xs (kvs.map (·.2))
  | .ref i, v => ∃ a, μ[i]? = some a ∧ v = .ref a
  | .obj c ks xs, v => ∃ a dx vs, v = .ref a ∧ F a = some (.ins (cA K c) dx (attrs ks vs)) ∧ ks.length = xs.length ∧ RepL K F μ xs vs
  | _, _ => False
def RepL (K : PySem.W.Frag) (F : Hp) (μ : List Addr) : List PV → List V → Prop
  | [], vs => vs = []
  | x :: xs, vs => ∃ v r, vs = v :: r ∧ Rep K F μ x v ∧ RepL K F μ xs r
end
/-- what a frozen thing keeps: itself; a dict may be locked while it is walked -/
def SameD (F H : Hp) : Prop := ∀ a o, F a = some o → H a = some o
structure Ext (F : Hp) (μ : List Addr) (F' : Hp) (μ' : List Addr) : Prop where
  same : SameD F F'
  pre : ∃ l, μ' = μ ++ l
section
variable {K : PySem.W.Frag} {F F' F2 : Hp} {μ μ' μ2 : List Addr}
theorem Ext.refl : Ext F μ F μ := ⟨fun _ _ h => h, [], by simp⟩
theorem Ext.trans (a : Ext F μ F' μ') (b : Ext F' μ' F2 μ2) : Ext F μ F2 μ2 := by
  obtain ⟨l, rfl⟩ := a.pre
  obtain ⟨m, rfl⟩ := b.pre
  exact ⟨fun c o h => b.same c o (a.same c o h), l ++ m, by simp⟩
theorem Ext.get (e : Ext F μ F' μ') {i : Nat} {a : Addr} (h : μ[i]? = some a) : μ'[i]? = some a := by
  obtain ⟨l, rfl⟩ := e.pre
  rw [List.getElem?_append_left (List.getElem?_eq_some_iff.mp h).1]
  exact h
theorem SameD.seqL {a : Addr} {xs : List V} (e : SameD F F') (h : SqL K F a xs) : SqL K F' a xs := by
  rcases h with (h | ⟨o, h⟩) | h
  · exact .inl (.inl (e _ _ h))
  · exact .inl (.inr ⟨o, e _ _ h⟩)
  · exact .inr h
theorem SameD.seqT {a : Addr} {xs : List V} (e : SameD F F') (h : SqT K F a xs) : SqT K F' a xs := by
  rcases h with (h | ⟨o, h⟩) | h
  · exact .inl (.inl (e _ _ h))
  · exact .inl (.inr ⟨o, e _ _ h⟩)
  · exact .inr h
mutual
theorem Rep.mono (e : Ext F μ F' μ') : ∀ {x : PV} {v : V}, Rep K F μ x v → Rep K F' μ' x v
  | .non, _, h => h
  | .bl _, _, h => h
  | .int _, _, h => h
  | .str _, _, h => h
  | .tup xs, _, h => by
    unfold Rep at h ⊢
    obtain ⟨a, vs, h1, h2, h3⟩ := h
    exact ⟨a, vs, h1, e.same.seqT h2, RepL.mono e h3⟩
  | .lst xs, _, h => by
    unfold Rep at h ⊢
    obtain ⟨a, vs, h1, h2, h3⟩ := h
    exact ⟨a, vs, h1, e.same _ _ h2, RepL.mono e h3⟩
  | .scr is, _, h => by
    unfold Rep at h ⊢
    obtain ⟨a, h1, h2⟩ := h
    exact ⟨a, h1, e.same.seqL h2⟩
  | .dct ks xs, _, h => by
    unfold Rep at h ⊢
    obtain ⟨a, kvs, h1, h2, h3, h4⟩ := h
    exact ⟨a, kvs, h1, e.same _ _ h2, h3, RepL.mono e h4⟩
  | .ref i, _, h => by
    unfold Rep at h ⊢
    obtain ⟨a, h1, h2⟩ := h
    exact ⟨a, e.get h1, h2⟩
  | .dctT _ _, _, h => by unfold Rep at h; exact h.elim
  | .obj c ks xs, _, h => by
    unfold Rep at h ⊢
    obtain ⟨a, dx, vs, h1, h2, h3, h4⟩ := h
    exact ⟨a, dx, vs, h1, e.same _ _ h2, h3, RepL.mono e h4⟩
  | .ty _, _, h => by unfold Rep at h; exact h.elim
  | .fn _, _, h => by unfold Rep at h; exact h.elim
  | .cls _, _, h => by unfold Rep at h; exact h.elim
theorem RepL.mono (e : Ext F μ F' μ') : ∀ {xs : List PV} {vs : List V}, RepL K F μ xs vs → RepL K F' μ' xs vs
  | [], _, h => by
    unfold RepL at h ⊢
    exact h
  | x :: xs, _, h => by
    unfold RepL at h ⊢
    obtain ⟨v, r, h1, h2, h3⟩ := h
    exact ⟨v, r, h1, Rep.mono e h2, RepL.mono e h3⟩
end
theorem repL_nil {vs : List V} : RepL K F μ [] vs ↔ vs = [] := by unfold RepL; exact Iff.rfl
theorem repL_cons {x : PV} {xs : List PV} {vs : List V} : RepL K F μ (x :: xs) vs ↔ ∃ v r, vs = v :: r ∧ Rep K F μ x v ∧ RepL K F μ xs r := by
  constructor
  · intro h
    unfold RepL at h
    exact h
  · intro h
    unfold RepL
    exact h
theorem RepL.length : ∀ {xs : List PV} {vs : List V}, RepL K F μ xs vs → vs.length = xs.length
  | [], _, h => by
    rw [repL_nil.mp h]
    rfl
  | x :: xs, _, h => by
    obtain ⟨v, r, rfl, _, h3⟩ := repL_cons.mp h
    simp [RepL.length h3]
theorem RepL.get : ∀ {xs : List PV} {vs : List V} {i : Nat} {x : PV}, RepL K F μ xs vs → xs[i]? = some x → ∃ v, vs[i]? = some v ∧ Rep K F μ x v
  | [], _, _, _, _, h => by simp at h
  | y :: xs, _, 0, x, h, e => by
    obtain ⟨v, r, rfl, h2, h3⟩ := repL_cons.mp h
    simp at e
    subst e
    exact ⟨v, by simp, h2⟩
  | y :: xs, _, i + 1, x, h, e => by
    obtain ⟨v, r, rfl, h2, h3⟩ := repL_cons.mp h
    obtain ⟨w, h4, h5⟩ := RepL.get (i := i) h3 (by simpa using e)
    exact ⟨w, by simpa using h4, h5⟩
theorem RepL.get' {xs : List PV} {vs : List V} {i : Nat} {v : V} (h : RepL K F μ xs vs) (e : vs[i]? = some v) : ∃ x, xs[i]? = some x ∧ Rep K F μ x v := by
  have hi : i < xs.length := by
    rw [← h.length]
    exact (List.getElem?_eq_some_iff.mp e).1
  have e2 : xs[i]? = some xs[i] := by simp [hi]
  obtain ⟨w, h1, h2⟩ := h.get e2
  rw [e] at h1
  cases h1
  exact ⟨_, e2, h2⟩
theorem RepL.append : ∀ {xs ys : List PV} {vs ws : List V}, RepL K F μ xs vs → RepL K F μ ys ws → RepL K F μ (xs ++ ys) (vs ++ ws)
  | [], ys, vs, ws, h, h' => by
    rw [repL_nil.mp h]
    exact h'
  | x :: xs, ys, vs, ws, h, h' => by
    obtain ⟨v, r, rfl, h2, h3⟩ := repL_cons.mp h
    exact repL_cons.mpr ⟨v, r ++ ws, rfl, h2, RepL.append h3 h'⟩
theorem RepL.take : ∀ {xs : List PV} {vs : List V} (n : Nat), RepL K F μ xs vs → RepL K F μ (xs.take n) (vs.take n)
  | _, _, 0, _ => by simp [RepL]
  | [], vs, n + 1, h => by
    rw [repL_nil.mp h]
    simp [RepL]
  | x :: xs, vs, n + 1, h => by
    obtain ⟨v, r, rfl, h2, h3⟩ := repL_cons.mp h
    exact repL_cons.mpr ⟨v, r.take n, rfl, h2, RepL.take n h3⟩
theorem RepL.drop : ∀ {xs : List PV} {vs : List V} (n : Nat), RepL K F μ xs vs → RepL K F μ (xs.drop n) (vs.drop n)
  | _, _, 0, h => by simpa using h
  | [], vs, n + 1, h => by
    rw [repL_nil.mp h]
    simp [RepL]
  | x :: xs, vs, n + 1, h => by
    obtain ⟨v, r, rfl, h2, h3⟩ := repL_cons.mp h
    simpa using RepL.drop n h3
theorem RepL.set : ∀ {xs : List PV} {vs : List V} (n : Nat) {x : PV} {v : V}, RepL K F μ xs vs → Rep K F μ x v → RepL K F μ (xs.set n x) (vs.set n v)
  | [], vs, n, x, v, h, hx => by
    rw [repL_nil.mp h]
    simp [RepL]
  | y :: xs, vs, 0, x, v, h, hx => by
    obtain ⟨w, r, rfl, h2, h3⟩ := repL_cons.mp h
    exact repL_cons.mpr ⟨v, r, rfl, hx, h3⟩
  | y :: xs, vs, n + 1, x, v, h, hx => by
    obtain ⟨w, r, rfl, h2, h3⟩ := repL_cons.mp h
    exact repL_cons.mpr ⟨w, r.set n v, rfl, h2, RepL.set n h3 hx⟩
theorem RepL.reverse : ∀ {xs : List PV} {vs : List V}, RepL K F μ xs vs → RepL K F μ xs.reverse vs.reverse
  | [], vs, h => by
    rw [repL_nil.mp h]
    simp [RepL]
  | x :: xs, vs, h => by
    obtain ⟨v, r, rfl, h2, h3⟩ := repL_cons.mp h
    rw [List.reverse_cons, List.reverse_cons]
    exact (RepL.reverse h3).append (repL_cons.mpr ⟨v, [], rfl, h2, repL_nil.mpr rfl⟩)
theorem RepL.ofGet : ∀ {xs : List PV} {vs : List V}, vs.length = xs.length → (∀ (i : Nat) x v, xs[i]? = some x → vs[i]? = some v → Rep K F μ x v) → RepL K F μ xs vs
  | [], vs, hl, _ => repL_nil.mpr (List.length_eq_zero_iff.mp (by simpa using hl))
  | x :: xs, [], hl, _ => by simp at hl
  | x :: xs, v :: vs, hl, h => repL_cons.mpr ⟨v, vs, rfl, h 0 x v (by simp) (by simp), RepL.ofGet (by simpa using hl) fun i y w e1 e2 => h (i + 1) y w (by simpa using e1) (by simpa using e2)⟩
end
/-- an object of the store, as it lies -/
def RO (K : PySem.W.Frag) (F : Hp) (μ : List Addr) (H : Hp) (a : Addr) : SO → Prop
  | .dead => True
  | .lst xs => F a = none ∧ ∃ vs, H a = some (.lst vs) ∧ RepL K F μ xs vs
  | .dct ks xs => F a = none ∧ ∃ kvs, H a = some (.dK kvs) ∧ ks = kvs.map (fun q => kP q.1) ∧ RepL K F μ xs (kvs.map (·.2))
  | .ins c ks xs => F a = none ∧ ∃ dx vs, H a = some (.ins (cA K c) dx (attrs ks vs)) ∧ ks.length = xs.length ∧ RepL K F μ xs vs
  | _ => False
structure Lay (K : PySem.W.Frag) (G F : Hp) (μ : List Addr) (st : Store) (H : Hp) : Prop where
  gd : ∀ a o, G a = some o → H a = some o ∧ F a = none ∧ a ∉ μ
  same : SameD F H
  len : μ.length = st.length
  nd : μ.Nodup
  there : ∀ a ∈ μ, ∃ o, H a = some o
  obj : ∀ (i : Nat) (a : Addr) (o : SO), μ[i]? = some a → st[i]? = some o → RO K F μ H a o
def EnvR (K : PySem.W.Frag) (F : Hp) (μ : List Addr) (σ : L2.St) (ρ : VEnv) : Prop := σ.length = ρ.length ∧ ∀ (i : Nat) (x : PV), ρ[i]? = some (some x) → ∃ v, σ[i]? = some (some v) ∧ Rep K F μ x v
section
variable {K : PySem.W.Frag} {G F F' : Hp} {μ μ' : List Addr} {σ : L2.St} {ρ : VEnv} {H : Hp} {st : Store}
theorem EnvR.mono (h : EnvR K F μ σ ρ) (e : Ext F μ F' μ') : EnvR K F' μ' σ ρ := ⟨h.1, fun i x q => by
  obtain ⟨v, h1, h2⟩ := h.2 i x q
  exact ⟨v, h1, h2.mono e⟩⟩
theorem EnvR.set {x : PV} {v : V} (h : EnvR K F μ σ ρ) (i : Nat) (r : Rep K F μ x v) : EnvR K F μ (σ.set i (some v)) (ρ.set i (some x)) := ⟨by simp [h.1], fun j y q => by
  by_cases e : i = j
  · subst e
    by_cases hi : i < ρ.length
    · rw [List.getElem?_set_self hi] at q
      cases q
      exact ⟨v, List.getElem?_set_self (by rw [h.1]; exact hi), r⟩
    · rw [List.getElem?_eq_none (by simpa using hi)] at q
      cases q
  · rw [List.getElem?_set_ne e] at q
    obtain ⟨w, h1, h2⟩ := h.2 j y q
    exact ⟨w, by rw [List.getElem?_set_ne e]; exact h1, h2⟩⟩
theorem EnvR.none (h : EnvR K F μ σ ρ) (i : Nat) : EnvR K F μ (σ.set i none) (ρ.set i none) := ⟨by simp [h.1], fun j y q => by
  by_cases e : i = j
  · subst e
    by_cases hi : i < ρ.length
    · rw [List.getElem?_set_self hi] at q
      cases q
    · rw [List.getElem?_eq_none (by simpa using hi)] at q
      cases q
  · rw [List.getElem?_set_ne e] at q
    obtain ⟨w, h1, h2⟩ := h.2 j y q
    exact ⟨w, by rw [List.getElem?_set_ne e]; exact h1, h2⟩⟩
theorem EnvR.wipe (h : EnvR K F μ σ ρ) : ∀ vs : List Nat, EnvR K F μ (L2.wipe σ vs) (VM.wipe ρ vs)
  | [] => h
  | v :: vs => (EnvR.wipe h vs).none v
theorem Lay.free (l : Lay K G F μ st H) {p : Addr} (h : H p = none) : F p = none := by
  cases e : F p with
  | none => rfl
  | some o =>
    rw [l.same p o e] at h
    cases h
theorem Lay.notin (l : Lay K G F μ st H) {p : Addr} (h : H p = none) : p ∉ μ := fun z => by
  obtain ⟨o, e⟩ := l.there p z
  rw [h] at e
  cases e
theorem ext_upd (l : Lay K G F μ st H) {p : Addr} {o : HO} (h : H p = none) : Ext F μ (upd F p o) μ := ⟨fun a u e => by rw [upd_ne (ne_of_none e (l.free h))]; exact e, [], by simp⟩
theorem RO.mono {a : Addr} {o : SO} (h : RO K F μ H a o) (e : Ext F μ F' μ') {H' : Hp} (hf : F' a = F a) (hh : H' a = H a) : RO K F' μ' H' a o := by
  cases o with
  | dead => trivial
  | lst xs =>
    obtain ⟨h1, vs, h2, h3⟩ := h
    exact ⟨hf.trans h1, vs, hh.trans h2, h3.mono e⟩
  | dct ks xs =>
    obtain ⟨h1, kvs, h2, h3, h4⟩ := h
    exact ⟨hf.trans h1, kvs, hh.trans h2, h3, h4.mono e⟩
  | dctT _ _ => exact h.elim
  | ins c ks xs =>
    obtain ⟨h1, dx, vs, h2, h3, h4⟩ := h
    exact ⟨hf.trans h1, dx, vs, hh.trans h2, h3, h4.mono e⟩
/-- a new thing that is frozen -/
theorem Lay.new (l : Lay K G F μ st H) {p : Addr} {o : HO} (h : H p = none) : Lay K G (upd F p o) μ st (upd H p o) where
  gd := fun a u e => by
    obtain ⟨h1, h2, h3⟩ := l.gd a u e
    have q : a ≠ p := ne_of_none h1 h
    exact ⟨by rw [upd_ne q]; exact h1, by rw [upd_ne q]; exact h2, h3⟩
  same := fun a u e => by
    by_cases q : a = p
    · subst q
      rw [upd_same] at e ⊢
      exact e
    · rw [upd_ne q] at e ⊢
      exact l.same a u e
  len := l.len
  nd := l.nd
  there := fun a ha => by
    by_cases q : a = p
    · exact ⟨o, by rw [q]; exact upd_same⟩
    · rw [upd_ne q]
      exact l.there a ha
  obj := fun i a u h1 h2 => by
    have q : a ≠ p := fun z => l.notin h (z ▸ List.mem_of_getElem? h1)
    exact (l.obj i a u h1 h2).mono (ext_upd l h) (upd_ne q) (upd_ne q)
theorem ext_alloc (p : Addr) : Ext F μ F (μ ++ [p]) := ⟨fun _ _ h => h, [p], rfl⟩
/-- a new object of the store -/
theorem Lay.alloc (l : Lay K G F μ st H) {p : Addr} {o : HO} {u : SO} (h : H p = none) (r : RO K F (μ ++ [p]) (upd H p o) p u) : Lay K G F (μ ++ [p]) (st ++ [u]) (upd H p o) where
  gd := fun a u e => by
    obtain ⟨h1, h2, h3⟩ := l.gd a u e
    have q : a ≠ p := ne_of_none h1 h
    exact ⟨by rw [upd_ne q]; exact h1, h2, fun z => (List.mem_append.mp z).elim h3 fun z => q (by simpa using z)⟩
  same := fun a v e => by rw [upd_ne (ne_of_none (l.same a v e) h)]; exact l.same a v e
  len := by simp [l.len]
  nd := List.nodup_append.mpr ⟨l.nd, by simp, fun a ha b hb => by
    have e : b = p := by simpa using hb
    subst e
    exact fun z => l.notin h (z ▸ ha)⟩
  there := fun a ha => by
    rcases List.mem_append.mp ha with ha | ha
    · by_cases q : a = p
      · exact ⟨o, by rw [q]; exact upd_same⟩
      · rw [upd_ne q]
        exact l.there a ha
    · have e : a = p := by simpa using ha
      exact ⟨o, by rw [e]; exact upd_same⟩
  obj := fun i a v h1 h2 => by
    by_cases hi : i < μ.length
    · rw [List.getElem?_append_left hi] at h1
      rw [List.getElem?_append_left (by rw [← l.len]; exact hi)] at h2
      have q : a ≠ p := fun z => l.notin h (z ▸ List.mem_of_getElem? h1)
      exact (l.obj i a v h1 h2).mono (ext_alloc p) rfl (upd_ne q)
    · have e : i = μ.length := by
        have := (List.getElem?_eq_some_iff.mp h1).1
        simp at this
        omega
      subst e
      rw [List.getElem?_append_right (Nat.le_refl _)] at h1
      rw [l.len, List.getElem?_append_right (Nat.le_refl _)] at h2
      simp at h1 h2
      subst h1 h2
      exact r
/-- an object of the store is changed -/
theorem Lay.put (l : Lay K G F μ st H) {i : Nat} {a : Addr} {o : HO} {u : SO} (hi : μ[i]? = some a) (r : RO K F μ (upd H a o) a u) (hf : F a = none) : Lay K G F μ (st.set i u) (upd H a o) where
  gd := fun b v e => by
    obtain ⟨h1, h2, h3⟩ := l.gd b v e
    exact ⟨by rw [upd_ne (fun z => h3 (by rw [z]; exact List.mem_of_getElem? hi))]; exact h1, h2, h3⟩
  same := fun b v e => by rw [upd_ne (ne_of_none e hf)]; exact l.same b v e
  len := by simp [l.len]
  nd := l.nd
  there := fun b hb => by
    by_cases q : b = a
    · exact ⟨o, by rw [q]; exact upd_same⟩
    · rw [upd_ne q]
      exact l.there b hb
  obj := fun j b v h1 h2 => by
    by_cases e : i = j
    · subst e
      rw [hi] at h1
      cases h1
      rw [List.getElem?_set_self (by rw [← l.len]; exact (List.getElem?_eq_some_iff.mp hi).1)] at h2
      cases h2
      exact r
    · rw [List.getElem?_set_ne e] at h2
      have q : b ≠ a := fun z => by
        subst z
        obtain ⟨hi1, e1⟩ := List.getElem?_eq_some_iff.mp hi
        obtain ⟨hj1, e2⟩ := List.getElem?_eq_some_iff.mp h1
        exact e ((List.getElem_inj l.nd).mp (e1.trans e2.symm))
      exact (l.obj j b v h1 h2).mono Ext.refl rfl (upd_ne q)
end
end VS
end
section
namespace VS
open PySem PySem.Spec PyProof.Rows L2
open VM (PV SO Store)
def nox : VM.KV := fun _ _ => False
def Kon (K : PySem.W.Frag) (G F : Hp) (μ : List Addr) (k : VM.KV) (Q : VK) : Prop := ∀ (v : V) (H' F' : Hp) (μ' : List Addr) (x : PV) (st' : Store), Ext F μ F' μ' → Lay K G F' μ' st' H' → Rep K F' μ' x v → k x st' → Q v H'
def KonB (K : PySem.W.Frag) (G F : Hp) (μ : List Addr) (k : Bool → Store → Prop) (Q : Bool → Hp → Prop) : Prop := ∀ (b : Bool) (H' F' : Hp) (μ' : List Addr) (st' : Store), Ext F μ F' μ' → Lay K G F' μ' st' H' → k b st' → Q b H'
def KonA (K : PySem.W.Frag) (G F : Hp) (μ : List Addr) (k : List PV → Store → Prop) (Q : List V → Hp → Prop) : Prop := ∀ (vs : List V) (H' F' : Hp) (μ' : List Addr) (xs : List PV) (st' : Store), Ext F μ F' μ' → Lay K G F' μ' st' H' → RepL K F' μ' xs vs → k xs st' → Q vs H'
section
variable {K : PySem.W.Frag} {G F F' : Hp} {μ μ' : List Addr}
theorem Kon.mono {k : VM.KV} {Q : VK} (h : Kon K G F μ k Q) (e : Ext F μ F' μ') : Kon K G F' μ' k Q := fun v H' F2 μ2 x st' e2 => h v H' F2 μ2 x st' (e.trans e2)
theorem KonB.mono {k : Bool → Store → Prop} {Q : Bool → Hp → Prop} (h : KonB K G F μ k Q) (e : Ext F μ F' μ') : KonB K G F' μ' k Q := fun v H' F2 μ2 st' e2 => h v H' F2 μ2 st' (e.trans e2)
theorem KonA.mono {k : List PV → Store → Prop} {Q : List V → Hp → Prop} (h : KonA K G F μ k Q) (e : Ext F μ F' μ') : KonA K G F' μ' k Q := fun v H' F2 μ2 x st' e2 => h v H' F2 μ2 x st' (e.trans e2)
end
/-- a tree-level reading, over the heap -/
def rE (K : PySem.W.Frag) (t : VM.TE) : L2.TE := fun σ H Q => ∃ G F μ ρ st k, Lay K G F μ st H ∧ EnvR K F μ σ ρ ∧ t ρ st k nox ∧ Kon K G F μ k Q
def rT (K : PySem.W.Frag) (t : VM.TT) : L2.TT := fun σ H Q => ∃ G F μ ρ st k, Lay K G F μ st H ∧ EnvR K F μ σ ρ ∧ t ρ st k nox ∧ KonB K G F μ k Q
def rA (K : PySem.W.Frag) (t : VM.TA) : L2.TA := fun σ H Q => ∃ G F μ ρ st k, Lay K G F μ st H ∧ EnvR K F μ σ ρ ∧ t ρ st k nox ∧ KonA K G F μ k Q
abbrev VE (X : Cx) (e : Expr) (t : VM.TE) : Prop := PE X e (rE X.K t)
abbrev VT (X : Cx) (e : Expr) (t : VM.TT) : Prop := PT X e (rT X.K t)
abbrev VA (X : Cx) (es : List Expr) (t : VM.TA) : Prop := PA X es (rA X.K t)
theorem pe_imp {X : Cx} {e : Expr} {t t' : L2.TE} (h : PE X e t) (hi : ∀ σ H Q, t' σ H Q → t σ H Q) : PE X e t' := ⟨fun pins s σ H Q I q => h.run pins s σ H Q I (hi σ H Q q)⟩
theorem pt_imp {X : Cx} {e : Expr} {t t' : L2.TT} (h : PT X e t) (hi : ∀ σ H Q, t' σ H Q → t σ H Q) : PT X e t' := ⟨fun pins s σ H Q I q => h.run pins s σ H Q I (hi σ H Q q)⟩
theorem pw_imp {X : Cx} {e : Expr} {t t' : L2.TT} (h : PW X e t) (hi : ∀ σ H Q, t' σ H Q → t σ H Q) : PW X e t' := ⟨fun wh pins s σ H Q I q => h.run wh pins s σ H Q I (hi σ H Q q)⟩
theorem pa_imp {X : Cx} {es : List Expr} {t t' : L2.TA} (h : PA X es t) (hi : ∀ σ H Q, t' σ H Q → t σ H Q) : PA X es t' := ⟨fun pos pins s σ H Q I q => h.run pos pins s σ H Q I (hi σ H Q q)⟩
/-- an operation by values -/
def R2of (K : PySem.W.Frag) (f : PV → PV → Store → VM.KV → Prop) : R2 := fun x y H Q => ∃ G F μ st px py k, Lay K G F μ st H ∧ Rep K F μ px x ∧ Rep K F μ py y ∧ f px py st k ∧ Kon K G F μ k Q
def R1of (K : PySem.W.Frag) (f : PV → Store → VM.KV → Prop) : V → Hp → VK → Prop := fun x H Q => ∃ G F μ st px k, Lay K G F μ st H ∧ Rep K F μ px x ∧ f px st k ∧ Kon K G F μ k Q
section
variable {K : PySem.W.Frag} {G F : Hp} {μ : List Addr} {σ : L2.St} {H : Hp}
/-- e, then f of its value -/
theorem bind1 {ta : VM.TE} {ρ : VM.Env} {st : Store} {k : VM.KV} {W : V → Hp → Prop} (l : Lay K G F μ st H) (r : EnvR K F μ σ ρ) (h : ta ρ st k nox)
    (hG : ∀ v H1 F1 μ1 x st1, Ext F μ F1 μ1 → Lay K G F1 μ1 st1 H1 → EnvR K F1 μ1 σ ρ → Rep K F1 μ1 x v → k x st1 → W v H1) : rE K ta σ H W :=
  ⟨G, F, μ, ρ, st, k, l, r, h, fun v H' F' μ' x st' e l' r' q => hG v H' F' μ' x st' e l' (r.mono e) r' q⟩
theorem bindT {ta : VM.TT} {ρ : VM.Env} {st : Store} {k : Bool → Store → Prop} {W : Bool → Hp → Prop} (l : Lay K G F μ st H) (r : EnvR K F μ σ ρ) (h : ta ρ st k nox)
    (hG : ∀ b H1 F1 μ1 st1, Ext F μ F1 μ1 → Lay K G F1 μ1 st1 H1 → EnvR K F1 μ1 σ ρ → k b st1 → W b H1) : rT K ta σ H W :=
  ⟨G, F, μ, ρ, st, k, l, r, h, fun v H' F' μ' st' e l' q => hG v H' F' μ' st' e l' (r.mono e) q⟩
theorem bindA {ta : VM.TA} {ρ : VM.Env} {st : Store} {k : List PV → Store → Prop} {W : List V → Hp → Prop} (l : Lay K G F μ st H) (r : EnvR K F μ σ ρ) (h : ta ρ st k nox)
    (hG : ∀ vs H1 F1 μ1 xs st1, Ext F μ F1 μ1 → Lay K G F1 μ1 st1 H1 → EnvR K F1 μ1 σ ρ → RepL K F1 μ1 xs vs → k xs st1 → W vs H1) : rA K ta σ H W :=
  ⟨G, F, μ, ρ, st, k, l, r, h, fun v H' F' μ' x st' e l' r' q => hG v H' F' μ' x st' e l' (r.mono e) r' q⟩
theorem bind2 {ta tb : VM.TE} {ρ : VM.Env} {st : Store} {f : PV → PV → Store → VM.KV → Prop} {k : VM.KV} {Q : VK} (l : Lay K G F μ st H) (r : EnvR K F μ σ ρ) (hk : Kon K G F μ k Q)
    (h : ta ρ st (fun u st => tb ρ st (fun v st => f u v st k) nox) nox) : tOp (R2of K f) (rE K ta) (rE K tb) σ H Q :=
  bind1 l r h fun x H1 F1 μ1 px st1 e1 l1 r1 p1 q1 => bind1 l1 r1 q1 fun y H2 F2 μ2 py st2 e2 l2 r2 p2 q2 => ⟨G, F2, μ2, st2, px, py, k, l2, p1.mono e2, p2, q2, hk.mono (e1.trans e2)⟩
/-- a list, as it stands -/
theorem asL_rep {st : Store} {px : PV} {x : V} {xs : List PV} (l : Lay K G F μ st H) (r : Rep K F μ px x) (h : VM.asL st px = some xs) : ∃ a vs, x = .ref a ∧ H a = some (.lst vs) ∧ RepL K F μ xs vs := by
  unfold VM.asL at h
  split at h
  · cases h
    unfold Rep at r
    obtain ⟨a, vs, h1, h2, h3⟩ := r
    exact ⟨a, vs, h1, l.same a _ h2, h3⟩
  · rename_i i
    split at h
    · rename_i ys e
      cases h
      unfold Rep at r
      obtain ⟨a, h1, h2⟩ := r
      obtain ⟨_, vs, h3, h4⟩ := l.obj i a _ h1 e
      exact ⟨a, vs, h2, h3, h4⟩
    · cases h
  · cases h
theorem rep_non {v : V} : Rep K F μ .non v ↔ v = .non := by unfold Rep; exact Iff.rfl
theorem rep_bl {b : Bool} {v : V} : Rep K F μ (.bl b) v ↔ v = .bl b := by unfold Rep; exact Iff.rfl
theorem rep_int {i : Int} {v : V} : Rep K F μ (.int i) v ↔ v = .int i := by unfold Rep; exact Iff.rfl
theorem rep_str {s : List Nat} {v : V} : Rep K F μ (.str s) v ↔ sOk s ∧ v = .str ⟨s.toArray⟩ := by unfold Rep; exact Iff.rfl
theorem rep_tup {xs : List PV} {v : V} : Rep K F μ (.tup xs) v ↔ ∃ a vs, v = .ref a ∧ SqT K F a vs ∧ RepL K F μ xs vs := by
  constructor
  · intro h
    unfold Rep at h
    exact h
  · intro h
    unfold Rep
    exact h
theorem rep_lst {xs : List PV} {v : V} : Rep K F μ (.lst xs) v ↔ ∃ a vs, v = .ref a ∧ F a = some (.lst vs) ∧ RepL K F μ xs vs := by
  constructor
  · intro h
    unfold Rep at h
    exact h
  · intro h
    unfold Rep
    exact h
theorem rep_scr {is : List Int} {v : V} : Rep K F μ (.scr is) v ↔ ∃ a, v = .ref a ∧ SqL K F a (is.map V.int) := by
  constructor
  · intro h
    unfold Rep at h
    exact h
  · intro h
    unfold Rep
    exact h
theorem rep_ref {i : Nat} {v : V} : Rep K F μ (.ref i) v ↔ ∃ a, μ[i]? = some a ∧ v = .ref a := by
  constructor
  · intro h
    unfold Rep at h
    exact h
  · intro h
    unfold Rep
    exact h
/-- a new frozen list, tuple -/
theorem Kon.lst {st : Store} {k : VM.KV} {Q : VK} {xs : List PV} {vs : List V} (hk : Kon K G F μ k Q) (l : Lay K G F μ st H) (r : RepL K F μ xs vs) (q : k (.lst xs) st) (p : Addr) (hp : H p = none) : Q (.ref p) (upd H p (.lst vs)) :=
  hk (.ref p) _ (upd F p (.lst vs)) μ (.lst xs) st (ext_upd l hp) (l.new hp) (rep_lst.mpr ⟨p, vs, rfl, upd_same, r.mono (ext_upd l hp)⟩) q
theorem Kon.tup {st : Store} {k : VM.KV} {Q : VK} {xs : List PV} {vs : List V} (hk : Kon K G F μ k Q) (l : Lay K G F μ st H) (r : RepL K F μ xs vs) (q : k (.tup xs) st) (p : Addr) (hp : H p = none) : Q (.ref p) (upd H p (.tup vs)) :=
  hk (.ref p) _ (upd F p (.tup vs)) μ (.tup xs) st (ext_upd l hp) (l.new hp) (rep_tup.mpr ⟨p, vs, rfl, .inl (.inl upd_same), r.mono (ext_upd l hp)⟩) q
/-- a new list of the store -/
theorem Kon.lstM {st : Store} {k : VM.KV} {Q : VK} {xs : List PV} {vs : List V} (hk : Kon K G F μ k Q) (l : Lay K G F μ st H) (r : RepL K F μ xs vs) (q : k (.ref st.length) (st ++ [.lst xs])) (p : Addr) (hp : H p = none) : Q (.ref p) (upd H p (.lst vs)) := by
  refine hk (.ref p) _ F (μ ++ [p]) (.ref st.length) (st ++ [.lst xs]) (ext_alloc p) (l.alloc (u := SO.lst xs) hp ⟨l.free hp, vs, upd_same, r.mono (ext_alloc p)⟩) (rep_ref.mpr ⟨p, ?_, rfl⟩) q
  rw [← l.len, List.getElem?_append_right (Nat.le_refl _)]
  simp
theorem Kon.same {st : Store} {k : VM.KV} {Q : VK} {x : PV} {v : V} (hk : Kon K G F μ k Q) (l : Lay K G F μ st H) (r : Rep K F μ x v) (q : k x st) : Q v H := hk v H F μ x st Ext.refl l r q
end
section
variable {X : Cx} {a b c : Expr} {ta tb tc : VM.TE} {pos : Pos}
theorem ve_var (i : Nat) {x : Str} (hN : X.N[i]? = some x := by rfl) (hv : Vis X.env.scope x := by first | exact Or.inl rfl | exact Or.inr (Or.inl rfl) | exact Or.inr (Or.inr rfl)) (hd : (x == ("__debug__" : Str)) = false := by decide)
    (hcd : (x == ("__classdict__" : Str)) = false := by decide) : VE X (.Name x pos) (VM.eVar i) := pe_imp (pe_var hN hv hd hcd) fun σ H Q h => by
  obtain ⟨G, F, μ, ρ, st, k, l, r, d, hk⟩ := h
  unfold VM.eVar at d
  split at d
  · rename_i v e
    obtain ⟨w, h1, h2⟩ := r.2 i v e
    exact ⟨w, h1, hk.same l h2 d⟩
  · exact d.elim
theorem ve_c {e : Expr} {v : V} {x : PV} (h : PE X e (tC v)) (hr : ∀ F μ, Rep X.K F μ x v) : VE X e (VM.eC x) := pe_imp h fun σ H Q h => by
  obtain ⟨G, F, μ, ρ, st, k, l, r, d, hk⟩ := h
  exact hk.same l (hr F μ) d
theorem ve_int {i : Int} {j : Nat} : VE X (.Constant (.int i) j pos) (VM.eC (.int i)) := ve_c pe_int fun _ _ => rep_int.mpr rfl
theorem ve_bl {i : Bool} {j : Nat} : VE X (.Constant (.bool i) j pos) (VM.eC (.bl i)) := ve_c pe_bl fun _ _ => rep_bl.mpr rfl
theorem ve_non {j : Nat} : VE X (.Constant .none j pos) (VM.eC .non) := ve_c pe_non fun _ _ => rep_non.mpr rfl
theorem sOk_of {s : List Nat} (h : (Nat.ble s.length 16777216 && s.all fun c => Nat.blt c 1114112) = true) : sOk s := by
  rw [Bool.and_eq_true] at h
  exact ⟨Nat.le_of_ble_eq_true h.1, fun c hc => Nat.le_of_ble_eq_true (List.all_eq_true.mp h.2 c hc)⟩
theorem ve_str {z : Str} {s : List Nat} {j : Nat} (hz : z = ⟨s.toArray⟩ := by rfl) (hs : (Nat.ble s.length 16777216 && s.all fun c => Nat.blt c 1114112) = true := by rfl) : VE X (.Constant (.str z) j pos) (VM.eC (.str s)) := by
  subst hz
  exact ve_c pe_str fun _ _ => rep_str.mpr ⟨sOk_of hs, rfl⟩

/-- what a division of any size asks -/
structure Dv (base : Heap) (P : Program) (stack : List PySem.Env) (A : Around) : Prop where
  seer : base.NoSeer
  tree : P.given.tree = none
  top : ∃ env l, stack = env :: l ∧ env.scope.isGenerator = false ∧ env.scope.isCoroutine = false ∧ env.builtins = builtinsNs ∧ env.globals = mainGlobals
  dep : A.depth + Builtin.pylongFrames < recursionLimit
theorem dv_room {pins : List (Addr × Obj)} {σ : L2.St} {H : Hp} {s : Shared} (hd : Dv X.base X.prog X.stack X.A) (I : Inv X pins σ H s) : PylongRoom (model X.prog X.w) X.A s := by
  obtain ⟨env, l, e, h1, h2, h3, h4⟩ := hd.top
  exact PylongRoom.of I.nolimit hd.dep (SeerAt.of (env := env) (l := l) (hd.seer.keeps I.bk) hd.tree (I.ok.frames.trans (by rw [e])) h1 h2 h3 h4)
theorem mulOk {i j : Int} (h : VM.MulOk i j) : IntMulOk i j := by
  have b : ∀ x : Int, Builtin.Int.intBits x ≤ x.natAbs.log2 + 1 := fun x => by
    unfold Builtin.Int.intBits
    split <;> omega
  have h1 := b i
  have h2 := b j
  have h3 : i.natAbs.log2 + j.natAbs.log2 < 100000000 := h
  have e : bitsLine = 134217728 := by decide
  unfold IntMulOk
  intro z
  rw [Bool.and_eq_true] at z
  have z2 := z.2
  unfold Builtin.Int.intTooBig at z2
  have z3 := of_decide_eq_true z2
  rw [e] at z3
  omega
theorem op_mulG : OpR X (binaryOp .Mult) (rI VM.MulOk fun i j => .int (i * j)) := opI fun _ _ _ _ _ _ _ hc q => mul_int q (mulOk hc)
theorem strA (a b : List Nat) : ((⟨a.toArray⟩ : Str) ++ (⟨b.toArray⟩ : Str)) = ⟨(a ++ b).toArray⟩ := by
  show (⟨a.toArray ++ b.toArray⟩ : Str) = _
  simp
theorem o_add : OpR X (binaryOp .Add) (R2of X.K VM.opAdd) := by
  intro pins s σ H x y v u Q I rx ry h
  obtain ⟨G, F, μ, st, px, py, k, l, p1, p2, d, hk⟩ := h
  unfold VM.opAdd at d
  split at d
  · rename_i i j
    obtain rfl := rep_int.mp p1
    obtain rfl := rep_int.mp p2
    exact op_add pins s σ H _ _ v u Q I rx ry ⟨i, j, rfl, rfl, hk.same l (rep_int.mpr rfl) d⟩
  · rename_i a b
    obtain ⟨o1, rfl⟩ := rep_str.mp p1
    obtain ⟨o2, rfl⟩ := rep_str.mp p2
    refine op_add_str pins s σ H _ _ v u Q I rx ry ⟨_, _, rfl, rfl, by rw [sizeLine_eq]; simpa [Str.length] using d.1, ?_⟩
    rw [strA]
    exact hk.same l (rep_str.mpr ⟨⟨by simpa using d.1, fun c hc => (List.mem_append.mp hc).elim (o1.2 c) (o2.2 c)⟩, rfl⟩) d.2
  · rename_i xs ys
    obtain ⟨p, vs, rfl, e1, r1⟩ := rep_tup.mp p1
    obtain ⟨q, ws, rfl, e2, r2⟩ := rep_tup.mp p2
    have h1 := r1.length
    have h2 := r2.length
    refine op_catA pins s σ H _ _ v u Q I rx ry ⟨p, q, vs, ws, rfl, rfl, l.same.seqT e1, l.same.seqT e2, by rw [sizeLine_eq]; have z : VM.SZ = 16777216 := rfl; have := d.1; omega, fun z => ?_, fun _ z => ?_, fun _ _ => hk.tup l (r1.append r2) d.2⟩
    · subst z
      cases xs with
      | nil => exact hk.same l (rep_tup.mpr ⟨q, ws, rfl, e2, r2⟩) d.2
      | cons _ _ => simp at h1
    · subst z
      cases ys with
      | nil =>
        have d2 := d.2
        rw [List.append_nil] at d2
        exact hk.same l (rep_tup.mpr ⟨p, vs, rfl, e1, r1⟩) d2
      | cons _ _ => simp at h2
  · split at d
    · rename_i xs ys ea eb
      obtain ⟨p, vs, rfl, e1, r1⟩ := asL_rep l p1 ea
      obtain ⟨q, ws, rfl, e2, r2⟩ := asL_rep l p2 eb
      have h1 := r1.length
      have h2 := r2.length
      exact op_cat pins s σ H _ _ v u Q I rx ry ⟨p, q, vs, ws, rfl, rfl, e1, e2, by rw [sizeLine_eq]; have z : VM.SZ = 16777216 := rfl; have := d.1; omega, hk.lst l (r1.append r2) d.2⟩
    · exact d.elim
theorem o_sub : OpR X (binaryOp .Sub) (R2of X.K VM.opSub) := by
  intro pins s σ H x y v u Q I rx ry h
  obtain ⟨G, F, μ, st, px, py, k, l, p1, p2, d, hk⟩ := h
  unfold VM.opSub at d
  split at d
  · rename_i i j
    obtain rfl := rep_int.mp p1
    obtain rfl := rep_int.mp p2
    exact op_sub pins s σ H _ _ v u Q I rx ry ⟨i, j, rfl, rfl, hk.same l (rep_int.mpr rfl) d⟩
  · exact d.elim
theorem o_fdiv (hd : Dv X.base X.prog X.stack X.A) : OpR X (binaryOp .FloorDiv) (R2of X.K VM.opFdiv) := by
  intro pins s σ H x y v u Q I rx ry h
  obtain ⟨G, F, μ, st, px, py, k, l, p1, p2, d, hk⟩ := h
  unfold VM.opFdiv at d
  split at d
  · rename_i i j
    obtain rfl := rep_int.mp p1
    obtain rfl := rep_int.mp p2
    obtain ⟨t, rfl⟩ := rx
    obtain ⟨t', rfl⟩ := ry
    exact floordiv_int d.1 ⟨.int (i.fdiv j), H, I.tok _, ⟨_, rfl⟩, hk.same l (rep_int.mpr rfl) d.2⟩ (.inr (dv_room hd I))
  · exact d.elim
theorem o_mod : OpR X (binaryOp .Mod) (R2of X.K VM.opMod) := by
  intro pins s σ H x y v u Q I rx ry h
  obtain ⟨G, F, μ, st, px, py, k, l, p1, p2, d, hk⟩ := h
  unfold VM.opMod at d
  split at d
  · rename_i i j
    obtain rfl := rep_int.mp p1
    obtain rfl := rep_int.mp p2
    exact op_modN pins s σ H _ _ v u Q I rx ry ⟨i, j, rfl, rfl, d.1, hk.same l (rep_int.mpr rfl) d.2⟩
  · exact d.elim
theorem o_pow : OpR X (binaryOp .Pow) (R2of X.K VM.opPow) := by
  intro pins s σ H x y v u Q I rx ry h
  obtain ⟨G, F, μ, st, px, py, k, l, p1, p2, d, hk⟩ := h
  unfold VM.opPow at d
  split at d
  · rename_i i j
    obtain rfl := rep_int.mp p1
    obtain rfl := rep_int.mp p2
    exact op_pow pins s σ H _ _ v u Q I rx ry ⟨i, j, rfl, rfl, d.1, hk.same l (rep_int.mpr rfl) d.2⟩
  · exact d.elim
theorem RepL.rep {K : PySem.W.Frag} {F : Hp} {μ : List Addr} {xs : List PV} {vs : List V} (r : RepL K F μ xs vs) : ∀ n : Nat, RepL K F μ (List.replicate n xs).flatten (List.replicate n vs).flatten
  | 0 => repL_nil.mpr rfl
  | n + 1 => by
    rw [List.replicate_succ, List.replicate_succ, List.flatten_cons, List.flatten_cons]
    exact r.append (RepL.rep r n)
theorem o_mul : OpR X (binaryOp .Mult) (R2of X.K VM.opMul) := by
  intro pins s σ H x y v u Q I rx ry h
  obtain ⟨G, F, μ, st, px, py, k, l, p1, p2, d, hk⟩ := h
  unfold VM.opMul at d
  split at d
  · rename_i i j
    obtain rfl := rep_int.mp p1
    obtain rfl := rep_int.mp p2
    exact op_mulG pins s σ H _ _ v u Q I rx ry ⟨i, j, rfl, rfl, d.1, hk.same l (rep_int.mpr rfl) d.2⟩
  · rename_i xs j
    obtain ⟨p, vs, rfl, e1, r1⟩ := rep_lst.mp p1
    obtain rfl := rep_int.mp p2
    obtain ⟨h1, h2, h3, d⟩ := d
    have hl := r1.length
    exact op_rep pins s σ H _ _ v u Q I rx ry ⟨p, j, vs, rfl, rfl, l.same _ _ e1, h1, h2, by rw [sizeLine_eq, hl]; exact h3, hk.lst l (r1.rep _) d⟩
  · rename_i xs j
    obtain ⟨p, vs, rfl, e1, r1⟩ := rep_tup.mp p1
    obtain rfl := rep_int.mp p2
    obtain ⟨h0, h1, h2, h3, d⟩ := d
    have hl := r1.length
    exact op_repT pins s σ H _ _ v u Q I rx ry ⟨p, j, vs, rfl, rfl, l.same.seqT e1, fun z => by
      subst z
      exact h0 (List.length_eq_zero_iff.mp hl.symm), h1, h2, by rw [hl]; exact h3, hk.tup l (r1.rep _) d⟩
  · exact d.elim
theorem ve_bin {op : Operator} {o : VM.Op} (ho : OpR X (binaryOp op) (R2of X.K (VM.opBin o))) (ha : VE X a ta) (hb : VE X b tb) : VE X (.BinOp a op b pos) (VM.eBin o ta tb) := pe_imp (pe_op ho ha hb) fun σ H Q h => by
  obtain ⟨G, F, μ, ρ, st, k, l, r, d, hk⟩ := h
  exact bind2 l r hk d
theorem ve_neg (ha : VE X a ta) : VE X (.UnaryOp .USub a pos) (VM.eNeg ta) := pe_imp (pe_un un_neg ha) fun σ H Q h => by
  obtain ⟨G, F, μ, ρ, st, k, l, r, d, hk⟩ := h
  refine bind1 l r d fun x H1 F1 μ1 px st1 e1 l1 r1 p1 q1 => ?_
  split at q1
  · rename_i i
    obtain rfl := rep_int.mp p1
    exact ⟨i, rfl, (hk.mono e1).same l1 (rep_int.mpr rfl) q1⟩
  · exact q1.elim
end
end VS
end
section
namespace VS
open PySem PySem.Spec PyProof.Rows L2
open VM (PV SO Store)
mutual
def toD : PV → PyData
  | .non => .none
  | .bl b => .bool b
  | .int i => .int i
  | .str s => .str ⟨s.toArray⟩
  | .tup xs => .tuple (toDL xs)
  | .lst xs => .list (toDL xs)
  | _ => .none
def toDL : List PV → List PyData
  | [] => []
  | x :: xs => toD x :: toDL xs
end
section
variable {K : PySem.W.Frag} {G F : Hp} {μ : List Addr} {H : Hp}
mutual
theorem dp_of (hs : SameD F H) : ∀ (n : Nat) (x : PV) (v : V), VM.isD n x = true → Rep K F μ x v → Dp K H v (toD x)
  | _, .non, v, _, r => by
    obtain rfl := rep_non.mp r
    unfold toD
    exact .non
  | _, .bl b, v, _, r => by
    obtain rfl := rep_bl.mp r
    unfold toD
    exact .bl b
  | _, .int i, v, _, r => by
    obtain rfl := rep_int.mp r
    unfold toD
    exact .int i
  | _, .str s, v, _, r => by
    obtain ⟨_, rfl⟩ := rep_str.mp r
    unfold toD
    exact .str _
  | 0, .tup xs, v, h, r => by simp [VM.isD] at h
  | n + 1, .tup xs, v, h, r => by
    obtain ⟨a, vs, rfl, e, q⟩ := rep_tup.mp r
    unfold toD
    exact .tup (hs.seqT e) (dpL_of hs n xs vs (by simpa [VM.isD] using h) q)
  | 0, .lst xs, v, h, r => by simp [VM.isD] at h
  | n + 1, .lst xs, v, h, r => by
    obtain ⟨a, vs, rfl, e, q⟩ := rep_lst.mp r
    unfold toD
    exact .lst (.inl (.inl (hs _ _ e))) (dpL_of hs n xs vs (by simpa [VM.isD] using h) q)
  | n, .dct _ _, v, h, r => by simp [VM.isD] at h
  | n, .dctT _ _, v, h, r => by simp [VM.isD] at h
  | n, .obj _ _ _, v, h, r => by simp [VM.isD] at h
  | n, .scr _, v, h, r => by simp [VM.isD] at h
  | n, .ref _, v, h, r => by simp [VM.isD] at h
  | n, .ty _, v, h, r => by simp [VM.isD] at h
  | n, .fn _, v, h, r => by simp [VM.isD] at h
  | n, .cls _, v, h, r => by simp [VM.isD] at h
theorem dpL_of (hs : SameD F H) : ∀ (n : Nat) (xs : List PV) (vs : List V), VM.isDL n xs = true → RepL K F μ xs vs → DpAll K H vs (toDL xs)
  | _, [], vs, _, r => by
    rw [repL_nil.mp r]
    unfold toDL
    exact .nil
  | n, x :: xs, vs, h, r => by
    obtain ⟨v, w, rfl, r1, r2⟩ := repL_cons.mp r
    have h' : VM.isD n x = true ∧ VM.isDL n xs = true := by simpa [VM.isDL] using h
    unfold toDL
    exact .cons (dp_of hs n x v h'.1 r1) (dpL_of hs n xs w h'.2 r2)
end
mutual
theorem lay_of : ∀ (n : Nat) (x : PV) (v : V), VM.isD n x = true → Rep K F μ x v → (toD x).canLay0 = true ∧ (toD x).depth ≤ n
  | _, .non, v, _, r => by simp [toD, PyData.canLay0, PyData.depth]
  | _, .bl b, v, _, r => by simp [toD, PyData.canLay0, PyData.depth]
  | _, .int i, v, _, r => by simp [toD, PyData.canLay0, PyData.depth]
  | _, .str s, v, _, r => by
    obtain ⟨o, rfl⟩ := rep_str.mp r
    refine ⟨?_, by simp [toD, PyData.depth]⟩
    simp only [toD, PyData.canLay0, PyData.strOk]
    simp only [List.all_toArray, List.all_eq_true, decide_eq_true_eq]
    exact fun c hc => o.2 c hc
  | 0, .tup xs, v, h, r => by simp [VM.isD] at h
  | n + 1, .tup xs, v, h, r => by
    obtain ⟨a, vs, rfl, e, q⟩ := rep_tup.mp r
    have z := layL_of n xs vs (by simpa [VM.isD] using h) q
    simp only [toD, PyData.canLay0, PyData.depth]
    exact ⟨z.1, by omega⟩
  | 0, .lst xs, v, h, r => by simp [VM.isD] at h
  | n + 1, .lst xs, v, h, r => by
    obtain ⟨a, vs, rfl, e, q⟩ := rep_lst.mp r
    have z := layL_of n xs vs (by simpa [VM.isD] using h) q
    simp only [toD, PyData.canLay0, PyData.depth]
    exact ⟨z.1, by omega⟩
  | n, .dct _ _, v, h, r => by simp [VM.isD] at h
  | n, .dctT _ _, v, h, r => by simp [VM.isD] at h
  | n, .obj _ _ _, v, h, r => by simp [VM.isD] at h
  | n, .scr _, v, h, r => by simp [VM.isD] at h
  | n, .ref _, v, h, r => by simp [VM.isD] at h
  | n, .ty _, v, h, r => by simp [VM.isD] at h
  | n, .fn _, v, h, r => by simp [VM.isD] at h
  | n, .cls _, v, h, r => by simp [VM.isD] at h
theorem layL_of : ∀ (n : Nat) (xs : List PV) (vs : List V), VM.isDL n xs = true → RepL K F μ xs vs → PyData.canLayAll0 (toDL xs) = true ∧ PyData.depthAll (toDL xs) ≤ n
  | n, [], vs, _, r => by simp [toDL, PyData.canLayAll0, PyData.depthAll]
  | n, x :: xs, vs, h, r => by
    obtain ⟨v, w, rfl, r1, r2⟩ := repL_cons.mp r
    have h' : VM.isD n x = true ∧ VM.isDL n xs = true := by simpa [VM.isDL] using h
    have a := lay_of n x v h'.1 r1
    have b := layL_of n xs w h'.2 r2
    simp only [toDL, PyData.canLayAll0, PyData.depthAll]
    rw [Bool.and_eq_true]
    exact ⟨⟨a.1, b.1⟩, by omega⟩
end
theorem shaped_of {n : Nat} {x : PV} {v : V} (hn : n ≤ 64) (h : VM.isD n x = true) (r : Rep K F μ x v) : SeqAt.shaped (toD x) = true := by
  have z := lay_of n x v h r
  show ((toD x).canLay0 && decide ((toD x).depth ≤ 64)) = true
  rw [Bool.and_eq_true]
  exact ⟨z.1, decide_eq_true (by omega)⟩
theorem str_beq (a b : List Nat) : ((⟨a.toArray⟩ : Str) == ⟨b.toArray⟩) = (a == b) := by
  rw [Bool.eq_iff_iff]
  simp
mutual
theorem eqv_of : ∀ (n m : Nat) (x y : PV), VM.isD n x = true → VM.isD m y = true → PyData.eqv (toD x) (toD y) = VM.eqv x y
  | n, m, .non, y, h, h' => by
    cases y <;> first | (simp [VM.isD] at h'; done) | simp [toD, PyData.eqv, VM.eqv]
  | n, m, .bl b, y, h, h' => by
    cases y <;> first | (simp [VM.isD] at h'; done) | simp [toD, PyData.eqv, VM.eqv]
  | n, m, .int i, y, h, h' => by
    cases y <;> first | (simp [VM.isD] at h'; done) | simp [toD, PyData.eqv, VM.eqv]
  | n, m, .str s, y, h, h' => by
    cases y <;> first | (simp [VM.isD] at h'; done) | (simp only [toD, PyData.eqv, VM.eqv, str_beq])
  | 0, m, .tup xs, y, h, h' => by simp [VM.isD] at h
  | n + 1, m, .tup xs, y, h, h' => by
    cases y with
    | tup ys =>
      cases m with
      | zero => simp [VM.isD] at h'
      | succ m =>
        simp only [toD, PyData.eqv, VM.eqv]
        exact eqvL_of n m xs ys (by simpa [VM.isD] using h) (by simpa [VM.isD] using h')
    | _ => first | (simp [VM.isD] at h'; done) | simp [toD, PyData.eqv, VM.eqv]
  | 0, m, .lst xs, y, h, h' => by simp [VM.isD] at h
  | n + 1, m, .lst xs, y, h, h' => by
    cases y with
    | lst ys =>
      cases m with
      | zero => simp [VM.isD] at h'
      | succ m =>
        simp only [toD, PyData.eqv, VM.eqv]
        exact eqvL_of n m xs ys (by simpa [VM.isD] using h) (by simpa [VM.isD] using h')
    | _ => first | (simp [VM.isD] at h'; done) | simp [toD, PyData.eqv, VM.eqv]
  | n, m, .dct _ _, y, h, h' => by simp [VM.isD] at h
  | n, m, .dctT _ _, y, h, h' => by simp [VM.isD] at h
  | n, m, .obj _ _ _, y, h, h' => by simp [VM.isD] at h
  | n, m, .scr _, y, h, h' => by simp [VM.isD] at h
  | n, m, .ref _, y, h, h' => by simp [VM.isD] at h
  | n, m, .ty _, y, h, h' => by simp [VM.isD] at h
  | n, m, .fn _, y, h, h' => by simp [VM.isD] at h
  | n, m, .cls _, y, h, h' => by simp [VM.isD] at h
theorem eqvL_of : ∀ (n m : Nat) (xs ys : List PV), VM.isDL n xs = true → VM.isDL m ys = true → PyData.eqvAll (toDL xs) (toDL ys) = VM.eqvL xs ys
  | n, m, [], ys, h, h' => by
    cases ys <;> simp [toDL, PyData.eqvAll, VM.eqvL]
  | n, m, x :: xs, ys, h, h' => by
    cases ys with
    | nil => simp [toDL, PyData.eqvAll, VM.eqvL]
    | cons y ys =>
      have a : VM.isD n x = true ∧ VM.isDL n xs = true := by simpa [VM.isDL] using h
      have b : VM.isD m y = true ∧ VM.isDL m ys = true := by simpa [VM.isDL] using h'
      simp only [toDL, PyData.eqvAll, VM.eqvL]
      rw [eqv_of n m x y a.1 b.1, eqvL_of n m xs ys a.2 b.2]
end
/-- a list of the store, as data -/
theorem frz_dp {st : Store} {n : Nat} {x : PV} {v : V} (l : Lay K G F μ st H) (h : VM.isD n (VM.frz st x) = true) (hn : n ≤ 64) (r : Rep K F μ x v) : Dp K H v (toD (VM.frz st x)) ∧ SeqAt.shaped (toD (VM.frz st x)) = true := by
  by_cases hx : ∃ i, x = .ref i
  · obtain ⟨i, rfl⟩ := hx
    obtain ⟨a, h1, rfl⟩ := rep_ref.mp r
    unfold VM.frz at h ⊢
    dsimp only at h ⊢
    split at h
    · rename_i xs e
      obtain ⟨hf, vs, h3, h4⟩ := l.obj i a _ h1 e
      cases n with
      | zero => simp [VM.isD] at h
      | succ n =>
        have hd : VM.isDL n xs = true := by simpa [VM.isD] using h
        have z := layL_of n xs vs hd h4
        refine ⟨?_, ?_⟩
        · unfold toD
          exact .lst (.inl (.inl h3)) (dpL_of l.same n xs vs hd h4)
        · show ((toD (.lst xs)).canLay0 && decide ((toD (.lst xs)).depth ≤ 64)) = true
          rw [Bool.and_eq_true]
          simp only [toD, PyData.canLay0, PyData.depth]
          exact ⟨z.1, decide_eq_true (by omega)⟩
    · simp [VM.isD] at h
  · have e : VM.frz st x = x := by
      unfold VM.frz
      split
      · exact absurd ⟨_, rfl⟩ hx
      · rfl
    rw [e] at h ⊢
    exact ⟨dp_of l.same n x v h r, shaped_of hn h r⟩
end
def R2B (K : PySem.W.Frag) (f : PV → PV → Store → (Bool → Store → Prop) → Prop) : R2 := fun x y H Q => ∃ G F μ st px py k, Lay K G F μ st H ∧ Rep K F μ px x ∧ Rep K F μ py y ∧ f px py st k ∧ KonB K G F μ k fun b H' => Q (.bl b) H'
section
variable {K : PySem.W.Frag} {G F : Hp} {μ : List Addr} {H : Hp} {st : Store}
theorem KonB.same {k : Bool → Store → Prop} {Q : Bool → Hp → Prop} {b : Bool} (hk : KonB K G F μ k Q) (l : Lay K G F μ st H) (q : k b st) : Q b H := hk b H F μ st Ext.refl l q
end
section
variable {X : Cx}
theorem c_eq (hu : X.A.units + 64 < cLine) : OpR X (compareOp .Eq) (R2B X.K VM.opEq) := by
  intro pins s σ H x y v u Q I rx ry h
  obtain ⟨G, F, μ, st, px, py, k, l, p1, p2, ⟨d1, d2, d⟩, hk⟩ := h
  obtain ⟨a1, a2⟩ := frz_dp l d1 (by decide) p1
  obtain ⟨b1, b2⟩ := frz_dp l d2 (by decide) p2
  exact op_eqD hu pins s σ H x y v u Q I rx ry ⟨_, _, a1, b1, a2, b2, by rw [eqv_of 60 60 _ _ d1 d2]; exact hk.same l d⟩
theorem c_ne (hu : X.A.units + 64 < cLine) : OpR X (compareOp .NotEq) (R2B X.K fun x y st k => VM.opEq x y st fun b st => k (!b) st) := by
  intro pins s σ H x y v u Q I rx ry h
  obtain ⟨G, F, μ, st, px, py, k, l, p1, p2, ⟨d1, d2, d⟩, hk⟩ := h
  obtain ⟨a1, a2⟩ := frz_dp l d1 (by decide) p1
  obtain ⟨b1, b2⟩ := frz_dp l d2 (by decide) p2
  exact op_neD hu pins s σ H x y v u Q I rx ry ⟨_, _, a1, b1, a2, b2, by rw [eqv_of 60 60 _ _ d1 d2]; exact hk.same l d⟩
theorem c_lt : OpR X (compareOp .Lt) (R2B X.K (VM.opCm .lt)) := by
  intro pins s σ H x y v u Q I rx ry h
  obtain ⟨G, F, μ, st, px, py, k, l, p1, p2, d, hk⟩ := h
  simp only [VM.opCm] at d
  split at d
  · obtain rfl := rep_int.mp p1
    obtain rfl := rep_int.mp p2
    exact op_lt pins s σ H _ _ v u Q I rx ry ⟨_, _, rfl, rfl, hk.same l d⟩
  · exact d.elim
theorem c_le : OpR X (compareOp .LtE) (R2B X.K (VM.opCm .le)) := by
  intro pins s σ H x y v u Q I rx ry h
  obtain ⟨G, F, μ, st, px, py, k, l, p1, p2, d, hk⟩ := h
  simp only [VM.opCm] at d
  split at d
  · obtain rfl := rep_int.mp p1
    obtain rfl := rep_int.mp p2
    exact op_le pins s σ H _ _ v u Q I rx ry ⟨_, _, rfl, rfl, hk.same l d⟩
  · exact d.elim
theorem c_gt : OpR X (compareOp .Gt) (R2B X.K (VM.opCm .gt)) := by
  intro pins s σ H x y v u Q I rx ry h
  obtain ⟨G, F, μ, st, px, py, k, l, p1, p2, d, hk⟩ := h
  simp only [VM.opCm] at d
  split at d
  · obtain rfl := rep_int.mp p1
    obtain rfl := rep_int.mp p2
    exact op_gt pins s σ H _ _ v u Q I rx ry ⟨_, _, rfl, rfl, hk.same l d⟩
  · exact d.elim
theorem c_ge : OpR X (compareOp .GtE) (R2B X.K (VM.opCm .ge)) := by
  intro pins s σ H x y v u Q I rx ry h
  obtain ⟨G, F, μ, st, px, py, k, l, p1, p2, d, hk⟩ := h
  simp only [VM.opCm] at d
  split at d
  · obtain rfl := rep_int.mp p1
    obtain rfl := rep_int.mp p2
    exact op_ge pins s σ H _ _ v u Q I rx ry ⟨_, _, rfl, rfl, hk.same l d⟩
  · exact d.elim
theorem rep_noniff {K : PySem.W.Frag} {F : Hp} {μ : List Addr} {x : PV} {v : V} (r : Rep K F μ x v) : decide (v = .non) = VM.isNon x := by
  cases x <;> unfold Rep at r
  case non => rw [r]; rfl
  case bl => rw [r]; rfl
  case int => rw [r]; rfl
  case str => rw [r.2]; rfl
  case tup => obtain ⟨a, vs, rfl, _⟩ := r; rfl
  case lst => obtain ⟨a, vs, rfl, _⟩ := r; rfl
  case dct => obtain ⟨a, vs, rfl, _⟩ := r; rfl
  case scr => obtain ⟨a, rfl, _⟩ := r; rfl
  case ref => obtain ⟨a, _, rfl⟩ := r; rfl
  case obj => obtain ⟨a, dx, vs, rfl, _⟩ := r; rfl
  all_goals exact r.elim
theorem c_isN : OpR X (compareOp .Is) (R2B X.K (VM.opCm .isN)) := by
  intro pins s σ H x y v u Q I rx ry h
  obtain ⟨G, F, μ, st, px, py, k, l, p1, p2, ⟨hy, d⟩, hk⟩ := h
  obtain rfl : py = .non := by cases py <;> first | rfl | cases hy
  obtain rfl := rep_non.mp p2
  refine op_isN pins s σ H _ _ v u Q I rx ry ⟨rfl, ?_⟩
  rw [rep_noniff p1]
  exact hk.same l d
theorem c_notN : OpR X (compareOp .IsNot) (R2B X.K (VM.opCm .notN)) := by
  intro pins s σ H x y v u Q I rx ry h
  obtain ⟨G, F, μ, st, px, py, k, l, p1, p2, ⟨hy, d⟩, hk⟩ := h
  obtain rfl : py = .non := by cases py <;> first | rfl | cases hy
  obtain rfl := rep_non.mp p2
  refine op_notN pins s σ H _ _ v u Q I rx ry ⟨rfl, ?_⟩
  rw [rep_noniff p1]
  exact hk.same l d
theorem flat_of {K : PySem.W.Frag} {F : Hp} {μ : List Addr} {x : PV} {v : V} (h : VM.isD 0 x = true) (r : Rep K F μ x v) : flatV v = true := by
  cases x <;> first | (simp [VM.isD] at h; done) | skip
  case non => rw [rep_non.mp r]; rfl
  case bl => rw [rep_bl.mp r]; rfl
  case int => rw [rep_int.mp r]; rfl
  case str => rw [(rep_str.mp r).2]; rfl
theorem flatL_of {K : PySem.W.Frag} {F : Hp} {μ : List Addr} : ∀ {xs : List PV} {vs : List V}, VM.isDL 0 xs = true → RepL K F μ xs vs → vs.all flatV = true
  | [], vs, _, r => by
    rw [repL_nil.mp r]
    rfl
  | x :: xs, vs, h, r => by
    obtain ⟨v, w, rfl, r1, r2⟩ := repL_cons.mp r
    have a : VM.isD 0 x = true ∧ VM.isDL 0 xs = true := by simpa [VM.isDL] using h
    rw [List.all_cons, flat_of a.1 r1, flatL_of a.2 r2]
    rfl
theorem eqV_of {K : PySem.W.Frag} {F : Hp} {μ : List Addr} {x y : PV} {v w : V} (h : VM.isD 0 x = true) (h' : VM.isD 0 y = true) (r : Rep K F μ x v) (r' : Rep K F μ y w) : eqV v w = VM.eqv x y := by
  cases x <;> first | (simp [VM.isD] at h; done) | skip
  all_goals cases y <;> first | (simp [VM.isD] at h'; done) | skip
  all_goals first
    | (obtain rfl := rep_non.mp r)
    | (obtain rfl := rep_bl.mp r)
    | (obtain rfl := rep_int.mp r)
    | (obtain ⟨_, rfl⟩ := rep_str.mp r)
  all_goals first
    | (obtain rfl := rep_non.mp r')
    | (obtain rfl := rep_bl.mp r')
    | (obtain rfl := rep_int.mp r')
    | (obtain ⟨_, rfl⟩ := rep_str.mp r')
  all_goals first
    | (simp [eqV, VM.eqv]; done)
    | simp only [eqV, VM.eqv, str_beq]
theorem inV_of {K : PySem.W.Frag} {F : Hp} {μ : List Addr} {x : PV} {v : V} (h : VM.isD 0 x = true) (r : Rep K F μ x v) : ∀ {ys : List PV} {ws : List V}, VM.isDL 0 ys = true → RepL K F μ ys ws → inV v ws = ys.any fun y => VM.eqv y x
  | [], ws, _, q => by
    rw [repL_nil.mp q]
    rfl
  | y :: ys, ws, h', q => by
    obtain ⟨w, w', rfl, r1, r2⟩ := repL_cons.mp q
    have a : VM.isD 0 y = true ∧ VM.isDL 0 ys = true := by simpa [VM.isDL] using h'
    have ih := inV_of h r a.2 r2
    unfold inV at ih ⊢
    rw [List.any_cons, List.any_cons, eqV_of a.1 h r1 r, ih]
theorem c_in_gen {neg : Bool} {op : CmpOp} (h1 : OpR X (compareOp op) (rIn X.K neg)) (h2 : OpR X (compareOp op) (fun x y H Q => ∃ (c : Nat) (z : Str), x = .str ⟨#[c]⟩ ∧ y = .str z ∧ Q (.bl (if neg then !decide (c ∈ z.cps.toList) else decide (c ∈ z.cps.toList))) H)) :
    OpR X (compareOp op) (R2B X.K fun x y st k => VM.opIn x y st fun b st => k (if neg then !b else b) st) := by
  intro pins s σ H x y v u Q I rx ry h
  obtain ⟨G, F, μ, st, px, py, k, l, p1, p2, d, hk⟩ := h
  unfold VM.opIn at d
  split at d
  · split at d
    · rename_i z c
      obtain ⟨_, rfl⟩ := rep_str.mp p1
      obtain ⟨_, rfl⟩ := rep_str.mp p2
      exact h2 pins s σ H _ _ v u Q I rx ry ⟨c, _, rfl, rfl, hk.same l (by simpa using d)⟩
    · exact d.elim
  · rename_i ys
    obtain ⟨d1, d2, d⟩ := d
    obtain ⟨a, ws, rfl, e, q⟩ := rep_tup.mp p2
    exact h1 pins s σ H _ _ v u Q I rx ry ⟨a, ws, rfl, .inr (l.same.seqT e), flat_of d1 p1, flatL_of d2 q, by rw [inV_of d1 p1 d2 q]; exact hk.same l d⟩
  · split at d
    · rename_i ys ea
      obtain ⟨d1, d2, d⟩ := d
      obtain ⟨a, ws, rfl, e, q⟩ := asL_rep l p2 ea
      exact h1 pins s σ H _ _ v u Q I rx ry ⟨a, ws, rfl, .inl (.inl (.inl e)), flat_of d1 p1, flatL_of d2 q, by rw [inV_of d1 p1 d2 q]; exact hk.same l d⟩
    · exact d.elim
theorem c_in : OpR X (compareOp .In) (R2B X.K (VM.opCm .isin)) := by
  have h := c_in_gen (X := X) (neg := false) (op := .In) op_in_seq op_in_sign
  intro pins s σ H x y v u Q I rx ry q
  exact h pins s σ H x y v u Q I rx ry q
theorem c_notin : OpR X (compareOp .NotIn) (R2B X.K (VM.opCm .notin)) := by
  have h := c_in_gen (X := X) (neg := true) (op := .NotIn) op_notIn_seq op_notIn_sign
  intro pins s σ H x y v u Q I rx ry q
  exact h pins s σ H x y v u Q I rx ry q
end
end VS
end
section
namespace VS
open PySem PySem.Spec PyProof.Rows L2
open VM (PV SO Store)
section
variable {X : Cx} {a b c e : Expr} {ta tb tc te : VM.TE} {t1 t2 : VM.TT} {pos : Pos} {es rest : List Expr} {tas : VM.TA}
theorem bind2B {K : PySem.W.Frag} {G F : Hp} {μ : List Addr} {σ : L2.St} {H : Hp} {ρ : VM.Env} {st : Store} {f : PV → PV → Store → (Bool → Store → Prop) → Prop} {k : Bool → Store → Prop} {Q : VK} (l : Lay K G F μ st H) (r : EnvR K F μ σ ρ) (hk : KonB K G F μ k fun b H' => Q (.bl b) H')
    (h : ta ρ st (fun u st => tb ρ st (fun v st => f u v st k) nox) nox) : tOp (R2B K f) (rE K ta) (rE K tb) σ H Q :=
  bind1 l r h fun x H1 F1 μ1 px st1 e1 l1 r1 p1 q1 => bind1 l1 r1 q1 fun y H2 F2 μ2 py st2 e2 l2 r2 p2 q2 => ⟨G, F2, μ2, st2, px, py, k, l2, p1.mono e2, p2, q2, hk.mono (e1.trans e2)⟩
theorem kon_b {K : PySem.W.Frag} {G F : Hp} {μ : List Addr} {k : VM.KV} {Q : VK} (hk : Kon K G F μ k Q) : KonB K G F μ (fun r st => k (.bl r) st) fun b H' => Q (.bl b) H' := fun b H' F' μ' st' e l q => hk (.bl b) H' F' μ' (.bl b) st' e l (rep_bl.mpr rfl) q
theorem ve_cmp {op : CmpOp} {o : VM.Cm} (ho : OpR X (compareOp op) (R2B X.K (VM.opCm o))) (ha : VE X a ta) (hb : VE X b tb) (hm : behindInMarks op b = false) : VE X (.Compare a [op] [b] pos) (VM.eCmp o ta tb) := pe_imp (pe_cmpR ho ha hb hm) fun σ H Q h => by
  obtain ⟨G, F, μ, ρ, st, k, l, r, d, hk⟩ := h
  exact bind2B l r (kon_b hk) d
theorem vt_cmp {op : CmpOp} {o : VM.Cm} (ho : OpR X (compareOp op) (R2B X.K (VM.opCm o))) (ha : VE X a ta) (hb : VE X b tb) (hm : behindInMarks op b = false) : VT X (.Compare a [op] [b] pos) (VM.tCmp o ta tb) := pt_imp (pt_cmpR ho ha hb hm) fun σ H Q h => by
  obtain ⟨G, F, μ, ρ, st, k, l, r, d, hk⟩ := h
  exact bind2B (Q := fun x H' => ∃ k, x = .bl k ∧ Q k H') l r (fun b H' F' μ' st' e l q => ⟨b, rfl, hk b H' F' μ' st' e l q⟩) d
theorem chain_aux {K : PySem.W.Frag} {G F : Hp} {μ : List Addr} {σ : L2.St} {H : Hp} {ρ : VM.Env} {st : Store} {o o' : VM.Cm} {k : Bool → Store → Prop} {Q : VK} (l : Lay K G F μ st H) (r : EnvR K F μ σ ρ) (hk : KonB K G F μ k fun b H' => Q (.bl b) H')
    (h : VM.tChain o o' ta tb tc ρ st k nox) : tChain (R2B K (VM.opCm o)) (R2B K (VM.opCm o')) (rE K ta) (rE K tb) (rE K tc) σ H Q :=
  bind1 l r h fun x H1 F1 μ1 px st1 e1 l1 r1 p1 q1 => bind1 l1 r1 q1 fun y H2 F2 μ2 py st2 e2 l2 r2 p2 q2 =>
    ⟨G, F2, μ2, st2, px, py, _, l2, p1.mono e2, p2, q2, fun b H3 F3 μ3 st3 e3 l3 q3 => ⟨b, rfl, by
      cases b with
      | true =>
        rw [if_pos rfl] at q3 ⊢
        exact bind1 l3 (r2.mono e3) q3 fun z H4 F4 μ4 pz st4 e4 l4 r4 p4 q4 => ⟨G, F4, μ4, st4, py, pz, k, l4, p2.mono (e3.trans e4), p4, q4, hk.mono (e1.trans (e2.trans (e3.trans e4)))⟩
      | false =>
        rw [if_neg Bool.false_ne_true] at q3 ⊢
        exact (hk.mono (e1.trans (e2.trans e3))).same l3 q3⟩⟩
theorem ve_chain {op op' : CmpOp} {o o' : VM.Cm} (ho : OpR X (compareOp op) (R2B X.K (VM.opCm o))) (ho' : OpR X (compareOp op') (R2B X.K (VM.opCm o'))) (ha : VE X a ta) (hb : VE X b tb) (hc : VE X c tc) (hm : lastMarks [op, op'] [b, c] = false) :
    VE X (.Compare a [op, op'] [b, c] pos) (VM.eChain o o' ta tb tc) := pe_imp (pe_chain ho ho' ha hb hc hm) fun σ H Q h => by
  obtain ⟨G, F, μ, ρ, st, k, l, r, d, hk⟩ := h
  exact chain_aux l r (kon_b hk) d
theorem vt_chain {op op' : CmpOp} {o o' : VM.Cm} (ho : OpR X (compareOp op) (R2B X.K (VM.opCm o))) (ho' : OpR X (compareOp op') (R2B X.K (VM.opCm o'))) (ha : VE X a ta) (hb : VE X b tb) (hc : VE X c tc) (hm : lastMarks [op, op'] [b, c] = false) :
    VT X (.Compare a [op, op'] [b, c] pos) (VM.tChain o o' ta tb tc) := pt_imp (pt_chain ho ho' ha hb hc hm) fun σ H Q h => by
  obtain ⟨G, F, μ, ρ, st, k, l, r, d, hk⟩ := h
  exact chain_aux (Q := fun x H' => ∃ k, x = .bl k ∧ Q k H') l r (fun b H' F' μ' st' e l q => ⟨b, rfl, hk b H' F' μ' st' e l q⟩) d

theorem truth_rep {K : PySem.W.Frag} {G F : Hp} {μ : List Addr} {H : Hp} {st : Store} {x : PV} {v : V} {b : Bool} (l : Lay K G F μ st H) (r : Rep K F μ x v) (h : VM.truth st x = some b) : TruV K v H b := by
  cases x <;> simp only [VM.truth] at h
  case non => cases h; rw [rep_non.mp r]; exact rfl
  case bl => cases h; rw [rep_bl.mp r]; exact rfl
  case int i =>
    cases h
    rw [rep_int.mp r]
    show decide (i ≠ 0) = (i != 0)
    rw [Bool.eq_iff_iff]
    simp
  case str s =>
    cases h
    obtain ⟨o, rfl⟩ := rep_str.mp r
    refine ⟨by rw [sizeLine_eq]; simpa [Str.length] using o.1, ?_⟩
    cases s with
    | nil => rfl
    | cons c s =>
      simp only [Str.length, List.isEmpty_cons, Bool.not_false]
      symm
      rw [bne_iff_ne]
      simp
      omega
  case tup xs =>
    cases h
    obtain ⟨a, vs, rfl, e, q⟩ := rep_tup.mp r
    refine .inr (.inl ⟨vs, l.same.seqT e, ?_⟩)
    have := q.length
    cases xs <;> cases vs <;> first | rfl | simp at this
  case lst xs =>
    cases h
    obtain ⟨a, vs, rfl, e, q⟩ := rep_lst.mp r
    refine .inl ⟨vs, .inl (.inl (l.same _ _ e)), ?_⟩
    have := q.length
    cases xs <;> cases vs <;> first | rfl | simp at this
  case dct ks xs =>
    cases h
    unfold Rep at r
    obtain ⟨a, kvs, rfl, e, rfl, _⟩ := r
    refine .inr (.inr ⟨kvs, l.same _ _ e, ?_⟩)
    cases kvs <;> rfl
  case dctT => unfold Rep at r; exact r.elim
  case ref i =>
    obtain ⟨a, h1, rfl⟩ := rep_ref.mp r
    split at h
    · rename_i xs e
      cases h
      obtain ⟨_, vs, h2, q⟩ := l.obj i a _ h1 e
      refine .inl ⟨vs, .inl (.inl h2), ?_⟩
      have := q.length
      cases xs <;> cases vs <;> first | rfl | simp at this
    · rename_i ks xs e
      cases h
      obtain ⟨_, kvs, h2, rfl, q⟩ := l.obj i a _ h1 e
      refine .inr (.inr ⟨kvs, h2, ?_⟩)
      cases kvs <;> rfl
    · rename_i ks xs e
      exact (l.obj i a _ h1 e).elim
    · cases h
  all_goals cases h
theorem vt_of (ha : VE X a ta) (he : ∀ whole, isTrue a X.env whole = (do let v ← whole; standAt a.pos; holding [v] (truthy v)) := by intro _; rfl) : VT X a (VM.tOf ta) := pt_imp (pt_truth ha he) fun σ H Q h => by
  obtain ⟨G, F, μ, ρ, st, k, l, r, d, hk⟩ := h
  refine bind1 l r d fun x H1 F1 μ1 px st1 e1 l1 r1 p1 q1 => ?_
  split at q1
  · rename_i b eb
    exact ⟨b, truth_rep l1 p1 eb, (hk.mono e1).same l1 q1⟩
  · exact q1.elim
abbrev VW (X : Cx) (e : Expr) (t : VM.TT) : Prop := PW X e (rT X.K t)
theorem vw_and1 (ha : VT X a t1) : VW X (.BoolOp .And [a] pos) t1 := pw_and1 ha
theorem vw_or1 (ha : VT X a t1) : VW X (.BoolOp .Or [a] pos) t1 := pw_or1 ha
theorem vw_and (ha : VT X a t1) (hb : VW X (.BoolOp .And (b :: rest) pos) t2) : VW X (.BoolOp .And (a :: b :: rest) pos) (VM.tAnd t1 t2) := pw_imp (pw_and ha hb) fun σ H Q h => by
  obtain ⟨G, F, μ, ρ, st, k, l, r, d, hk⟩ := h
  refine bindT l r d fun b H1 F1 μ1 st1 e1 l1 r1 q1 => ?_
  cases b with
  | true =>
    rw [if_pos rfl] at q1 ⊢
    exact bindT l1 r1 q1 fun b H2 F2 μ2 st2 e2 l2 r2 q2 => (hk.mono (e1.trans e2)).same l2 q2
  | false =>
    rw [if_neg Bool.false_ne_true] at q1 ⊢
    exact (hk.mono e1).same l1 q1
theorem vw_or (ha : VT X a t1) (hb : VW X (.BoolOp .Or (b :: rest) pos) t2) : VW X (.BoolOp .Or (a :: b :: rest) pos) (VM.tOr t1 t2) := pw_imp (pw_or ha hb) fun σ H Q h => by
  obtain ⟨G, F, μ, ρ, st, k, l, r, d, hk⟩ := h
  refine bindT l r d fun b H1 F1 μ1 st1 e1 l1 r1 q1 => ?_
  cases b with
  | true =>
    rw [if_pos rfl] at q1 ⊢
    exact (hk.mono e1).same l1 q1
  | false =>
    rw [if_neg Bool.false_ne_true] at q1 ⊢
    exact bindT l1 r1 q1 fun b H2 F2 μ2 st2 e2 l2 r2 q2 => (hk.mono (e1.trans e2)).same l2 q2
theorem vt_w (h : VW X e t1) : VT X e t1 := h.pt
theorem vt_not (ha : VT X a t1) : VT X (.UnaryOp .Not a pos) (VM.tNot t1) := pt_imp (pt_not ha) fun σ H Q h => by
  obtain ⟨G, F, μ, ρ, st, k, l, r, d, hk⟩ := h
  exact bindT l r d fun b H1 F1 μ1 st1 e1 l1 r1 q1 => (hk.mono e1).same l1 q1
theorem ve_one {op : PySem.BoolOp} (h : VE X a ta) : VE X (.BoolOp op [a] pos) ta := pe_one h
theorem ve_and (ha : VE X a ta) (hb : VE X (.BoolOp .And (b :: rest) pos) tb) : VE X (.BoolOp .And (a :: b :: rest) pos) (VM.eAnd ta tb) := pe_imp (pe_andT ha hb) fun σ H Q h => by
  obtain ⟨G, F, μ, ρ, st, k, l, r, d, hk⟩ := h
  refine bind1 l r d fun x H1 F1 μ1 px st1 e1 l1 r1 p1 q1 => ?_
  split at q1
  · rename_i eb
    refine ⟨true, truth_rep l1 p1 eb, ?_⟩
    rw [if_pos rfl]
    exact bind1 l1 r1 q1 fun y H2 F2 μ2 py st2 e2 l2 r2 p2 q2 => (hk.mono (e1.trans e2)).same l2 p2 q2
  · rename_i eb
    refine ⟨false, truth_rep l1 p1 eb, ?_⟩
    rw [if_neg Bool.false_ne_true]
    exact (hk.mono e1).same l1 p1 q1
  · exact q1.elim
theorem ve_or (ha : VE X a ta) (hb : VE X (.BoolOp .Or (b :: rest) pos) tb) : VE X (.BoolOp .Or (a :: b :: rest) pos) (VM.eOr ta tb) := pe_imp (pe_orT ha hb) fun σ H Q h => by
  obtain ⟨G, F, μ, ρ, st, k, l, r, d, hk⟩ := h
  refine bind1 l r d fun x H1 F1 μ1 px st1 e1 l1 r1 p1 q1 => ?_
  split at q1
  · rename_i eb
    refine ⟨false, truth_rep l1 p1 eb, ?_⟩
    rw [if_neg Bool.false_ne_true]
    exact bind1 l1 r1 q1 fun y H2 F2 μ2 py st2 e2 l2 r2 p2 q2 => (hk.mono (e1.trans e2)).same l2 p2 q2
  · rename_i eb
    refine ⟨true, truth_rep l1 p1 eb, ?_⟩
    rw [if_pos rfl]
    exact (hk.mono e1).same l1 p1 q1
  · exact q1.elim
theorem ve_not (ha : VE X a ta) : VE X (.UnaryOp .Not a pos) (VM.eNot ta) := pe_imp (pe_notT ha) fun σ H Q h => by
  obtain ⟨G, F, μ, ρ, st, k, l, r, d, hk⟩ := h
  refine bind1 l r d fun x H1 F1 μ1 px st1 e1 l1 r1 p1 q1 => ?_
  split at q1
  · rename_i b eb
    exact ⟨b, truth_rep l1 p1 eb, (hk.mono e1).same l1 (rep_bl.mpr rfl) q1⟩
  · exact q1.elim
theorem ve_if (hc : VT X c t1) (ha : VE X a ta) (hb : VE X b tb) : VE X (.IfExp c a b pos) (VM.eIf t1 ta tb) := pe_imp (pe_ifExp hc ha hb) fun σ H Q h => by
  obtain ⟨G, F, μ, ρ, st, k, l, r, d, hk⟩ := h
  refine bindT l r d fun b H1 F1 μ1 st1 e1 l1 r1 q1 => ?_
  cases b with
  | true =>
    rw [if_pos rfl] at q1 ⊢
    exact bind1 l1 r1 q1 fun y H2 F2 μ2 py st2 e2 l2 r2 p2 q2 => (hk.mono (e1.trans e2)).same l2 p2 q2
  | false =>
    rw [if_neg Bool.false_ne_true] at q1 ⊢
    exact bind1 l1 r1 q1 fun y H2 F2 μ2 py st2 e2 l2 r2 p2 q2 => (hk.mono (e1.trans e2)).same l2 p2 q2

theorem va_nil : VA X [] VM.aNil := pa_imp pa_nil fun σ H Q h => by
  obtain ⟨G, F, μ, ρ, st, k, l, r, d, hk⟩ := h
  exact hk [] H F μ [] st Ext.refl l (repL_nil.mpr rfl) d
theorem va_cons (ha : VE X a ta) (hr : VA X es tas) (hs : starEach (a :: es) X.env = (false, eval a X.env) :: starEach es X.env := by rfl) : VA X (a :: es) (VM.aCons ta tas) := pa_imp (pa_cons ha hr hs) fun σ H Q h => by
  obtain ⟨G, F, μ, ρ, st, k, l, r, d, hk⟩ := h
  exact bind1 l r d fun x H1 F1 μ1 px st1 e1 l1 r1 p1 q1 => bindA l1 r1 q1 fun xs H2 F2 μ2 pxs st2 e2 l2 r2 p2 q2 =>
    hk (x :: xs) H2 F2 μ2 (px :: pxs) st2 (e1.trans e2) l2 (repL_cons.mpr ⟨x, xs, rfl, p1.mono e2, p2⟩) q2
theorem ve_lst (h : VA X es tas) : VE X (.List es pos) (VM.eLst tas) := pe_imp (pe_lst h) fun σ H Q h => by
  obtain ⟨G, F, μ, ρ, st, k, l, r, d, hk⟩ := h
  exact bindA l r d fun xs H1 F1 μ1 pxs st1 e1 l1 r1 p1 q1 => ⟨by rw [sizeLine_eq, p1.length]; exact q1.1, (hk.mono e1).lst l1 p1 q1.2⟩
theorem ve_lstM (h : VA X es tas) : VE X (.List es pos) (VM.eLstM tas) := pe_imp (pe_lst h) fun σ H Q h => by
  obtain ⟨G, F, μ, ρ, st, k, l, r, d, hk⟩ := h
  exact bindA l r d fun xs H1 F1 μ1 pxs st1 e1 l1 r1 p1 q1 => ⟨by rw [sizeLine_eq, p1.length]; exact q1.1, (hk.mono e1).lstM l1 p1 q1.2⟩
theorem ve_tup {kt : Nat} (h : VA X es tas) : VE X (.Tuple es kt pos) (VM.eTup tas) := pe_imp (pe_tup h) fun σ H Q h => by
  obtain ⟨G, F, μ, ρ, st, k, l, r, d, hk⟩ := h
  exact bindA l r d fun xs H1 F1 μ1 pxs st1 e1 l1 r1 p1 q1 => ⟨by rw [sizeLine_eq, p1.length]; exact q1.1, (hk.mono e1).tup l1 p1 q1.2⟩

theorem ix_ixN (n : Nat) (i : Int) : VM.ix n i = ixN n i := rfl
theorem atI_of {K : PySem.W.Frag} {F : Hp} {μ : List Addr} {xs : List PV} {vs : List V} {i : Int} {n : Nat} {y : PV} (r : RepL K F μ xs vs) (h : VM.ix xs.length i = some n) (hy : xs[n]? = some y) : ∃ v, atI vs i = some v ∧ Rep K F μ y v := by
  obtain ⟨v, h1, h2⟩ := r.get hy
  refine ⟨v, ?_, h2⟩
  unfold atI
  rw [r.length, ← ix_ixN, h]
  exact h1
theorem ix_dyn : IxR X (R2of X.K VM.getIx) := by
  intro value slice pins s σ H x y v u Q I rx ry h hs
  obtain ⟨G, F, μ, st, px, py, k, l, p1, p2, d, hk⟩ := h
  unfold VM.getIx at d
  split at d
  · rename_i i
    obtain rfl := rep_int.mp p2
    split at d
    · rename_i xs
      obtain ⟨a, vs, rfl, e, q⟩ := rep_tup.mp p1
      split at d
      · rename_i n en
        split at d
        · rename_i z ez
          obtain ⟨w, h1, h2⟩ := atI_of q en ez
          exact ix_tup value slice pins s σ H _ _ v u Q I rx ry ⟨a, vs, i, w, rfl, rfl, l.same.seqT e, h1, hk.same l h2 d⟩ hs
        · exact d.elim
      · exact d.elim
    · rename_i z
      obtain ⟨o, rfl⟩ := rep_str.mp p1
      split at d
      · rename_i n en
        split at d
        · rename_i c ez
          refine ix_str value slice pins s σ H _ _ v u Q I rx ry ⟨_, i, c, rfl, rfl, by rw [sizeLine_eq]; simpa [Str.length] using o.1, ?_, ?_⟩ hs
          · unfold atI
            rw [← ix_ixN, en]
            exact ez
          · exact hk.same l (rep_str.mpr ⟨⟨by simp, fun c' hc => by
              have e' : c' = c := by simpa using hc
              rw [e']
              exact o.2 c (List.mem_of_getElem? ez)⟩, rfl⟩) d
        · exact d.elim
      · exact d.elim
    · split at d
      · rename_i xs ea
        obtain ⟨a, vs, rfl, e, q⟩ := asL_rep l p1 ea
        split at d
        · rename_i n en
          split at d
          · rename_i z ez
            obtain ⟨w, h1, h2⟩ := atI_of q en ez
            exact ix_list value slice pins s σ H _ _ v u Q I rx ry ⟨a, vs, i, w, rfl, rfl, .inl (.inl e), h1, hk.same l h2 d⟩ hs
          · exact d.elim
        · exact d.elim
      · exact d.elim
  · exact d.elim
theorem ve_ix (ha : VE X a ta) (hb : VE X b tb) (hs : PlainIx b := by exact fun _ _ => rfl) : VE X (.Subscript a b pos) (VM.eIx ta tb) := pe_imp (pe_ix ix_dyn ha hb hs) fun σ H Q h => by
  obtain ⟨G, F, μ, ρ, st, k, l, r, d, hk⟩ := h
  exact bind2 l r hk d
theorem repL_ints {K : PySem.W.Frag} {F : Hp} {μ : List Addr} : ∀ is : List Int, RepL K F μ (is.map PV.int) (is.map V.int)
  | [] => repL_nil.mpr rfl
  | i :: is => repL_cons.mpr ⟨_, _, rfl, rep_int.mpr rfl, repL_ints is⟩
theorem cutIx_eq (n d : Nat) (o : Option Int) : VM.cutIx n d o = HT.sIx n d o := by cases o <;> rfl
theorem RepL.slc {K : PySem.W.Frag} {F : Hp} {μ : List Addr} {xs : List PV} {vs : List V} (r : RepL K F μ xs vs) (lo hi : Option Int) : RepL K F μ (VM.slc xs lo hi) (cutV vs lo hi) := by
  unfold VM.slc cutV
  rw [cutIx_eq, cutIx_eq, r.length]
  exact (r.drop _).take _
def SlOf (K : PySem.W.Frag) : V → Option Int → Option Int → Hp → VK → Prop := fun x lo hi H Q => ∃ G F μ st px k, Lay K G F μ st H ∧ Rep K F μ px x ∧ VM.getSl px lo hi st k ∧ Kon K G F μ k Q
theorem sl_dyn : SlR X (SlOf X.K) := by
  intro pins s σ H x v vl vu lo hi sl Q I rx hs pl pu h
  obtain ⟨G, F, μ, st, px, k, l, p1, d, hk⟩ := h
  unfold VM.getSl at d
  split at d
  · rename_i xs
    obtain ⟨a, vs, rfl, e, q⟩ := rep_tup.mp p1
    refine sl_tupA pins s σ H _ v vl vu lo hi sl Q I rx hs pl pu ⟨a, vs, rfl, l.same.seqT e, fun z => ?_, fun _ => hk.tup l (q.slc lo hi) d⟩
    have e2 : VM.slc xs lo hi = xs := by
      unfold VM.slc
      rw [cutIx_eq, cutIx_eq, ← q.length, z.1, z.2, List.drop_zero, q.length]
      simp
    rw [e2] at d
    exact hk.same l (rep_tup.mpr ⟨a, vs, rfl, e, q⟩) d
  · rename_i z
    obtain ⟨o, rfl⟩ := rep_str.mp p1
    refine sl_str pins s σ H _ v vl vu lo hi sl Q I rx hs pl pu ⟨_, rfl, by rw [sizeLine_eq]; simpa [Str.length] using o.1, ?_⟩
    have e : cutS ⟨z.toArray⟩ lo hi = ⟨(VM.slc z lo hi).toArray⟩ := by
      unfold cutS VM.slc
      rw [cutIx_eq, cutIx_eq]
      simp [Str.length]
    rw [e]
    refine hk.same l (rep_str.mpr ⟨⟨?_, fun c hc => o.2 c (List.mem_of_mem_drop (List.mem_of_mem_take hc))⟩, rfl⟩) d
    have := o.1
    rw [List.length_take, List.length_drop]
    omega
  · rename_i is
    obtain ⟨a, rfl, e⟩ := rep_scr.mp p1
    refine sl_list pins s σ H _ v vl vu lo hi sl Q I rx hs pl pu ⟨a, _, rfl, l.same.seqL e, hk.lst l (RepL.slc (repL_ints is) lo hi) d⟩
  · split at d
    · rename_i xs ea
      obtain ⟨a, vs, rfl, e, q⟩ := asL_rep l p1 ea
      exact sl_list pins s σ H _ v vl vu lo hi sl Q I rx hs pl pu ⟨a, vs, rfl, .inl (.inl e), hk.lst l (q.slc lo hi) d⟩
    · exact d.elim
end
end VS
end
section
namespace VS
open PySem PySem.Spec PyProof.Rows L2
open VM (PV SO Store)
section
variable {X : Cx} {a b c e : Expr} {ta tb tc te : VM.TE} {t1 t2 : VM.TT} {pos p2 p : Pos} {es rest : List Expr} {tas : VM.TA} {x : Str}
def KonO (K : PySem.W.Frag) (G F : Hp) (μ : List Addr) (k : Option Int → Store → Prop) (Q : Option Int → Hp → Prop) : Prop := ∀ (o : Option Int) (H' F' : Hp) (μ' : List Addr) (st' : Store), Ext F μ F' μ' → Lay K G F' μ' st' H' → k o st' → Q o H'
abbrev VTO := VM.Env → Store → (Option Int → Store → Prop) → VM.KV → Prop
def partOf : Option VM.TE → VTO
  | none => fun ρ st k x => k none st
  | some e => fun ρ st k x => e ρ st (fun v st => match v with | .int i => k (some i) st | _ => False) x
def rO (K : PySem.W.Frag) (t : VTO) : TO := fun σ H Q => ∃ G F μ ρ st k, Lay K G F μ st H ∧ EnvR K F μ σ ρ ∧ t ρ st k nox ∧ KonO K G F μ k Q
theorem vo_none : PO X none (rO X.K (partOf none)) := ⟨fun pins s σ H Q I h => po_none.run pins s σ H Q I (by
  obtain ⟨G, F, μ, ρ, st, k, l, r, d, hk⟩ := h
  exact hk none H F μ st Ext.refl l d)⟩
theorem vo_some (h : VE X e te) : PO X (some e) (rO X.K (partOf (some te))) := ⟨fun pins s σ H Q I q => (po_some h).run pins s σ H Q I (by
  obtain ⟨G, F, μ, ρ, st, k, l, r, d, hk⟩ := q
  refine bind1 l r d fun x H1 F1 μ1 px st1 e1 l1 r1 p1 q1 => ?_
  split at q1
  · obtain rfl := rep_int.mp p1
    exact ⟨_, rfl, hk _ H1 F1 μ1 st1 e1 l1 q1⟩
  · exact q1.elim)⟩
theorem ve_sl {lo hi : Option Expr} {tl th : Option VM.TE} (he : VE X e te) (hl : PO X lo (rO X.K (partOf tl))) (hh : PO X hi (rO X.K (partOf th))) : VE X (.Subscript e (.Slice lo hi none p2) pos) (VM.eSl te tl th) := pe_imp (pe_slice sl_dyn he hl hh) fun σ H Q h => by
  obtain ⟨G, F, μ, ρ, st, k, l, r, d, hk⟩ := h
  refine bind1 l r d fun x H1 F1 μ1 px st1 e1 l1 r1 p1 q1 => ?_
  refine ⟨G, F1, μ1, ρ, st1, fun lo st2 => partOf th ρ st2 (fun hi st3 => VM.getSl px lo hi st3 k) nox, l1, r1, ?_, ?_⟩
  · cases tl <;> cases th <;> exact q1
  · intro lo' H2 F2 μ2 st2 e2 l2 q2
    refine ⟨G, F2, μ2, ρ, st2, _, l2, r1.mono e2, q2, ?_⟩
    intro hi' H3 F3 μ3 st3 e3 l3 q3
    exact ⟨G, F3, μ3, st3, px, k, l3, p1.mono (e2.trans e3), q3, hk.mono (e1.trans (e2.trans e3))⟩

theorem ve_b1 {id : String} {r : List V → Hp → VK → Prop} {f : PV → Store → VM.KV → Prop} (hc : CallR X (.builtin id) r)
    (hf : ∀ G F μ st H px v k Q, Lay X.K G F μ st H → Rep X.K F μ px v → f px st k → Kon X.K G F μ k Q → r [v] H Q)
    (ha : VE X a ta) (hg : Gl X x) (hm : X.mg x = none) (hv : bootBuiltins x = some (.builtin id)) (hn : x ≠ "__name__" := by decide) (hdb : (x == ("__debug__" : Str)) = false := by decide)
    (he : starEach [a] X.env = (false, eval a X.env) :: starEach [] X.env := by rfl) : VE X (.Call (.Name x p) [a] [] pos) (VM.eB1 f ta) :=
  pe_imp (pe_callB hc hg hm hv (pa_cons ha pa_nil he) hn hdb he rfl) fun σ H Q h => by
    obtain ⟨G, F, μ, ρ, st, k, l, r, d, hk⟩ := h
    exact bind1 l r d fun x H1 F1 μ1 px st1 e1 l1 r1 p1 q1 => hf G F1 μ1 st1 H1 px x k Q l1 p1 q1 (hk.mono e1)
theorem ve_t1 {T : String} {r : List V → Hp → VK → Prop} {f : PV → Store → VM.KV → Prop} (hc : CallR X (.type T) r)
    (hf : ∀ G F μ st H px v k Q, Lay X.K G F μ st H → Rep X.K F μ px v → f px st k → Kon X.K G F μ k Q → r [v] H Q)
    (ha : VE X a ta) (hg : Gl X x) (hm : X.mg x = none) (hv : bootBuiltins x = some (.type T)) (hn : x ≠ "__name__" := by decide) (hdb : (x == ("__debug__" : Str)) = false := by decide)
    (he : starEach [a] X.env = (false, eval a X.env) :: starEach [] X.env := by rfl) : VE X (.Call (.Name x p) [a] [] pos) (VM.eB1 f ta) :=
  pe_imp (pe_callTy hc hg hm hv (pa_cons ha pa_nil he) hn hdb he rfl) fun σ H Q h => by
    obtain ⟨G, F, μ, ρ, st, k, l, r, d, hk⟩ := h
    exact bind1 l r d fun x H1 F1 μ1 px st1 e1 l1 r1 p1 q1 => hf G F1 μ1 st1 H1 px x k Q l1 p1 q1 (hk.mono e1)
theorem seqOf_rep {K : PySem.W.Frag} {G F : Hp} {μ : List Addr} {H : Hp} {st : Store} {px : PV} {v : V} {xs : List PV} (l : Lay K G F μ st H) (r : Rep K F μ px v) (h : VM.seqOf st px = some xs) : ∃ a vs, v = .ref a ∧ RepL K F μ xs vs ∧ ((∃ ys, px = .tup ys ∧ SqT K F a vs) ∨ ((¬ ∃ ys, px = .tup ys) ∧ H a = some (.lst vs))) := by
  by_cases hx : ∃ ys, px = .tup ys
  · obtain ⟨ys, rfl⟩ := hx
    cases h
    obtain ⟨a, vs, rfl, e, q⟩ := rep_tup.mp r
    exact ⟨a, vs, rfl, q, .inl ⟨_, rfl, e⟩⟩
  · have h' : VM.asL st px = some xs := by
      unfold VM.seqOf at h
      split at h
      · exact absurd ⟨_, rfl⟩ hx
      · exact h
    obtain ⟨a, vs, rfl, e, q⟩ := asL_rep l r h'
    exact ⟨a, vs, rfl, q, .inr ⟨hx, e⟩⟩
theorem f_len {G F : Hp} {μ : List Addr} {st : Store} {H : Hp} {px : PV} {v : V} {k : VM.KV} {Q : VK} (l : Lay X.K G F μ st H) (r : Rep X.K F μ px v) (d : VM.fLen px st k) (hk : Kon X.K G F μ k Q) :
    (fun xs H Q => (∃ x n, xs = [x] ∧ LenV X.K x H n ∧ Q (.int n) H) ∨ (∃ a kvs, xs = [V.ref a] ∧ H a = some (.dK kvs) ∧ Q (.int kvs.length) H)) [v] H Q := by
  unfold VM.fLen at d
  split at d
  · rename_i n en
    have fin : ∀ {m : Nat}, m = n → Q (.int m) H := fun e => hk.same l (rep_int.mpr (by rw [e])) d
    cases px <;> simp only [VM.bLen, VM.asL] at en <;> try (cases en; done)
    case str s =>
      cases en
      obtain ⟨o, rfl⟩ := rep_str.mp r
      exact .inl ⟨_, _, rfl, ⟨by rw [sizeLine_eq]; simpa [Str.length] using o.1, rfl⟩, fin (by simp [Str.length])⟩
    case tup xs =>
      cases en
      obtain ⟨a, vs, rfl, e, q⟩ := rep_tup.mp r
      exact .inl ⟨_, _, rfl, .inr ⟨vs, l.same.seqT e, rfl⟩, fin q.length⟩
    case lst xs =>
      cases en
      obtain ⟨a, vs, rfl, e, q⟩ := rep_lst.mp r
      exact .inl ⟨_, _, rfl, .inl ⟨vs, .inl (.inl (l.same _ _ e)), rfl⟩, fin q.length⟩
    case dct ks xs =>
      cases en
      unfold Rep at r
      obtain ⟨a, kvs, rfl, e, rfl, _⟩ := r
      exact .inr ⟨a, kvs, rfl, l.same _ _ e, fin (by simp)⟩
    case dctT => unfold Rep at r; exact r.elim
    case ref i =>
      obtain ⟨a, h1, rfl⟩ := rep_ref.mp r
      cases eo : st[i]? with
      | none => simp [eo] at en
      | some o =>
        rw [eo] at en
        have ho := l.obj i a o h1 eo
        cases o with
        | lst xs =>
          cases en
          obtain ⟨_, vs, h2, q⟩ := ho
          exact .inl ⟨_, _, rfl, .inl ⟨vs, .inl (.inl h2), rfl⟩, fin q.length⟩
        | dct ks xs =>
          cases en
          obtain ⟨_, kvs, h2, rfl, q⟩ := ho
          exact .inr ⟨a, kvs, rfl, h2, fin (by simp)⟩
        | dctT => exact ho.elim
        | ins => simp at en
        | dead => simp at en
  · exact d.elim
theorem ve_len (ha : VE X a ta) (hg : Gl X "len") (hm : X.mg "len" = none) (he : starEach [a] X.env = (false, eval a X.env) :: starEach [] X.env := by rfl) : VE X (.Call (.Name "len" p) [a] [] pos) (VM.eB1 VM.fLen ta) :=
  ve_b1 (call_len.or call_lenD) (fun G F μ st H px v k Q l r d hk => f_len l r d hk) ha hg hm PySem.boot_len (he := he)
theorem ve_abs (ha : VE X a ta) (hg : Gl X "abs") (hm : X.mg "abs" = none) (he : starEach [a] X.env = (false, eval a X.env) :: starEach [] X.env := by rfl) : VE X (.Call (.Name "abs" p) [a] [] pos) (VM.eB1 VM.fAbs ta) :=
  ve_b1 call_abs (fun G F μ st H px v k Q l r d hk => by
    unfold VM.fAbs at d
    split at d
    · rename_i i
      obtain rfl := rep_int.mp r
      refine ⟨i, rfl, hk.same l (rep_int.mpr ?_) d⟩
      congr 1
      split <;> omega
    · exact d.elim) ha hg hm boot_abs (he := he)
theorem ve_int_ (ha : VE X a ta) (hg : Gl X "int") (hm : X.mg "int" = none) (he : starEach [a] X.env = (false, eval a X.env) :: starEach [] X.env := by rfl) : VE X (.Call (.Name "int" p) [a] [] pos) (VM.eB1 VM.fInt ta) :=
  ve_t1 call_int1 (fun G F μ st H px v k Q l r d hk => by
    unfold VM.fInt at d
    split at d
    · rename_i i
      obtain rfl := rep_int.mp r
      exact .inl ⟨i, rfl, hk.same l (rep_int.mpr rfl) d⟩
    · rename_i i
      obtain rfl := rep_bl.mp r
      exact .inr ⟨i, rfl, hk.same l (rep_int.mpr rfl) d⟩
    · exact d.elim) ha hg hm boot_int (he := he)
theorem ve_list (ha : VE X a ta) (hg : Gl X "list") (hm : X.mg "list" = none) (he : starEach [a] X.env = (false, eval a X.env) :: starEach [] X.env := by rfl) : VE X (.Call (.Name "list" p) [a] [] pos) (VM.eB1 VM.fList ta) :=
  ve_t1 call_list_of (fun G F μ st H px v k Q l r d hk => by
    unfold VM.fList at d
    split at d
    · rename_i xs ex
      obtain ⟨a, vs, rfl, q, h⟩ := seqOf_rep l r ex
      refine ⟨a, vs, rfl, ?_, hk.lst l q d⟩
      rcases h with ⟨_, _, h⟩ | ⟨_, h⟩
      · exact .inr (l.same.seqT h)
      · exact .inl (.inl (.inl h))
    · exact d.elim) ha hg hm boot_list (he := he)
theorem ve_listM (ha : VE X a ta) (hg : Gl X "list") (hm : X.mg "list" = none) (he : starEach [a] X.env = (false, eval a X.env) :: starEach [] X.env := by rfl) : VE X (.Call (.Name "list" p) [a] [] pos) (VM.eB1 VM.fListM ta) :=
  ve_t1 call_list_of (fun G F μ st H px v k Q l r d hk => by
    unfold VM.fListM at d
    split at d
    · rename_i xs ex
      obtain ⟨a, vs, rfl, q, h⟩ := seqOf_rep l r ex
      refine ⟨a, vs, rfl, ?_, hk.lstM l q d⟩
      rcases h with ⟨_, _, h⟩ | ⟨_, h⟩
      · exact .inr (l.same.seqT h)
      · exact .inl (.inl (.inl h))
    · exact d.elim) ha hg hm boot_list (he := he)
theorem ve_tuple (ha : VE X a ta) (hg : Gl X "tuple") (hm : X.mg "tuple" = none) (he : starEach [a] X.env = (false, eval a X.env) :: starEach [] X.env := by rfl) : VE X (.Call (.Name "tuple" p) [a] [] pos) (VM.eB1 VM.fTuple ta) :=
  ve_t1 call_tuple_of (fun G F μ st H px v k Q l r d hk => by
    unfold VM.fTuple at d
    split at d
    · rename_i xs ex
      obtain ⟨a, vs, rfl, q, h⟩ := seqOf_rep l r ex
      rcases h with ⟨ys, rfl, h⟩ | ⟨_, h⟩
      · cases ex
        exact ⟨a, vs, rfl, .inr ⟨l.same.seqT h, hk.same l (rep_tup.mpr ⟨a, vs, rfl, h, q⟩) d⟩⟩
      · exact ⟨a, vs, rfl, .inl ⟨.inl (.inl h), hk.tup l q d⟩⟩
    · exact d.elim) ha hg hm boot_tuple (he := he)
theorem allInt_rep {K : PySem.W.Frag} {F : Hp} {μ : List Addr} : ∀ {xs : List PV} {is : List Int} {vs : List V}, VM.allInt xs = some is → RepL K F μ xs vs → vs = is.map V.int
  | [], is, vs, h, r => by
    cases h
    rw [repL_nil.mp r]
    rfl
  | x :: xs, is, vs, h, r => by
    obtain ⟨v, w, rfl, r1, r2⟩ := repL_cons.mp r
    cases x <;> simp only [VM.allInt] at h <;> try (cases h; done)
    rename_i i
    rw [Option.map_eq_some_iff] at h
    obtain ⟨js, h1, rfl⟩ := h
    rw [rep_int.mp r1, allInt_rep h1 r2]
    rfl
theorem allBl_rep {K : PySem.W.Frag} {F : Hp} {μ : List Addr} : ∀ {xs : List PV} {is : List Bool} {vs : List V}, VM.allBl xs = some is → RepL K F μ xs vs → vs = is.map V.bl
  | [], is, vs, h, r => by
    cases h
    rw [repL_nil.mp r]
    rfl
  | x :: xs, is, vs, h, r => by
    obtain ⟨v, w, rfl, r1, r2⟩ := repL_cons.mp r
    cases x <;> simp only [VM.allBl] at h <;> try (cases h; done)
    rename_i i
    rw [Option.map_eq_some_iff] at h
    obtain ⟨js, h1, rfl⟩ := h
    rw [rep_bl.mp r1, allBl_rep h1 r2]
    rfl
theorem boot_sum' : bootBuiltins "sum" = some (.builtin "sum") := by decide +kernel
theorem boot_all' : bootBuiltins "all" = some (.builtin "all") := by decide +kernel
theorem boot_any' : bootBuiltins "any" = some (.builtin "any") := by decide +kernel
theorem ve_sum (hc : X.calm = true) (ha : VE X a ta) (hg : Gl X "sum") (hm : X.mg "sum" = none) (he : starEach [a] X.env = (false, eval a X.env) :: starEach [] X.env := by rfl) : VE X (.Call (.Name "sum" p) [a] [] pos) (VM.eB1 VM.fSum ta) :=
  ve_b1 (cr_sum hc) (fun G F μ st H px v k Q l r d hk => by
    unfold VM.fSum at d
    split at d
    · rename_i xs ex
      split at d
      · rename_i is ei
        obtain ⟨a, vs, rfl, e, q⟩ := asL_rep l r ex
        rw [allInt_rep ei q] at e
        exact ⟨a, is, rfl, .inl (.inl e), hk.same l (rep_int.mpr rfl) d⟩
      · exact d.elim
    · exact d.elim) ha hg hm boot_sum' (he := he)
theorem ve_all (hc : X.calm = true) (ha : VE X a ta) (hg : Gl X "all") (hm : X.mg "all" = none) (he : starEach [a] X.env = (false, eval a X.env) :: starEach [] X.env := by rfl) : VE X (.Call (.Name "all" p) [a] [] pos) (VM.eB1 VM.fAll ta) :=
  ve_b1 (cr_all hc) (fun G F μ st H px v k Q l r d hk => by
    unfold VM.fAll at d
    split at d
    · rename_i xs ex
      split at d
      · rename_i is ei
        obtain ⟨a, vs, rfl, e, q⟩ := asL_rep l r ex
        rw [allBl_rep ei q] at e
        exact ⟨a, is, rfl, .inl (.inl e), hk.same l (rep_bl.mpr rfl) d⟩
      · exact d.elim
    · exact d.elim) ha hg hm boot_all' (he := he)
theorem ve_any (hc : X.calm = true) (ha : VE X a ta) (hg : Gl X "any") (hm : X.mg "any" = none) (he : starEach [a] X.env = (false, eval a X.env) :: starEach [] X.env := by rfl) : VE X (.Call (.Name "any" p) [a] [] pos) (VM.eB1 VM.fAny ta) :=
  ve_b1 (cr_any hc) (fun G F μ st H px v k Q l r d hk => by
    unfold VM.fAny at d
    split at d
    · rename_i xs ex
      split at d
      · rename_i is ei
        obtain ⟨a, vs, rfl, e, q⟩ := asL_rep l r ex
        rw [allBl_rep ei q] at e
        exact ⟨a, is, rfl, .inl (.inl e), hk.same l (rep_bl.mpr rfl) d⟩
      · exact d.elim
    · exact d.elim) ha hg hm boot_any' (he := he)

def kdS : VM.Kd → String
  | .non => "NoneType" | .bool => "bool" | .int => "int" | .str => "str" | .list => "list" | .tuple => "tuple" | .dict => "dict" | .other => ""
def tyS : VM.Ty → String
  | .int => "int" | .bool => "bool" | .str => "str" | .list => "list" | .tuple => "tuple" | .dict => "dict"
theorem kit_all : ([.non, .bool, .int, .str, .list, .tuple, .dict] : List VM.Kd).all (fun k => ([.int, .bool, .str, .list, .tuple, .dict] : List VM.Ty).all fun t => decide (kitB (kdS k) (tyS t) = some (VM.kdIs k t))) = true := by decide +kernel
theorem kit_is {K : PySem.W.Frag} (k : VM.Kd) (t : VM.Ty) (h : k ≠ .other) : PySem.W.kitOne K (.type (kdS k)) (.type (tyS t)) = some (VM.kdIs k t) := by
  refine kit_ty ?_
  have q := kit_all
  rw [List.all_eq_true] at q
  have q1 := q k (by cases k <;> first | exact absurd rfl h | simp)
  rw [List.all_eq_true] at q1
  exact of_decide_eq_true (q1 t (by cases t <;> simp))
theorem kd_rep {K : PySem.W.Frag} {G F : Hp} {μ : List Addr} {H : Hp} {st : Store} {px : PV} {v : V} (l : Lay K G F μ st H) (r : Rep K F μ px v) (h : VM.kdOf st px ≠ .other) : TyX K H v (.type (kdS (VM.kdOf st px))) := by
  cases px <;> simp only [VM.kdOf] at h ⊢ <;> try (exact absurd rfl h)
  case non => rw [rep_non.mp r]; exact .base .non
  case bl => rw [rep_bl.mp r]; exact .base (.bl _)
  case int => rw [rep_int.mp r]; exact .base (.int _)
  case str => rw [(rep_str.mp r).2]; exact .base (.str _)
  case tup =>
    obtain ⟨a, vs, rfl, e, q⟩ := rep_tup.mp r
    rcases l.same.seqT e with (e | ⟨o, e⟩) | ⟨o, its, n, e, c, _⟩
    · exact .base (.tup e)
    · exact .fTuple e
    · exact .kTuple e c
  case lst =>
    obtain ⟨a, vs, rfl, e, q⟩ := rep_lst.mp r
    exact .base (.lst (l.same _ _ e))
  case dct =>
    unfold Rep at r
    obtain ⟨a, kvs, rfl, e, rfl, _⟩ := r
    exact .base (.dK (l.same _ _ e))
  case dctT => unfold Rep at r; exact r.elim
  case ref i =>
    obtain ⟨a, h1, rfl⟩ := rep_ref.mp r
    cases eo : st[i]? with
    | none => rw [eo] at h; exact absurd rfl h
    | some o =>
      rw [eo] at h
      have ho := l.obj i a o h1 eo
      cases o with
      | lst xs =>
        obtain ⟨_, vs, h2, q⟩ := ho
        exact .base (.lst h2)
      | dct ks xs =>
        obtain ⟨_, kvs, h2, rfl, q⟩ := ho
        exact .base (.dK h2)
      | dctT => exact ho.elim
      | ins => exact absurd rfl h
      | dead => exact absurd rfl h
/-- the name of a built-in type -/
theorem ve_ty {T : String} (hg : Gl X x) (hm : X.mg x = none) (hv : bootBuiltins x = some (.type T)) (hn : x ≠ "__name__" := by decide) (hd : (x == ("__debug__" : Str)) = false := by decide) : PE X (.Name x pos) (tC (.ty T)) := pe_bltn hg hm hv rfl hn hd
theorem boot_bool' : bootBuiltins "bool" = some (.type "bool") := boot_bool
theorem ve_isi {T : VM.Ty} {cx : Expr} (ha : VE X a ta) (hc : PE X cx (tC (.ty (tyS T)))) (hg : Gl X "isinstance") (hm : X.mg "isinstance" = none)
    (he : starEach [a, cx] X.env = (false, eval a X.env) :: starEach [cx] X.env := by rfl) (he2 : starEach [cx] X.env = (false, eval cx X.env) :: starEach [] X.env := by rfl) (hpl : (backTo pos (starEach [cx] X.env)).any (·.1) = false := by rfl) :
    VE X (.Call (.Name "isinstance" p) [a, cx] [] pos) (VM.eB1 (VM.fIsi [T]) ta) :=
  pe_imp (pe_callB call_isi hg hm boot_isinstance (pa_cons ha (pa_cons hc pa_nil he2) he) (he := he) (hpl := hpl)) fun σ H Q h => by
    obtain ⟨G, F, μ, ρ, st, k, l, r, d, hk⟩ := h
    refine bind1 l r d fun v H1 F1 μ1 px st1 e1 l1 r1 p1 q1 => ?_
    obtain ⟨h1, q1⟩ := q1
    refine ⟨v, _, _, _, _, rfl, .ty _, kd_rep l1 p1 h1, kit_is _ _ h1, ?_⟩
    refine (hk.mono e1).same l1 (rep_bl.mpr rfl) ?_
    simpa using q1
/-- the names of built-in types in a tuple -/
inductive TyEs (X : Cx) : List Expr → List VM.Ty → Prop where
  | nil : TyEs X [] []
  | cons {c : Expr} {cs : List Expr} {T : VM.Ty} {Ts : List VM.Ty} (h : PE X c (tC (.ty (tyS T)))) (t : TyEs X cs Ts) (hs : starEach (c :: cs) X.env = (false, eval c X.env) :: starEach cs X.env) : TyEs X (c :: cs) (T :: Ts)
theorem TyEs.pa {cs : List Expr} {Ts : List VM.Ty} (h : TyEs X cs Ts) : PA X cs (fun _ H Q => Q (Ts.map fun T => V.ty (tyS T)) H) := by
  induction h with
  | nil => exact pa_imp pa_nil fun _ _ _ q => q
  | cons h t hs ih => exact pa_imp (pa_cons h ih hs) fun _ _ _ q => q
theorem kit_any {K : PySem.W.Frag} (k : VM.Kd) (h : k ≠ .other) : ∀ Ts : List VM.Ty, PySem.W.kitAny K (.type (kdS k)) (Ts.map fun T => Value.type (tyS T)) = some (Ts.any (VM.kdIs k))
  | [] => rfl
  | T :: Ts => kitAny_cons (kit_is k T h) (fun e => by rw [List.any_cons, e, Bool.false_or]; exact kit_any k h Ts) (fun e => by rw [List.any_cons, e, Bool.true_or])
theorem clsV_all : ∀ Ts : List VM.Ty, Paired ClsV (Ts.map fun T => V.ty (tyS T)) (Ts.map fun T => Value.type (tyS T))
  | [] => .nil
  | T :: Ts => .cons (.ty _) (clsV_all Ts)
theorem ve_isiT {Ts : List VM.Ty} {cs : List Expr} {kt : Nat} {pt : Pos} (ha : VE X a ta) (hc : TyEs X cs Ts) (hl : Ts.length ≤ 100) (hg : Gl X "isinstance") (hm : X.mg "isinstance" = none)
    (he : starEach [a, .Tuple cs kt pt] X.env = (false, eval a X.env) :: starEach [.Tuple cs kt pt] X.env := by rfl) :
    VE X (.Call (.Name "isinstance" p) [a, .Tuple cs kt pt] [] pos) (VM.eB1 (VM.fIsi Ts) ta) :=
  pe_imp (pe_callB call_isiT hg hm boot_isinstance (pa_cons ha (pa_cons (pe_tup hc.pa) pa_nil) he) (he := he) (hpl := rfl)) fun σ H Q h => by
    obtain ⟨G, F, μ, ρ, st, k, l, r, d, hk⟩ := h
    refine bind1 l r d fun v H1 F1 μ1 px st1 e1 l1 r1 p1 q1 => ?_
    obtain ⟨h1, q1⟩ := q1
    refine ⟨by rw [sizeLine_eq, List.length_map]; omega, fun q hq => ?_⟩
    have l2 := l1.new (p := q) (o := .tup (Ts.map fun T => V.ty (tyS T))) hq
    have e2 := ext_upd (o := .tup (Ts.map fun T => V.ty (tyS T))) l1 hq
    refine ⟨v, q, _, _, _, _, rfl, upd_same, clsV_all Ts, kd_rep l2 (p1.mono e2) h1, kit_any _ h1 Ts, ?_⟩
    exact (hk.mono (e1.trans e2)).same l2 (rep_bl.mpr rfl) q1
end
end VS
end
section
namespace VS
open PySem PySem.Spec PyProof.Rows L2
def SqB (b : Bool) (K : PySem.W.Frag) (H : Hp) (a : Addr) (xs : List V) : Prop := match b with
  | true => SqL K H a xs
  | false => SqT K H a xs
def ItB (b : Bool) (h : Heap) (it a : Addr) (i : Nat) : Prop := match b with
  | true => h.IsListIter it a i
  | false => h.IsTupleIter it a i
def StB (b : Bool) (its : Array Value) (it a : Addr) (i : Nat) (h : Heap) : Prop := match b with
  | true => h.IsListIter it a i ∧ h.IsList a its
  | false => h.IsTupleIter it a i ∧ h.IsTuple a its
theorem ItB.at {b : Bool} {h h' : Heap} {it a : Addr} {i : Nat} (x : ItB b h it a i) (k : ∀ o, h.get? it = some o → h'.get? it = some o) : ItB b h' it a i := by
  cases b with
  | true => exact Heap.IsListIter.at x k
  | false => exact Heap.IsTupleIter.at x k
theorem ItB.ob {b : Bool} {h : Heap} {it a : Addr} {i : Nat} (x : ItB b h it a i) : ∃ o, h.get? it = some o ∧ ∀ v, o.data ≠ .cell v := by
  cases b with
  | true =>
    obtain ⟨o, e, _, d⟩ := x
    exact ⟨o, e, fun v q => by rw [d] at q; cases q⟩
  | false =>
    obtain ⟨o, e, _, d⟩ := x
    exact ⟨o, e, fun v q => by rw [d] at q; cases q⟩
theorem drawsB (b : Bool) {prog : Program} {w : World} {A : Around} (hh : A.handled = none) (it a : Addr) (hne : a ≠ it) (its : Array Value) : Draws prog w A it [it, a] its.size (fun i v => its[i]? = some v) (StB b its it a) := by
  cases b with
  | true => exact Draws.list hh it a hne its
  | false => exact Draws.tuple hh it a hne its
def obB (b : Bool) (a : Addr) : Obj := match b with
  | true => { cls := .type "list_iterator", data := .fields #[.ref a, .int 0 0] }
  | false => { cls := .type "tuple_iterator", data := .fields #[.ref a, .int 0 0] }
def hpB (b : Bool) (a : Addr) (its : Array Value) (h : Heap) : Prop := match b with
  | true => h.IsList a its
  | false => h.IsTuple a its
theorem seqB {X : Cx} {pins : List (Addr × Obj)} {σ : L2.St} {H : Hp} {s : Shared} {b : Bool} {a : Addr} {xs : List V} (I : Inv X pins σ H s) (h : SqB b X.K H a xs) :
    ∃ its : List Value, Vals xs its ∧ (∀ it i, ItB b s.heap it a i → StB b its.toArray it a i s.heap) ∧ a < s.heap.objs.size ∧ hpB b a its.toArray s.heap := by
  cases b with
  | true =>
    obtain ⟨its, r, p, _⟩ := I.list h
    exact ⟨its, r, fun it i q => ⟨q, p.isList⟩, p.lt, p.isList⟩
  | false =>
    obtain ⟨its, r, p, _⟩ := I.tuple h
    exact ⟨its, r, fun it i q => ⟨q, p⟩, p.lt, p⟩
theorem seqB_inj {X : Cx} {pins : List (Addr × Obj)} {σ : L2.St} {H : Hp} {s : Shared} {b : Bool} {a : Addr} {xs ys : List V} (I : Inv X pins σ H s) (h : SqB b X.K H a xs) (h' : SqB b X.K H a ys) : xs = ys := by
  cases b with
  | true => exact I.list_inj h h'
  | false => exact I.tuple_inj h h'
theorem StB.it {b : Bool} {its : Array Value} {it a : Addr} {i : Nat} {h : Heap} (x : StB b its it a i h) : ItB b h it a i := by
  cases b with
  | true => exact x.1
  | false => exact x.1
def ItzB (b1 b2 : Bool) (K : PySem.W.Frag) (a b : Addr) : It :=
  ⟨fun i H => ∃ (xs ys : List V) (x y : V), SqB b1 K H a xs ∧ SqB b2 K H b ys ∧ xs[i]? = some x ∧ ys[i]? = some y,
    fun i H v H' => ∃ T x y, v = .ref T ∧ H T = none ∧ H' = upd H T (.tup [x, y]) ∧ (∀ xs, SqB b1 K H a xs → xs[i]? = some x) ∧ ∀ ys, SqB b2 K H b ys → ys[i]? = some y,
    fun i H => ∃ xs ys : List V, SqB b1 K H a xs ∧ SqB b2 K H b ys ∧ i = min xs.length ys.length⟩
theorem turn_zipB {P : Program} {w : World} {K : PySem.W.Frag} {elts : List Expr} {kk : Nat} {tpos : Pos} {b1 b2 : Bool} {a b z TI TO i1 i2 : Addr} (D : ZipSep2 z TI TO i1 i2 [i1, a] [i2, b]) (hfree : a ≠ i1) (hfree2 : b ≠ i2) :
    Turn P w K (.Tuple elts kk tpos) (ItzB b1 b2 K a b) [z, TI, TO, i1, i2] z (fun i h => IsZip h z TI TO .none ∧ IsTupOf2 h TI (.ref i1) (.ref i2) ∧ (∃ x y, IsTupOf2 h TO x y) ∧ ItB b1 h i1 a i ∧ ItB b2 h i2 b i) where
  mem := by simp
  obj := fun i h st c hc => by
    obtain ⟨hz, hTI, ⟨x, y, hTO⟩, h1, h2⟩ := st
    have e' : c = z ∨ c = TI ∨ c = TO ∨ c = i1 ∨ c = i2 := by simpa using hc
    rcases e' with q | q | q | q | q
    · rw [q]; exact ⟨_, hz, fun v q => nomatch q⟩
    · rw [q]; exact ⟨_, hTI, fun v q => nomatch q⟩
    · rw [q]; exact ⟨_, hTO, fun v q => nomatch q⟩
    · rw [q]; exact h1.ob
    · rw [q]; exact h2.ob
  keep := fun i h h' st k => by
    obtain ⟨hz, hTI, ⟨x, y, hTO⟩, h1, h2⟩ := st
    exact ⟨k z (by simp) _ hz, k TI (by simp) _ hTI, ⟨x, y, k TO (by simp) _ hTO⟩, h1.at fun o q => k i1 (by simp) o q, h2.at fun o q => k i2 (by simp) o q⟩
  item := by
    intro X hP hw hK hc i pins s σ H E I hf st hg
    subst hP hw hK
    obtain ⟨hz, hTI, ⟨x0, y0, hTO⟩, h1, h2⟩ := st
    obtain ⟨xs, ys, x, y, hqx, hqy, hx, hy⟩ := hg
    obtain ⟨its, rv, p, _⟩ := seqB I hqx
    obtain ⟨its2, rv2, p2, _⟩ := seqB I hqy
    obtain ⟨u, hu, ru⟩ := rv.get hx
    obtain ⟨u2, hu2, ru2⟩ := rv2.get hy
    have hzl : z < s.heap.objs.size := Heap.lt_size hz
    have hh : X.A.in1.handled = none := I.ok.hd hc
    have hi1 : i < its.toArray.size := by simpa using (List.getElem?_eq_some_iff.mp hu).1
    have hi2 : i < its2.toArray.size := by simpa using (List.getElem?_eq_some_iff.mp hu2).1
    refine wpAny_pyNext_zipD2_item D (drawsB b1 hh i1 a hfree its.toArray) (drawsB b2 hh i2 b hfree2 its2.toArray) hz hTI hTO (p i1 i h1) (p2 i2 i h2) hi1 hi2 fun w1 w2 h' tk y1 y2 z' TO' h1' h2' hT hsz hk => ?_
    obtain rfl : w1 = u := by
      have q : its[i]? = some w1 := by simpa using y1
      rw [hu] at q
      exact (Option.some.inj q).symm
    obtain rfl : w2 = u2 := by
      have q : its2[i]? = some w2 := by simpa using y2
      rw [hu2] at q
      exact (Option.some.inj q).symm
    refine ⟨_, rfl, wpAny_letOwnedTupleGo_zip (s := { s with heap := h', toks := tk }) z' fun h'' z'' sb => ?_⟩
    have hT2 : h''.get? s.heap.objs.size = some { cls := .type "tuple", data := .seq #[w1, w2] } := (sb.2 _ (Nat.ne_of_gt hzl)).trans hT
    have new : ObjOk X.prog X.w (upd H s.heap.objs.size (.tup [x, y])) h'' s.heap.objs.size (.tup [x, y]) :=
      ⟨by show 2 ≤ sizeLine; decide, [w1, w2], .cons ru (.cons ru2 .nil), ⟨_, hT2, rfl, _, rfl⟩⟩
    have I1 : Inv X pins σ (upd H s.heap.objs.size (.tup [x, y])) { s with heap := h'', toks := tk } :=
      I.turnedNew (t' := tk) (ch := [z, TI, TO, i1, i2]) (fun c o hb q => (sb.2 c (fun q' => hb (by simp [q']))).trans (hk c o (fun q' => hb (by simp [q'])) (fun q' => hb (by simp [q'])) (fun q' => hb (by simp [q'])) (fun q' => hb (by simp [q'])) q)) hf (Nat.le_refl _) new
    refine ⟨.ref s.heap.objs.size, _, I1, rfl, ⟨_, x, y, rfl, I.hok.fresh (Nat.le_refl _), rfl, fun l hl => by rw [seqB_inj I hl hqx]; exact hx, fun l hl => by rw [seqB_inj I hl hqy]; exact hy⟩, ⟨z'', ?_, ⟨w1, w2, ?_⟩, ?_, ?_⟩, fun c hcm => ?_⟩
    · exact (sb.2 _ D.TIz).trans (hk _ _ D.TIz D.TITO D.TIi1 D.TIi2 hTI)
    · exact (sb.2 _ D.TOz).trans TO'
    · exact h1'.it.at fun o q => (sb.2 _ (Ne.symm D.zi1)).trans q
    · exact h2'.it.at fun o q => (sb.2 _ (Ne.symm D.zi2)).trans q
    · have hlt : c < s.heap.objs.size := by
        have e' : c = z ∨ c = TI ∨ c = TO ∨ c = i1 ∨ c = i2 := by simpa using hcm
        rcases e' with q | q | q | q | q
        · rw [q]; exact hzl
        · rw [q]; exact Heap.lt_size hTI
        · rw [q]; exact Heap.lt_size hTO
        · rw [q]; obtain ⟨_, e1, _⟩ := h1.ob; exact Heap.lt_size e1
        · rw [q]; obtain ⟨_, e2, _⟩ := h2.ob; exact Heap.lt_size e2
      rw [upd_ne (Nat.ne_of_lt hlt)]
      exact (hf c hcm).1
  done := by
    intro X hP hw hK hc i pins s σ H E I hf st hg
    subst hP hw hK
    obtain ⟨hz, hTI, ⟨x0, y0, hTO⟩, h1, h2⟩ := st
    obtain ⟨xs, ys, hqx, hqy, hend⟩ := hg
    obtain ⟨its, rv, p, _⟩ := seqB I hqx
    obtain ⟨its2, rv2, p2, _⟩ := seqB I hqy
    have l1 := rv.length
    have l2 := rv2.length
    have hh : X.A.in1.handled = none := I.ok.hd hc
    exact wpAny_pyNext_zipD2_end D (drawsB b1 hh i1 a hfree its.toArray) (drawsB b2 hh i2 b hfree2 its2.toArray) hz hTI hTO (p i1 i h1) (p2 i2 i h2) (by simp; omega) (by simp; omega) (by simp; omega) fun h' tk hk => ⟨rfl, I.turnedL (t' := tk) (ch := [z, TI, TO, i1, i2]) (fun c o hb q =>
      hk c o (fun q' => hb (by simp [q'])) (fun q' => hb (by simp [q'])) (fun q' => hb (by simp [q'])) (fun q' => hb (by simp [q'])) q) hf⟩
  self := fun A i s Q E st h => wpAny_pyIter_zip st.1 h
theorem beginsB (b : Bool) (a : Addr) (its : Array Value) : Begins (.ref a) (obB b a) (hpB b a its) := by
  cases b with
  | true => exact begins_list a its
  | false => exact begins_tuple a its
theorem itB_of {b : Bool} {h : Heap} {it a : Addr} (e : h.get? it = some (obB b a)) : ItB b h it a 0 := by
  cases b with
  | true => exact ⟨_, e, rfl, rfl⟩
  | false => exact ⟨_, e, rfl, rfl⟩
def iZipB (K : PySem.W.Frag) (ta : TA) : TI := fun σ H R => ta σ H fun vs H1 => ∃ a b xs ys b1 b2, vs = [.ref a, .ref b] ∧ SqB b1 K H1 a xs ∧ SqB b2 K H1 b ys ∧ R (ItzB b1 b2 K a b) H1
theorem pi_zipB {X : Cx} {e e2 : Expr} {ta : TA} {p pos tpos : Pos} {elts : List Expr} {kk : Nat} (hg : Gl X "zip") (hm : X.mg "zip" = none) (ha : PA X [e, e2] ta)
    (hs : starEach [e, e2] X.env = (false, eval e X.env) :: starEach [e2] X.env := by rfl) (hpl : (backTo pos (starEach [e2] X.env)).any (·.1) = false := by rfl) :
    PI X (.Tuple elts kk tpos) (.Call (.Name "zip" p) [e, e2] [] pos) (iZipB X.K ta) := by
  refine ⟨fun pins s σ H R I h => ?_⟩
  refine Call_ (ld_blt I hg hm PyProof.Rows.boot_zip (PyProof.Rows.callWith_type1 (thn (ha.run pos pins s σ H _ I h) fun us s1 ⟨vs, H1, I1, r1, q1⟩ => ?_) hs hpl))
  obtain ⟨a, b, xs, ys, b1, b2, ex, hqx, hqy, q⟩ := q1
  subst ex
  cases r1 with
  | cons r rr =>
    cases rr with
    | cons r' rr =>
      cases rr
      cases r
      cases r'
      obtain ⟨its, rv, p1, la, g1⟩ := seqB I1 hqx
      obtain ⟨its2, rv2, p2, lb, g2⟩ := seqB I1 hqy
      refine zip_begins2 (beginsB b1 a its.toArray) (beginsB b2 b its2.toArray) g1 g2 fun h' hz hTI hTO h1 h2 hsz hk => wpAny_pyIter_zip hz ?_
      have I2 : Inv X pins σ H1 { s1 with heap := h' } := I1.kept (t' := s1.toks) hk
      have S := zip_sep2 (N := s1.heap.objs.size) (fp1 := [a]) (fp2 := [b]) (fun c hc => (List.mem_singleton.mp hc) ▸ la) (fun c hc => (List.mem_singleton.mp hc) ▸ lb)
      refine ⟨s1.heap.objs.size + 4, [s1.heap.objs.size + 4, s1.heap.objs.size + 2, s1.heap.objs.size + 3, s1.heap.objs.size, s1.heap.objs.size + 1], _, _, H1, rfl, I2, turn_zipB S (Nat.ne_of_lt la) (Nat.ne_of_lt (Nat.lt_succ_of_lt lb)), ⟨hz, hTI, ⟨_, _, hTO⟩, itB_of h1, itB_of h2⟩, fun c hcm => ?_, q⟩
      have e' : c = s1.heap.objs.size + 4 ∨ c = s1.heap.objs.size + 2 ∨ c = s1.heap.objs.size + 3 ∨ c = s1.heap.objs.size ∨ c = s1.heap.objs.size + 1 := by simpa using hcm
      have hle : s1.heap.objs.size ≤ c := by
        rcases e' with z | z | z | z | z
        · rw [z]; exact Nat.le_add_right _ _
        · rw [z]; exact Nat.le_add_right _ _
        · rw [z]; exact Nat.le_add_right _ _
        · rw [z]; exact Nat.le_refl _
        · rw [z]; exact Nat.le_add_right _ _
      exact I1.fpOk hle (I1.hok.fresh hle)
end VS
end
section
namespace VS
open PySem PySem.Spec PyProof.Rows L2
open VM (PV SO Store)
/-- an iterator gives these items, while what must stay stays -/
structure Wlk (K : PySem.W.Frag) (J : It) (F : Hp) (μ : List Addr) (xs : List PV) (stay : Store → Prop) : Prop where
  goes : ∀ (G H F' : Hp) (μ' : List Addr) (st : Store) (i : Nat), Ext F μ F' μ' → Lay K G F' μ' st H → stay st → i < xs.length → J.go i H
  stops : ∀ (G H F' : Hp) (μ' : List Addr) (st : Store), Ext F μ F' μ' → Lay K G F' μ' st H → stay st → J.stop xs.length H
  yields : ∀ (G H F' : Hp) (μ' : List Addr) (st : Store) (i : Nat) (x : PV) (v : V) (H2 : Hp), Ext F μ F' μ' → Lay K G F' μ' st H → stay st → xs[i]? = some x → J.yld i H v H2 →
    ∃ F2, Ext F' μ' F2 μ' ∧ Lay K G F2 μ' st H2 ∧ Rep K F2 μ' x v
def KonI (K : PySem.W.Frag) (G F : Hp) (μ : List Addr) (k : List PV → (Store → Prop) → Store → Prop) (R : It → Hp → Prop) : Prop :=
  ∀ (J : It) (H' F' : Hp) (μ' : List Addr) (xs : List PV) (stay : Store → Prop) (st' : Store), Ext F μ F' μ' → Lay K G F' μ' st' H' → Wlk K J F' μ' xs stay → k xs stay st' → R J H'
def rI (K : PySem.W.Frag) (t : VM.TI) : L2.TI := fun σ H R => ∃ G F μ ρ st k, Lay K G F μ st H ∧ EnvR K F μ σ ρ ∧ t ρ st k nox ∧ KonI K G F μ k R
abbrev VI (X : Cx) (tg e : Expr) (t : VM.TI) : Prop := PI X tg e (rI X.K t)
theorem pi_imp {X : Cx} {tg e : Expr} {t t' : L2.TI} (h : PI X tg e t) (hi : ∀ σ H Q, t' σ H Q → t σ H Q) : PI X tg e t' := ⟨fun pins s σ H Q I q => h.run pins s σ H Q I (hi σ H Q q)⟩
section
variable {K : PySem.W.Frag} {G F : Hp} {μ : List Addr} {H : Hp} {st : Store}
theorem stays_self (x : PV) (st : Store) : VM.stays st x st := by cases x <;> exact (by first | trivial | rfl)
theorem wlk_list {a : Addr} {vs : List V} {xs : List PV} (e : F a = some (.lst vs)) (q : RepL K F μ xs vs) : Wlk K (Itl K a) F μ xs (fun _ => True) where
  goes := fun G H F' μ' st i x l _ hi => ⟨vs, vs[i]'(by rw [q.length]; exact hi), .inl (.inl (l.same _ _ (x.same _ _ e))), by simp [q.length, hi]⟩
  stops := fun G H F' μ' st x l _ => ⟨vs, .inl (.inl (l.same _ _ (x.same _ _ e))), by rw [q.length]; exact Nat.le_refl _⟩
  yields := fun G H F' μ' st i y v H2 x l _ hy hv => by
    obtain ⟨rfl, h2⟩ := hv
    obtain ⟨w, h3, h4⟩ := q.get hy
    have h5 := h2 vs (.inl (.inl (l.same _ _ (x.same _ _ e))))
    rw [h3] at h5
    cases h5
    exact ⟨F', Ext.refl, l, h4.mono x⟩
theorem wlk_listM {i0 : Nat} {a : Addr} {xs : List PV} (e : μ[i0]? = some a) (hx : st[i0]? = some (.lst xs)) : Wlk K (Itl K a) F μ xs (VM.stays st (.ref i0)) where
  goes := fun G H F' μ' st' i x l hs hi => by
    have hs' : st'[i0]? = st[i0]? := hs
    obtain ⟨_, vs, h2, q⟩ := l.obj i0 a _ (x.get e) (hs'.trans hx)
    exact ⟨vs, vs[i]'(by rw [q.length]; exact hi), .inl (.inl h2), by simp [q.length, hi]⟩
  stops := fun G H F' μ' st' x l hs => by
    have hs' : st'[i0]? = st[i0]? := hs
    obtain ⟨_, vs, h2, q⟩ := l.obj i0 a _ (x.get e) (hs'.trans hx)
    exact ⟨vs, .inl (.inl h2), by rw [q.length]; exact Nat.le_refl _⟩
  yields := fun G H F' μ' st' i y v H2 x l hs hy hv => by
    have hs' : st'[i0]? = st[i0]? := hs
    obtain ⟨_, vs, h2, q⟩ := l.obj i0 a _ (x.get e) (hs'.trans hx)
    obtain ⟨rfl, h3⟩ := hv
    obtain ⟨w, h4, h5⟩ := q.get hy
    have h6 := h3 vs (.inl (.inl h2))
    rw [h4] at h6
    cases h6
    exact ⟨F', Ext.refl, l, h5⟩
theorem wlk_tup {a : Addr} {vs : List V} {xs : List PV} (e : SqT K F a vs) (q : RepL K F μ xs vs) : Wlk K (Itt K a) F μ xs (fun _ => True) where
  goes := fun G H F' μ' st i x l _ hi => ⟨vs, vs[i]'(by rw [q.length]; exact hi), l.same.seqT (x.same.seqT e), by simp [q.length, hi]⟩
  stops := fun G H F' μ' st x l _ => ⟨vs, l.same.seqT (x.same.seqT e), by rw [q.length]; exact Nat.le_refl _⟩
  yields := fun G H F' μ' st i y v H2 x l _ hy hv => by
    obtain ⟨rfl, h2⟩ := hv
    obtain ⟨w, h3, h4⟩ := q.get hy
    have h5 := h2 vs (l.same.seqT (x.same.seqT e))
    rw [h3] at h5
    cases h5
    exact ⟨F', Ext.refl, l, h4.mono x⟩
theorem Wlk.imp {J : It} {xs : List PV} {stay stay' : Store → Prop} (w : Wlk K J F μ xs stay) (h : ∀ st, stay' st → stay st) : Wlk K J F μ xs stay' where
  goes := fun G H F' μ' st i x l hs => w.goes G H F' μ' st i x l (h st hs)
  stops := fun G H F' μ' st x l hs => w.stops G H F' μ' st x l (h st hs)
  yields := fun G H F' μ' st i y v H2 x l hs => w.yields G H F' μ' st i y v H2 x l (h st hs)
theorem wlk_str {s : List Nat} (o : sOk s) : Wlk K (Its ⟨s.toArray⟩) F μ (VM.signs s) (fun _ => True) where
  goes := fun G H F' μ' st i x l _ hi => by
    show i < s.toArray.size
    simpa [VM.signs] using hi
  stops := fun G H F' μ' st x l _ => by
    show s.toArray.size ≤ _
    simp [VM.signs]
  yields := fun G H F' μ' st i y v H2 x l _ hy hv => by
    obtain ⟨rfl, c, h1, rfl⟩ := hv
    have h2 : s[i]? = some c := by simpa using h1
    have h3 : y = .str [c] := by
      unfold VM.signs at hy
      rw [List.getElem?_map, h2] at hy
      exact (Option.some.inj hy).symm
    subst h3
    exact ⟨F', Ext.refl, l, rep_str.mpr ⟨⟨by simp, fun c' hc => by
      have e : c' = c := by simpa using hc
      rw [e]
      exact o.2 c (List.mem_of_getElem? h2)⟩, rfl⟩⟩
theorem wlk_range {lo : Int} {n : Nat} : Wlk K (Itr lo n) F μ ((List.range n).map fun (i : Nat) => .int (lo + (i : Int))) (fun _ => True) where
  goes := fun G H F' μ' st i x l _ hi => by
    show i < n
    simpa using hi
  stops := fun G H F' μ' st x l _ => by
    show n ≤ _
    simp
  yields := fun G H F' μ' st i y v H2 x l _ hy hv => by
    obtain ⟨rfl, rfl⟩ := hv
    have h3 : y = .int (lo + (i : Int)) := by
      rw [List.getElem?_map] at hy
      cases e : (List.range n)[i]? with
      | none => rw [e] at hy; cases hy
      | some j =>
        rw [e] at hy
        have hj : j = i := by
          rw [List.getElem?_eq_some_iff] at e
          obtain ⟨_, e⟩ := e
          simpa using e.symm
        subst hj
        exact (Option.some.inj hy).symm
    subst h3
    exact ⟨F', Ext.refl, l, rep_int.mpr rfl⟩
theorem items_cases {px : PV} {v : V} {xs : List PV} (l : Lay K G F μ st H) (r : Rep K F μ px v) (h : VM.items st px = some xs) :
    (∃ a vs, v = .ref a ∧ SqL K H a vs ∧ Wlk K (Itl K a) F μ xs (VM.stays st px)) ∨ (∃ a vs, v = .ref a ∧ SqT K H a vs ∧ Wlk K (Itt K a) F μ xs (VM.stays st px)) ∨ (∃ z, v = .str z ∧ Wlk K (Its z) F μ xs (VM.stays st px)) ∨ (∃ ks ys, px = .dct ks ys) ∨ (∃ ks ys, px = .dctT ks ys) ∨ (∃ i ks ys, px = .ref i ∧ (st[i]? = some (.dct ks ys) ∨ st[i]? = some (.dctT ks ys))) := by
  cases px <;> simp only [VM.items] at h <;> try (cases h; done)
  case str s =>
    cases h
    obtain ⟨o, rfl⟩ := rep_str.mp r
    exact .inr (.inr (.inl ⟨_, rfl, (wlk_str o).imp fun _ _ => trivial⟩))
  case tup =>
    cases h
    obtain ⟨a, vs, rfl, e, q⟩ := rep_tup.mp r
    exact .inr (.inl ⟨a, vs, rfl, l.same.seqT e, (wlk_tup e q).imp fun _ _ => trivial⟩)
  case lst =>
    cases h
    obtain ⟨a, vs, rfl, e, q⟩ := rep_lst.mp r
    exact .inl ⟨a, vs, rfl, .inl (.inl (l.same _ _ e)), (wlk_list e q).imp fun _ _ => trivial⟩
  case dct => exact .inr (.inr (.inr (.inl ⟨_, _, rfl⟩)))
  case dctT => exact .inr (.inr (.inr (.inr (.inl ⟨_, _, rfl⟩))))
  case ref i =>
    obtain ⟨a, h1, rfl⟩ := rep_ref.mp r
    split at h
    · rename_i ys e
      cases h
      obtain ⟨_, vs, h2, q⟩ := l.obj i a _ h1 e
      exact .inl ⟨a, vs, rfl, .inl (.inl h2), wlk_listM h1 e⟩
    · rename_i e
      exact .inr (.inr (.inr (.inr (.inr ⟨_, _, _, rfl, .inl e⟩))))
    · rename_i e
      exact .inr (.inr (.inr (.inr (.inr ⟨_, _, _, rfl, .inr e⟩))))
    · cases h
end
section
variable {X : Cx} {a b c e : Expr} {ta tb tc te : VM.TE} {t1 t2 : VM.TT} {pos p2 p : Pos} {es rest : List Expr} {tas : VM.TA} {x : Str} {tg : Expr}
theorem pi_any {tl : L2.TE} (hl : PE X e tl) : PI X tg e (fun σ H R => tl σ H fun x H1 => (∃ a xs, x = .ref a ∧ SqL X.K H1 a xs ∧ R (Itl X.K a) H1) ∨ (∃ a xs, x = .ref a ∧ SqT X.K H1 a xs ∧ R (Itt X.K a) H1) ∨ (∃ z, x = .str z ∧ R (Its z) H1)) := by
  refine ⟨fun pins s σ H R I h => ?_⟩
  refine thn (hl.run pins s σ H _ I h) fun v s1 ⟨x, H1, I1, r1, q1⟩ => ?_
  rcases q1 with ⟨a, xs, rfl, hq, q⟩ | ⟨a, xs, rfl, hq, q⟩ | ⟨z, rfl, q⟩
  · cases r1
    obtain ⟨its, rv, p, hz⟩ := I1.list hq
    refine wpAny_pyIter_list p.isList ?_
    refine ⟨s1.heap.objs.size, [s1.heap.objs.size], _, _, H1, rfl, I1.kept (t' := s1.toks) fun b o e => Heap.get?_push_of_some _ e, turn_list a _, ⟨_, Heap.get?_push_size _ rfl, rfl, rfl⟩, fun b hb => ?_, q⟩
    have e : b = s1.heap.objs.size := by simpa using hb
    subst e
    exact I1.fpOk (Nat.le_refl _) (I1.hok.fresh (Nat.le_refl _))
  · cases r1
    obtain ⟨its, rv, p, hz⟩ := I1.tuple hq
    refine wpAny_pyIter_tuple (show s1.heap.IsTuple a its.toArray from p) ?_
    refine ⟨s1.heap.objs.size, [s1.heap.objs.size], _, _, H1, rfl, I1.kept (t' := s1.toks) fun b o e => Heap.get?_push_of_some _ e, turn_tuple a _, ⟨_, Heap.get?_push_size _ rfl, rfl, rfl⟩, fun b hb => ?_, q⟩
    have e : b = s1.heap.objs.size := by simpa using hb
    subst e
    exact I1.fpOk (Nat.le_refl _) (I1.hok.fresh (Nat.le_refl _))
  · obtain ⟨t, rfl⟩ := r1
    cases ha : z.cps.all (· < 128)
    · exact wpAny_pyIter_wide ha (pi_one (tk := s1.toks) I1 _ (turn_str _ z t "str_iterator" (.inr rfl)) ⟨_, Heap.get?_push_size _ rfl, rfl, rfl⟩ q)
    · exact wpAny_pyIter_ascii ha (pi_one (tk := s1.toks) I1 _ (turn_str _ z t "str_ascii_iterator" (.inl rfl)) ⟨_, Heap.get?_push_size _ rfl, rfl, rfl⟩ q)
/-- not a dict (these have a rule of their own) -/
def noDict (st : Store) : PV → Prop
  | .dct _ _ => False
  | .dctT _ _ => False
  | .ref i => ∃ xs, st[i]? = some (.lst xs)
  | _ => True
theorem vi_e (ha : VE X a ta) : VI X tg a (VM.iE ta) := pi_imp (pi_any ha) fun σ H R h => by
  obtain ⟨G, F, μ, ρ, st, k, l, r, d, hk⟩ := h
  refine bind1 l r d fun x H1 F1 μ1 px st1 e1 l1 r1 p1 q1 => ?_
  split at q1
  · rename_i xs ex
    obtain ⟨q1, q2⟩ := q1
    rcases items_cases l1 p1 ex with ⟨a, vs, rfl, h1, w⟩ | ⟨a, vs, rfl, h1, w⟩ | ⟨z, rfl, w⟩ | ⟨ks, ys, rfl⟩ | ⟨ks, ys, rfl⟩ | ⟨i, ks, ys, rfl, h1 | h1⟩
    · exact .inl ⟨a, vs, rfl, h1, hk _ H1 F1 μ1 xs _ st1 e1 l1 w q2⟩
    · exact .inr (.inl ⟨a, vs, rfl, h1, hk _ H1 F1 μ1 xs _ st1 e1 l1 w q2⟩)
    · exact .inr (.inr ⟨z, rfl, hk _ H1 F1 μ1 xs _ st1 e1 l1 w q2⟩)
    · exact (show False by simpa [VM.isSeq] using q1).elim
    · exact (show False by simpa [VM.isSeq] using q1).elim
    · exact (show False by simpa [VM.isSeq, h1] using q1).elim
    · exact (show False by simpa [VM.isSeq, h1] using q1).elim
  · exact q1.elim
theorem vi_range1 (hg : Gl X "range") (hm : X.mg "range" = none) (ha : VE X a ta) (hs : starEach [a] X.env = [(false, eval a X.env)] := by rfl) : VI X tg (.Call (.Name "range" p) [a] [] pos) (VM.iRange1 ta) :=
  pi_imp (pi_range1 hg hm (pa_cons ha pa_nil hs) hs) fun σ H R h => by
    obtain ⟨G, F, μ, ρ, st, k, l, r, d, hk⟩ := h
    refine bind1 l r d fun x H1 F1 μ1 px st1 e1 l1 r1 p1 q1 => ?_
    split at q1
    · rename_i n
      obtain rfl := rep_int.mp p1
      obtain ⟨h1, q1⟩ := q1
      refine ⟨n, rfl, h1.1, h1.2, hk _ H1 F1 μ1 _ _ st1 e1 l1 ?_ q1⟩
      have w := wlk_range (K := X.K) (F := F1) (μ := μ1) (lo := 0) (n := n.toNat)
      simpa using w
    · exact q1.elim
theorem vi_range2 (hg : Gl X "range") (hm : X.mg "range" = none) (ha : VE X a ta) (hb : VE X b tb) (hs : starEach [a, b] X.env = [(false, eval a X.env), (false, eval b X.env)] := by rfl) (hs2 : starEach [b] X.env = [(false, eval b X.env)] := by rfl) :
    VI X tg (.Call (.Name "range" p) [a, b] [] pos) (VM.iRange2 ta tb) :=
  pi_imp (pi_range2 hg hm (pa_cons ha (pa_cons hb pa_nil hs2) (by rw [hs, hs2])) hs hs2) fun σ H R h => by
    obtain ⟨G, F, μ, ρ, st, k, l, r, d, hk⟩ := h
    refine bind1 l r d fun x H1 F1 μ1 px st1 e1 l1 r1 p1 q1 => bind1 l1 r1 q1 fun y H2 F2 μ2 py st2 e2 l2 r2 p2 q2 => ?_
    split at q2
    · rename_i m n
      obtain rfl := rep_int.mp p1
      obtain rfl := rep_int.mp p2
      obtain ⟨h1, h2, q2⟩ := q2
      exact ⟨m, n, rfl, ⟨h1.1, h1.2, h2.1, h2.2⟩, hk _ H2 F2 μ2 _ _ st2 (e1.trans e2) l2 wlk_range q2⟩
    · exact q2.elim
theorem vi_rev (hg : Gl X "reversed") (hm : X.mg "reversed" = none) (ha : VE X a ta) (hs : starEach [a] X.env = (false, eval a X.env) :: starEach [] X.env := by rfl) : VI X tg (.Call (.Name "reversed" p) [a] [] pos) (VM.iRev ta) :=
  pi_imp (RT.pi_revA hg hm ha hs) fun σ H R h => by
    obtain ⟨G, F, μ, ρ, st, k, l, r, d, hk⟩ := h
    refine bind1 l r d fun x H1 F1 μ1 px st1 e1 l1 r1 p1 q1 => ?_
    split at q1
    · rename_i xs ex
      have key : ∀ (a : Addr) (vs : List V), RepL X.K F1 μ1 xs vs → (∀ (G H F' : Hp) (μ' : List Addr) (st : Store), Ext F1 μ1 F' μ' → Lay X.K G F' μ' st H → VM.stays st1 px st → ∃ ws, H a = some (.lst ws) ∧ RepL X.K F' μ' xs ws) → Wlk X.K (Itv X.K a vs.length) F1 μ1 xs.reverse (VM.stays st1 px) := fun a vs q hst => {
        goes := fun G H F' μ' st i x l hs hi => by
          obtain ⟨ws, h1, h2⟩ := hst G H F' μ' st x l hs
          have hi' : i < xs.length := by simpa using hi
          have e1 := h2.length
          have e2 := q.length
          exact ⟨by omega, ws, ws[vs.length - 1 - i]'(by omega), .inl (.inl h1), by simp [show vs.length - 1 - i < ws.length by omega]⟩
        stops := fun G H F' μ' st x l hs => by
          show vs.length ≤ _
          rw [q.length]
          simp
        yields := fun G H F' μ' st i y v H2 x l hs hy hv => by
          obtain ⟨ws, h1, h2⟩ := hst G H F' μ' st x l hs
          obtain ⟨rfl, h3⟩ := hv
          have hi : i < xs.length := by
            have := (List.getElem?_eq_some_iff.mp hy).1
            simpa using this
          rw [List.getElem?_reverse hi] at hy
          obtain ⟨w, h4, h5⟩ := h2.get hy
          have h6 := h3 ws (.inl (.inl h1))
          rw [q.length, h4] at h6
          cases h6
          exact ⟨F', Ext.refl, l, h5⟩ }
      obtain ⟨a, vs, rfl, hH, q⟩ := asL_rep l1 p1 ex
      refine ⟨a, vs, rfl, .inl ⟨.inl (.inl hH), hk _ H1 F1 μ1 _ _ st1 e1 l1 (key a vs q fun G H F' μ' st x l hs => ?_) q1⟩⟩
      have p1' := p1.mono x
      have ex' : VM.asL st px = some xs := by
        cases px <;> simp only [VM.asL] at ex ⊢ <;> try exact ex
        rename_i i
        have hs' : st[i]? = st1[i]? := hs
        rw [hs']
        exact ex
      obtain ⟨a', ws, h1, h2, h3⟩ := asL_rep l p1' ex'
      cases h1
      exact ⟨ws, h2, h3⟩
    · exact q1.elim
def rG (K : PySem.W.Frag) (g : VM.TG) (sl : List Nat) : L2.TG := fun v σ H Q => ∃ G F μ ρ st k px, Lay K G F μ st H ∧ EnvR K F μ σ ρ ∧ Rep K F μ px v ∧ g px ρ st k ∧
  ∀ σ' ρ' st', Lay K G F μ st' H → EnvR K F μ σ' ρ' → σ'.length = σ.length → (∀ j, j ∉ sl → σ'[j]? = σ[j]?) → k ρ' st' → Q σ' H
abbrev VG (X : Cx) (tg : Expr) (g : VM.TG) (sl : List Nat) : Prop := PG X tg (rG X.K g sl)
def rGs (K : PySem.W.Frag) (g : List PV → VM.Env → Store → (VM.Env → Store → Prop) → Prop) (sl : List Nat) : L2.TGs := fun vs σ H Q => ∃ G F μ ρ st k pxs, Lay K G F μ st H ∧ EnvR K F μ σ ρ ∧ RepL K F μ pxs vs ∧ g pxs ρ st k ∧
  ∀ σ' ρ' st', Lay K G F μ st' H → EnvR K F μ σ' ρ' → σ'.length = σ.length → (∀ j, j ∉ sl → σ'[j]? = σ[j]?) → k ρ' st' → Q σ' H
theorem pg_imp {tg : Expr} {t t' : L2.TG} (h : PG X tg t) (hi : ∀ v σ H Q, t' v σ H Q → t v σ H Q) : PG X tg t' := ⟨fun pins s σ H v u Q I r q => h.run pins s σ H v u Q I r (hi v σ H Q q)⟩
theorem pgs_imp {ts : List Expr} {t t' : L2.TGs} (h : PGs X ts t) (hi : ∀ v σ H Q, t' v σ H Q → t v σ H Q) : PGs X ts t' := ⟨fun pins s σ H v u Q I r q => h.run pins s σ H v u Q I r (hi v σ H Q q)⟩
theorem vg_name {i : Nat} {x : Str} (hN : X.N.Nodup) (hi : X.N[i]? = some x) (hx : Loc X.env.scope x) (hf : X.fn x = true ∨ X.env.scope.names.lookup x = some .local) : VG X (.Name x pos) (VM.gName i) [i] := pg_imp (pg_name hN hi hx hf) fun v σ H Q h => by
  obtain ⟨G, F, μ, ρ, st, k, px, l, r, p, d, hk⟩ := h
  exact hk _ _ st l (r.set i p) (by simp) (fun j hj => List.getElem?_set_ne (fun z => hj (by simp [z]))) d
theorem vgs_nil : PGs X [] (rGs X.K (VM.gEach []) []) := pgs_imp pgs_nil fun vs σ H Q h => by
  obtain ⟨G, F, μ, ρ, st, k, pxs, l, r, p, d, hk⟩ := h
  cases pxs with
  | nil => exact ⟨repL_nil.mp p, hk σ ρ st l r rfl (fun _ _ => rfl) d⟩
  | cons => exact d.elim
theorem vgs_cons {es : List Expr} {g : VM.TG} {gs : List VM.TG} {sl sls : List Nat} (h1 : VG X e g sl) (h2 : PGs X es (rGs X.K (VM.gEach gs) sls)) (hs : (assignEach (e :: es) X.env).map (·.2) = assign e X.env :: (assignEach es X.env).map (·.2) := by rfl) :
    PGs X (e :: es) (rGs X.K (VM.gEach (g :: gs)) (sl ++ sls)) := pgs_imp (pgs_cons h1 h2 hs) fun vs σ H Q h => by
  obtain ⟨G, F, μ, ρ, st, k, pxs, l, r, p, d, hk⟩ := h
  cases pxs with
  | nil => exact d.elim
  | cons px pxs =>
    obtain ⟨v, w, rfl, p1, p2⟩ := repL_cons.mp p
    refine ⟨v, w, rfl, G, F, μ, ρ, st, _, px, l, r, p1, d, fun σ1 ρ1 st1 l1 r1 hl1 ho1 q1 => ?_⟩
    refine ⟨G, F, μ, ρ1, st1, k, pxs, l1, r1, p2, q1, fun σ2 ρ2 st2 l2 r2 hl2 ho2 q2 => ?_⟩
    exact hk σ2 ρ2 st2 l2 r2 (hl2.trans hl1) (fun j hj => (ho2 j fun z => hj (List.mem_append_right _ z)).trans (ho1 j fun z => hj (List.mem_append_left _ z))) q2
theorem vg_tup {es : List Expr} {gs : List VM.TG} {sl : List Nat} {kt : Nat} (hc : X.calm = true) (h : PGs X es (rGs X.K (VM.gEach gs) sl)) (hn : (assignEach es X.env).length = gs.length := by rfl) (hst : (assignEach es X.env).findIdx? (·.1) = none := by rfl) : VG X (.Tuple es kt pos) (VM.gTup gs) sl :=
  pg_imp (pg_tup hc h hn hst) fun v σ H Q h => by
    obtain ⟨G, F, μ, ρ, st, k, px, l, r, p, d, hk⟩ := h
    unfold VM.gTup at d
    split at d
    · rename_i xs
      obtain ⟨a, vs, rfl, e, q⟩ := rep_tup.mp p
      exact ⟨a, vs, rfl, l.same.seqT e, by rw [q.length]; exact d.1, G, F, μ, ρ, st, k, xs, l, r, q, d.2, hk⟩
    · exact d.elim
end
end VS
end
section
namespace VS
open PySem PySem.Spec PyProof.Rows L2
open VM (PV SO Store)
section
variable {K : PySem.W.Frag} {G F : Hp} {μ : List Addr} {H : Hp} {st : Store}
/-- a list or a tuple, through what goes on -/
theorem sq_rep {px : PV} {v : V} {xs : List PV} (l : Lay K G F μ st H) (r : Rep K F μ px v) (h : VM.sq st px = some xs) :
    ∃ b a, v = .ref a ∧ ∀ (G' H' F' : Hp) (μ' : List Addr) (st' : Store), Ext F μ F' μ' → Lay K G' F' μ' st' H' → VM.stays st px st' → ∃ vs, SqB b K H' a vs ∧ RepL K F' μ' xs vs := by
  by_cases ht : ∃ ys, px = .tup ys
  · obtain ⟨ys, rfl⟩ := ht
    cases h
    obtain ⟨a, vs, rfl, e, q⟩ := rep_tup.mp r
    exact ⟨false, a, rfl, fun G' H' F' μ' st' x l' _ => ⟨vs, l'.same.seqT (x.same.seqT e), q.mono x⟩⟩
  · have h2 : VM.asL st px = some xs := by
      cases px <;> first | exact h | exact (ht ⟨_, rfl⟩).elim
    obtain ⟨a, vs, rfl, _, _⟩ := asL_rep l r h2
    refine ⟨true, a, rfl, fun G' H' F' μ' st' x l' hs => ?_⟩
    have h3 : VM.asL st' px = some xs := by
      cases px <;> simp only [VM.asL] at h2 ⊢ <;> try exact h2
      rename_i i
      have hs' : st'[i]? = st[i]? := hs
      rw [hs']
      exact h2
    obtain ⟨a', ws, e1, e2, e3⟩ := asL_rep l' (r.mono x) h3
    cases e1
    exact ⟨ws, .inl (.inl e2), e3⟩
theorem Lay.guard (l : Lay K G F μ st H) {D : Addr} {o : HO} (h : H D = none) : Lay K (upd G D o) F μ st (upd H D o) where
  gd := fun a u e => by
    by_cases q : a = D
    · subst q
      rw [upd_same] at e ⊢
      exact ⟨e, l.free h, l.notin h⟩
    · rw [upd_ne q] at e ⊢
      exact l.gd a u e
  same := fun b v e => by rw [upd_ne (ne_of_none (l.same b v e) h)]; exact l.same b v e
  len := l.len
  nd := l.nd
  there := fun a ha => by
    by_cases q : a = D
    · exact ⟨o, by rw [q]; exact upd_same⟩
    · rw [upd_ne q]
      exact l.there a ha
  obj := fun i a u h1 h2 => by
    have q : a ≠ D := fun z => l.notin h (z ▸ List.mem_of_getElem? h1)
    exact (l.obj i a u h1 h2).mono Ext.refl rfl (upd_ne q)
theorem Lay.gset {D : Addr} {o o' : HO} (l : Lay K (upd G D o) F μ st H) : Lay K (upd G D o') F μ st (upd H D o') := by
  obtain ⟨h1, h2, h3⟩ := l.gd D o upd_same
  exact {
    gd := fun a u e => by
      by_cases q : a = D
      · subst q
        rw [upd_same] at e ⊢
        exact ⟨e, h2, h3⟩
      · rw [upd_ne q] at e ⊢
        exact l.gd a u (by rw [upd_ne q]; exact e)
    same := fun b v e => by rw [upd_ne (ne_of_none e h2)]; exact l.same b v e
    len := l.len
    nd := l.nd
    there := fun a ha => by
      by_cases q : a = D
      · exact ⟨o', by rw [q]; exact upd_same⟩
      · rw [upd_ne q]
        exact l.there a ha
    obj := fun i a u e1 e2 => by
      have q : a ≠ D := fun z => h3 (z ▸ List.mem_of_getElem? e1)
      exact (l.obj i a u e1 e2).mono Ext.refl rfl (upd_ne q) }
theorem Lay.unguard {D : Addr} {o : HO} (l : Lay K (upd G D o) F μ st H) (hG : G D = none) : Ext F μ (upd F D o) μ ∧ Lay K G (upd F D o) μ st H := by
  obtain ⟨h1, h2, h3⟩ := l.gd D o upd_same
  have x : Ext F μ (upd F D o) μ := ⟨fun a u e => by rw [upd_ne (ne_of_none e h2)]; exact e, [], by simp⟩
  exact ⟨x, {
    gd := fun a u e => by
      have q : a ≠ D := ne_of_none e hG
      obtain ⟨k1, k2, k3⟩ := l.gd a u (by rw [upd_ne q]; exact e)
      exact ⟨k1, by rw [upd_ne q]; exact k2, k3⟩
    same := fun a u e => by
      by_cases q : a = D
      · subst q
        rw [upd_same] at e
        cases e
        exact h1
      · rw [upd_ne q] at e
        exact l.same a u e
    len := l.len
    nd := l.nd
    there := l.there
    obj := fun i a u e1 e2 => by
      have q : a ≠ D := fun z => h3 (z ▸ List.mem_of_getElem? e1)
      exact (l.obj i a u e1 e2).mono x (upd_ne q) rfl }⟩
theorem wipe_at : ∀ {vs : List Nat} {σ : L2.St} {j : Nat}, j ∈ vs → (L2.wipe σ vs)[j]? = if j < σ.length then some none else none
  | [], _, _, h => by cases h
  | v :: vs, σ, j, h => by
    unfold L2.wipe
    by_cases e : v = j
    · subst e
      by_cases hj : v < σ.length
      · rw [if_pos hj, List.getElem?_set_self (by rw [L2.wipe_length]; exact hj)]
      · rw [if_neg hj, List.getElem?_eq_none (by rw [List.length_set, L2.wipe_length]; omega)]
    · rw [List.getElem?_set_ne e]
      exact wipe_at ((List.mem_cons.mp h).resolve_left (fun z => e z.symm))
theorem wipe_eq {vs : List Nat} {σ τ : L2.St} (hl : τ.length = σ.length) (h : ∀ j, j ∉ vs → τ[j]? = (L2.wipe σ vs)[j]?) : L2.wipe τ vs = L2.wipe σ vs := by
  apply List.ext_getElem?
  intro j
  by_cases hj : j ∈ vs
  · rw [wipe_at hj, wipe_at hj, hl]
  · rw [L2.wipe_out hj, h j hj]
end
section
variable {X : Cx} {a b c e : Expr} {ta tb tc te : VM.TE} {t1 t2 : VM.TT} {pos p2 p : Pos} {es rest : List Expr} {tas : VM.TA} {x : Str} {tg : Expr}
theorem vi_zip {elts : List Expr} {kk : Nat} {tpos : Pos} (hg : Gl X "zip") (hm : X.mg "zip" = none) (ha : VE X a ta) (hb : VE X b tb) (hs : starEach [a, b] X.env = (false, eval a X.env) :: starEach [b] X.env := by rfl) (hs2 : starEach [b] X.env = (false, eval b X.env) :: starEach [] X.env := by rfl) (hpl : (backTo pos (starEach [b] X.env)).any (·.1) = false := by rfl) :
    VI X (.Tuple elts kk tpos) (.Call (.Name "zip" p) [a, b] [] pos) (VM.iZip ta tb) :=
  pi_imp (pi_zipB hg hm (pa_cons ha (pa_cons hb pa_nil hs2) hs) hs hpl) fun σ H R h => by
    obtain ⟨G, F, μ, ρ, st, k, l, r, d, hk⟩ := h
    refine bind1 l r d fun x H1 F1 μ1 px st1 e1 l1 r1 p1 q1 => bind1 l1 r1 q1 fun y H2 F2 μ2 py st2 e2 l2 r2 p2 q2 => ?_
    split at q2
    · rename_i xs ys hx hy
      obtain ⟨b1, a, rfl, f1⟩ := sq_rep l2 (p1.mono e2) hx
      obtain ⟨b2, b, rfl, f2⟩ := sq_rep l2 p2 hy
      obtain ⟨vs, s1, g1⟩ := f1 G H2 F2 μ2 st2 Ext.refl l2 (stays_self _ _)
      obtain ⟨ws, s2, g2⟩ := f2 G H2 F2 μ2 st2 Ext.refl l2 (stays_self _ _)
      refine ⟨a, b, vs, ws, b1, b2, rfl, s1, s2, hk _ H2 F2 μ2 _ _ st2 (e1.trans e2) l2 ?_ q2⟩
      exact {
        goes := fun G H F' μ' st i x l hs hi => by
          obtain ⟨vs, s1, g1⟩ := f1 G H F' μ' st x l hs.1
          obtain ⟨ws, s2, g2⟩ := f2 G H F' μ' st x l hs.2
          rw [List.length_zipWith] at hi
          have l1 := g1.length
          have l2 := g2.length
          exact ⟨vs, ws, vs[i]'(by omega), ws[i]'(by omega), s1, s2, by simp [show i < vs.length by omega], by simp [show i < ws.length by omega]⟩
        stops := fun G H F' μ' st x l hs => by
          obtain ⟨vs, s1, g1⟩ := f1 G H F' μ' st x l hs.1
          obtain ⟨ws, s2, g2⟩ := f2 G H F' μ' st x l hs.2
          exact ⟨vs, ws, s1, s2, by rw [List.length_zipWith, g1.length, g2.length]⟩
        yields := fun G H F' μ' st i y v H2 x l hs hy hv => by
          obtain ⟨vs, s1, g1⟩ := f1 G H F' μ' st x l hs.1
          obtain ⟨ws, s2, g2⟩ := f2 G H F' μ' st x l hs.2
          obtain ⟨T, u, w, rfl, nT, rfl, k1, k2⟩ := hv
          rw [List.getElem?_zipWith] at hy
          cases ex : xs[i]? with
          | none => rw [ex] at hy; cases hy
          | some p =>
            cases ey : ys[i]? with
            | none => rw [ex, ey] at hy; cases hy
            | some q =>
              rw [ex, ey] at hy
              cases hy
              obtain ⟨u', m1, m2⟩ := g1.get ex
              obtain ⟨w', m3, m4⟩ := g2.get ey
              have n1 := k1 vs s1
              have n2 := k2 ws s2
              rw [m1] at n1
              rw [m3] at n2
              cases n1
              cases n2
              refine ⟨upd F' T (.tup [u, w]), ext_upd l nT, l.new nT, rep_tup.mpr ⟨T, [u, w], rfl, .inl (.inl upd_same), ?_⟩⟩
              exact repL_cons.mpr ⟨u, [w], rfl, m2.mono (ext_upd l nT), repL_cons.mpr ⟨w, [], rfl, m4.mono (ext_upd l nT), repL_nil.mpr rfl⟩⟩ }
    · exact q2.elim

theorem lc_gen {wi : L2.TI} {i : VM.TI} {g : VM.TG} {t : VM.TT} {te : VM.TE} {vs sl : List Nat} (hsl : ∀ j ∈ sl, j ∈ vs) {K : PySem.W.Frag} {σ : L2.St} {H : Hp} {Q : VK} (h : ∃ G F μ ρ st, ∃ k : List PV → Store → Prop, Lay K G F μ st H ∧ EnvR K F μ σ ρ ∧ i ρ st (fun xs stay st => VM.compGo g t te vs stay xs [] (VM.wipe ρ vs) st k) nox ∧ ∀ (D : Addr) (H' F' : Hp) (μ' : List Addr) (acc : List PV) (ws : List V) (st' : Store), Ext F μ F' μ' → G D = none → Lay K (upd G D (.lst ws)) F' μ' st' H' → RepL K F' μ' acc ws → k acc st' → Q (.ref D) H') :
    tLc (VS.rI K i) (rG K g sl) (rT K t) (rE K te) vs σ H Q := by
  obtain ⟨G, F, μ, ρ, st, k, l, r, d, hk⟩ := h
  refine ⟨G, F, μ, ρ, st, _, l, r, d, fun J H1 F1 μ1 xs stay st1 e1 l1 w q => ?_⟩
  intro D hD
  have hG : G D = none := by
    cases ge : G D with
    | none => rfl
    | some o =>
      have := (l1.gd D o ge).1
      rw [hD] at this
      cases this
  refine ⟨fun i m H => m = xs.length - i ∧ i ≤ xs.length ∧ ∃ F' μ' acc ws st', Ext F1 μ1 F' μ' ∧ Lay K (upd G D (.lst ws)) F' μ' st' H ∧ RepL K F' μ' acc ws ∧ VM.compGo g t te vs stay (xs.drop i) acc (VM.wipe ρ vs) st' k,
    ⟨xs.length, by simp, Nat.zero_le _, F1, μ1, [], [], st1, Ext.refl, l1.guard hD, repL_nil.mpr rfl, q⟩, ?_⟩
  rintro i m H ⟨rfl, hi, F', μ', acc, ws, st', e2, l2, ra, q2⟩
  have rr : ∀ {F2 : Hp} {μ2 : List Addr}, Ext F μ F2 μ2 → EnvR K F2 μ2 (L2.wipe σ vs) (VM.wipe ρ vs) := fun x => (r.mono x).wipe vs
  by_cases hlt : i < xs.length
  · rw [List.drop_eq_getElem_cons hlt] at q2
    obtain ⟨hstay, q2⟩ := q2
    refine .inr ⟨w.goes _ H F' μ' st' i e2 l2 hstay hlt, fun H' => xs.length - (i + 1) = xs.length - (i + 1) ∧ i + 1 ≤ xs.length ∧ ∃ F' μ' acc ws st', Ext F1 μ1 F' μ' ∧ Lay K (upd G D (.lst ws)) F' μ' st' H' ∧ RepL K F' μ' acc ws ∧ VM.compGo g t te vs stay (xs.drop (i + 1)) acc (VM.wipe ρ vs) st' k, fun H' p' => ⟨xs.length - (i + 1), by omega, p'⟩, fun x H' hy => ?_⟩
    obtain ⟨F3, e3, l3, rx⟩ := w.yields _ H F' μ' st' i xs[i] x H' e2 l2 hstay (by simp [hlt]) hy
    refine ⟨_, F3, μ', _, st', _, xs[i], l3, rr ((e1.trans e2).trans e3), rx, q2, fun σ4 ρ4 st4 l4 r4 len4 out4 q4 => ?_⟩
    refine ⟨wipe_eq (len4.trans (L2.wipe_length _ _)) fun j hj => out4 j fun z => hj (hsl j z), ?_⟩
    refine bindT l4 r4 q4 fun b H5 F5 μ5 st5 e5 l5 r5 q5 => ?_
    cases b with
    | true =>
      rw [if_pos rfl] at q5 ⊢
      refine bind1 l5 r5 q5 fun y H6 F6 μ6 py st6 e6 l6 r6 p6 q6 => ?_
      obtain ⟨hz, q6⟩ := q6
      have ra' := ((ra.mono e3).mono e5).mono e6
      refine ⟨ws, (l6.gd D _ upd_same).1, by rw [ra.length, sizeLine_eq]; exact hz, rfl, by omega, F6, μ6, acc ++ [py], ws ++ [y], st6, ((e2.trans e3).trans e5).trans e6, ?_, ra'.append (repL_cons.mpr ⟨y, [], rfl, p6, repL_nil.mpr rfl⟩), q6⟩
      exact l6.gset
    | false =>
      rw [if_neg Bool.false_ne_true] at q5 ⊢
      exact ⟨rfl, by omega, F5, μ5, acc, ws, st5, (e2.trans e3).trans e5, l5, (ra.mono e3).mono e5, q5⟩
  · have e : i = xs.length := by omega
    subst e
    rw [List.drop_length] at q2
    refine .inl ⟨w.stops _ H F' μ' st' e2 l2 q2.1, ?_⟩
    exact hk D H F' μ' acc ws st' (e1.trans e2) hG l2 ra q2.2
theorem lc_imp {wi : L2.TI} {i : VM.TI} {g : VM.TG} {t : VM.TT} {te : VM.TE} {vs sl : List Nat} (hsl : ∀ j ∈ sl, j ∈ vs) {K : PySem.W.Frag} {σ : L2.St} {H : Hp} {Q : VK} (h : rE K (VM.eComp i g t te vs) σ H Q) :
    tLc (VS.rI K i) (rG K g sl) (rT K t) (rE K te) vs σ H Q := by
  obtain ⟨G, F, μ, ρ, st, k, l, r, d, hk⟩ := h
  refine lc_gen (wi := fun _ _ _ => True) hsl ⟨G, F, μ, ρ, st, _, l, r, d, fun D H' F' μ' acc ws st' e hG l2 ra q => ?_⟩
  obtain ⟨e3, l3⟩ := l2.unguard hG
  exact hk (.ref D) H' _ μ' (.lst acc) st' (e.trans e3) l3 (rep_lst.mpr ⟨D, ws, rfl, upd_same, ra.mono e3⟩) q
theorem Lay.ungset {K : PySem.W.Frag} {G F : Hp} {μ : List Addr} {st : Store} {H : Hp} {D : Addr} {ws : List V} {acc : List PV} (l : Lay K (upd G D (.lst ws)) F μ st H) (hG : G D = none) (ra : RepL K F μ acc ws) : Lay K G F (μ ++ [D]) (st ++ [.lst acc]) H := by
  obtain ⟨h1, h2, h3⟩ := l.gd D _ upd_same
  exact {
    gd := fun a u e => by
      have q : a ≠ D := ne_of_none e hG
      obtain ⟨k1, k2, k3⟩ := l.gd a u (by rw [upd_ne q]; exact e)
      exact ⟨k1, k2, fun z => (List.mem_append.mp z).elim k3 fun z => q (by simpa using z)⟩
    same := l.same
    len := by simp [l.len]
    nd := List.nodup_append.mpr ⟨l.nd, by simp, fun a ha b hb => by
      have e : b = D := by simpa using hb
      subst e
      exact fun z => h3 (z ▸ ha)⟩
    there := fun a ha => by
      rcases List.mem_append.mp ha with ha | ha
      · exact l.there a ha
      · have e : a = D := by simpa using ha
        exact ⟨_, by rw [e]; exact h1⟩
    obj := fun i a v e1 e2 => by
      by_cases hi : i < μ.length
      · rw [List.getElem?_append_left hi] at e1
        rw [List.getElem?_append_left (by rw [← l.len]; exact hi)] at e2
        exact (l.obj i a v e1 e2).mono (ext_alloc D) rfl rfl
      · have e : i = μ.length := by
          have := (List.getElem?_eq_some_iff.mp e1).1
          simp at this
          omega
        subst e
        rw [List.getElem?_append_right (Nat.le_refl _)] at e1
        rw [l.len, List.getElem?_append_right (Nat.le_refl _)] at e2
        simp at e1 e2
        subst e1 e2
        exact ⟨h2, ws, h1, ra.mono (ext_alloc D)⟩ }
theorem lc_impM {wi : L2.TI} {i : VM.TI} {g : VM.TG} {t : VM.TT} {te : VM.TE} {vs sl : List Nat} (hsl : ∀ j ∈ sl, j ∈ vs) {K : PySem.W.Frag} {σ : L2.St} {H : Hp} {Q : VK} (h : rE K (VM.eCompM i g t te vs) σ H Q) :
    tLc (VS.rI K i) (rG K g sl) (rT K t) (rE K te) vs σ H Q := by
  obtain ⟨G, F, μ, ρ, st, k, l, r, d, hk⟩ := h
  refine lc_gen (wi := fun _ _ _ => True) hsl ⟨G, F, μ, ρ, st, _, l, r, d, fun D H' F' μ' acc ws st' e hG l2 ra q => ?_⟩
  refine hk (.ref D) H' F' (μ' ++ [D]) (.ref st'.length) _ (e.trans (ext_alloc D)) (l2.ungset hG ra) (rep_ref.mpr ⟨D, ?_, rfl⟩) q
  rw [← l2.len, List.getElem?_append_right (Nat.le_refl _)]
  simp
abbrev BX (X : Cx) (scope : Scope) : Shared → Hp → Addr → List (Str × Addr) → List Addr → Cx := fun s H C cl fp => X.blk s H scope (compEnvC scope cl C X.env) fp
theorem ve_comp {elt iter : Expr} {ifs : List Expr} {scope : Scope} {own : List (Str × Nat)} {i : VM.TI} {g : VM.TG} {t : VM.TT} {sl : List Nat} (hc : X.calm = true) (hN : X.N.Nodup) (ok : BlkOk X.N X.env.scope scope own) (hi : VI X tg iter i) (hsl : ∀ j ∈ sl, j ∈ own.map (·.2))
    (hg : ∀ s H C cl fp, VG (BX X scope s H C cl fp) tg g sl) (ht : ∀ s H C cl fp, PTs (BX X scope s H C cl fp) ifs (rT X.K t)) (he : ∀ s H C cl fp, VE (BX X scope s H C cl fp) elt te) (hs : ∀ x, foldedSetIterable iter X.env x = pure x := by intro _; rfl) :
    VE X (.ListComp elt [⟨tg, iter, ifs, 0⟩] scope pos) (VM.eComp i g t te (own.map (·.2))) := pe_imp (pe_lc hc hN hi ok hg ht he hs) fun σ H Q h => lc_imp (wi := fun _ _ _ => True) hsl h
theorem ve_compM {elt iter : Expr} {ifs : List Expr} {scope : Scope} {own : List (Str × Nat)} {i : VM.TI} {g : VM.TG} {t : VM.TT} {sl : List Nat} (hc : X.calm = true) (hN : X.N.Nodup) (ok : BlkOk X.N X.env.scope scope own) (hi : VI X tg iter i) (hsl : ∀ j ∈ sl, j ∈ own.map (·.2))
    (hg : ∀ s H C cl fp, VG (BX X scope s H C cl fp) tg g sl) (ht : ∀ s H C cl fp, PTs (BX X scope s H C cl fp) ifs (rT X.K t)) (he : ∀ s H C cl fp, VE (BX X scope s H C cl fp) elt te) (hs : ∀ x, foldedSetIterable iter X.env x = pure x := by intro _; rfl) :
    VE X (.ListComp elt [⟨tg, iter, ifs, 0⟩] scope pos) (VM.eCompM i g t te (own.map (·.2))) := pe_imp (pe_lc hc hN hi ok hg ht he hs) fun σ H Q h => lc_impM (wi := fun _ _ _ => True) hsl h
theorem vts_nil : PTs X [] (rT X.K VM.tYes) := by
  refine ⟨fun pins s σ H Q I h => ?_⟩
  obtain ⟨G, F, μ, ρ, st, k, l, r, d, hk⟩ := h
  exact pts_nil.run pins s σ H Q I (hk true H F μ st Ext.refl l d)
theorem vts_one (h : VT X c t1) : PTs X [c] (rT X.K t1) := pts_one h
def KonR (K : PySem.W.Frag) (G F : Hp) (μ : List Addr) (k : VM.Env → Store → Prop) (Q : L2.St → Hp → Prop) : Prop := ∀ (σ' : L2.St) (H' F' : Hp) (μ' : List Addr) (ρ' : VM.Env) (st' : Store), Ext F μ F' μ' → Lay K G F' μ' st' H' → EnvR K F' μ' σ' ρ' → k ρ' st' → Q σ' H'
theorem KonR.mono {K : PySem.W.Frag} {G F F' : Hp} {μ μ' : List Addr} {k : VM.Env → Store → Prop} {Q : L2.St → Hp → Prop} (h : KonR K G F μ k Q) (e : Ext F μ F' μ') : KonR K G F' μ' k Q := fun σ' H' F2 μ2 ρ' st' e2 => h σ' H' F2 μ2 ρ' st' (e.trans e2)
structure KonS (K : PySem.W.Frag) (G F : Hp) (μ : List Addr) (DV : VM.Ends) (D : L2.Ends) : Prop where
  nx : KonR K G F μ DV.nx D.nx
  rt : Kon K G F μ DV.rt D.rt
  bk : KonR K G F μ DV.bk D.bk
  ct : KonR K G F μ DV.ct D.ct
  xk : DV.xk = nox
theorem KonS.mono {K : PySem.W.Frag} {G F F' : Hp} {μ μ' : List Addr} {DV : VM.Ends} {D : L2.Ends} (h : KonS K G F μ DV D) (e : Ext F μ F' μ') : KonS K G F' μ' DV D := ⟨h.nx.mono e, h.rt.mono e, h.bk.mono e, h.ct.mono e, h.xk⟩
def rS (K : PySem.W.Frag) (t : VM.TS) : L2.TS := fun D σ H => ∃ G F μ ρ st DV, Lay K G F μ st H ∧ EnvR K F μ σ ρ ∧ t DV ρ st ∧ KonS K G F μ DV D
abbrev VSt (X : Cx) (s : Stmt) (t : VM.TS) : Prop := PS X s (rS X.K t)
abbrev VB (X : Cx) (s : List Stmt) (t : VM.TS) : Prop := PSs X s (rS X.K t)
theorem ps_imp {s : Stmt} {t t' : L2.TS} (h : PS X s t) (hi : ∀ D σ H, t' D σ H → t D σ H) : PS X s t' := ⟨fun pins s σ H D I q => h.run pins s σ H D I (hi D σ H q)⟩
theorem pss_imp {s : List Stmt} {t t' : L2.TS} (h : PSs X s t) (hi : ∀ D σ H, t' D σ H → t D σ H) : PSs X s t' := ⟨fun pins s σ H D I q => h.run pins s σ H D I (hi D σ H q)⟩
variable {s1 : Stmt} {ss ss2 : List Stmt} {u u2 : VM.TS}
theorem vb_nil : VB X [] VM.sNil := pss_imp pss_nil fun D σ H h => by
  obtain ⟨G, F, μ, ρ, st, DV, l, r, d, hk⟩ := h
  exact hk.nx σ H F μ ρ st Ext.refl l r d
theorem vb_cons (h1 : VSt X s1 u) (h2 : VB X ss u2) : VB X (s1 :: ss) (VM.sCons u u2) := pss_imp (pss_cons h1 h2) fun D σ H h => by
  obtain ⟨G, F, μ, ρ, st, DV, l, r, d, hk⟩ := h
  exact ⟨G, F, μ, ρ, st, _, l, r, d, ⟨fun σ' H' F' μ' ρ' st' e l' r' q => ⟨G, F', μ', ρ', st', DV, l', r', q, hk.mono e⟩, hk.rt, hk.bk, hk.ct, hk.xk⟩⟩
theorem vb_one (h1 : VSt X s1 u) : VB X [s1] u := pss_one h1
theorem vs_doc {x j p1 p2} : VSt X (.Expr (.Constant (.str x) j p1) p2) VM.sNil := ps_imp ps_doc fun D σ H h => by
  obtain ⟨G, F, μ, ρ, st, DV, l, r, d, hk⟩ := h
  exact hk.nx σ H F μ ρ st Ext.refl l r d
theorem vs_pass : VSt X (.Pass pos) VM.sNil := ps_imp ps_pass fun D σ H h => by
  obtain ⟨G, F, μ, ρ, st, DV, l, r, d, hk⟩ := h
  exact hk.nx σ H F μ ρ st Ext.refl l r d
theorem vs_break : VSt X (.Break pos) VM.sBreak := ps_imp ps_break fun D σ H h => by
  obtain ⟨G, F, μ, ρ, st, DV, l, r, d, hk⟩ := h
  exact hk.bk σ H F μ ρ st Ext.refl l r d
theorem vs_cont : VSt X (.Continue pos) VM.sCont := ps_imp ps_continue fun D σ H h => by
  obtain ⟨G, F, μ, ρ, st, DV, l, r, d, hk⟩ := h
  exact hk.ct σ H F μ ρ st Ext.refl l r d
theorem vs_never : VSt X s1 VM.sNever := ps_imp ps_never fun D σ H h => by
  obtain ⟨G, F, μ, ρ, st, DV, l, r, d, hk⟩ := h
  exact d.elim
theorem vb_never : VB X ss VM.sNever := pss_imp pss_never fun D σ H h => by
  obtain ⟨G, F, μ, ρ, st, DV, l, r, d, hk⟩ := h
  exact d.elim
theorem vs_expr (he : VE X e te) (hs : swapsWith e none pos.line X.env = pure false := by rfl) : VSt X (.Expr e pos) (VM.sExpr te) := ps_imp (ps_expr he hs) fun D σ H h => by
  obtain ⟨G, F, μ, ρ, st, DV, l, r, d, hk⟩ := h
  unfold VM.sExpr at d
  rw [hk.xk] at d
  exact bind1 l r d fun x H1 F1 μ1 px st1 e1 l1 r1 p1 q1 => hk.nx σ H1 F1 μ1 ρ st1 e1 l1 r1 q1
theorem vs_ret (he : VE X e te) : VSt X (.Return (some e) pos) (VM.sRet te) := ps_imp (ps_ret he) fun D σ H h => by
  obtain ⟨G, F, μ, ρ, st, DV, l, r, d, hk⟩ := h
  unfold VM.sRet at d
  rw [hk.xk] at d
  exact bind1 l r d fun x H1 F1 μ1 px st1 e1 l1 r1 p1 q1 => hk.rt x H1 F1 μ1 px st1 e1 l1 p1 q1
theorem vs_retN : VSt X (.Return none pos) VM.sRetN := ps_imp ps_retN fun D σ H h => by
  obtain ⟨G, F, μ, ρ, st, DV, l, r, d, hk⟩ := h
  exact hk.rt _ H F μ .non st Ext.refl l (rep_non.mpr rfl) d
theorem vs_if (hc : VT X c t1) (ha : VB X ss u) (hb : VB X ss2 u2) : VSt X (.If c ss ss2 pos) (VM.sIf t1 u u2) := ps_imp (ps_if hc ha hb) fun D σ H h => by
  obtain ⟨G, F, μ, ρ, st, DV, l, r, d, hk⟩ := h
  unfold VM.sIf at d
  rw [hk.xk] at d
  refine bindT l r d fun b H1 F1 μ1 st1 e1 l1 r1 q1 => ?_
  cases b with
  | true =>
    rw [if_pos rfl] at q1 ⊢
    exact ⟨G, F1, μ1, ρ, st1, DV, l1, r1, q1, hk.mono e1⟩
  | false =>
    rw [if_neg Bool.false_ne_true] at q1 ⊢
    exact ⟨G, F1, μ1, ρ, st1, DV, l1, r1, q1, hk.mono e1⟩
theorem asg_imp {g : VM.TG} {sl : List Nat} {K : PySem.W.Frag} {D : L2.Ends} {σ : L2.St} {H : Hp} (h : rS K (VM.sSet g te) D σ H) : tAsg (rE K te) (rG K g sl) D σ H := by
  obtain ⟨G, F, μ, ρ, st, DV, l, r, d, hk⟩ := h
  unfold VM.sSet at d
  rw [hk.xk] at d
  exact bind1 l r d fun x H1 F1 μ1 px st1 e1 l1 r1 p1 q1 => ⟨G, F1, μ1, ρ, st1, _, px, l1, r1, p1, q1, fun σ' ρ' st' l' r' _ _ q => hk.nx σ' H1 F1 μ1 ρ' st' e1 l' r' q⟩
theorem vs_asg {g : VM.TG} {sl : List Nat} (he : VE X e te) (hg : VG X tg g sl) (hs : swapsWithSole [tg] e pos.line X.env = pure false := by rfl) (hw : swappedStores [tg] e X.env = pure none := by rfl)
    (h1 : (assignEach [tg] X.env).map (·.2) = [assign tg X.env] := by rfl) : VSt X (.Assign [tg] e pos) (VM.sSet g te) := ps_imp (ps_asg he hg hs hw h1) fun D σ H h => asg_imp h
theorem set_imp {i : Nat} {K : PySem.W.Frag} {D : L2.Ends} {σ : L2.St} {H : Hp} (h : rS K (VM.sSet (VM.gName i) te) D σ H) : tAsg (rE K te) (gName i) D σ H := by
  obtain ⟨G, F, μ, ρ, st, DV, l, r, d, hk⟩ := h
  unfold VM.sSet at d
  rw [hk.xk] at d
  exact bind1 l r d fun x H1 F1 μ1 px st1 e1 l1 r1 p1 q1 => hk.nx _ H1 F1 μ1 _ st1 e1 l1 (r1.set i p1) q1
theorem vs_set {i : Nat} {y : Str} {pos' : Pos} (hN : X.N.Nodup) (hi : X.N[i]? = some y) (hx : Loc X.env.scope y) (he : VE X e te) (hs : swapsWith e (some (.Name y pos')) pos.line X.env = pure false := by rfl) (hf : X.fn y = true ∨ X.env.scope.names.lookup y = some .local := by first | exact .inl rfl | exact .inr rfl | assumption) :
    VSt X (.Assign [.Name y pos'] e pos) (VM.sSet (VM.gName i) te) := ps_imp (ps_set hN hi hx he hs hf) fun D σ H h => set_imp h
/-- name = [..] on one line -/
theorem vs_setc {i0 : Nat} {y : Str} {py : Pos} {elt iter : Expr} {ifs : List Expr} {scope : Scope} {own : List (Str × Nat)} {spos : Pos} {i : VM.TI} {g : VM.TG} {t : VM.TT} {sl : List Nat} (hc : X.calm = true) (hN : X.N.Nodup) (hy : X.N[i0]? = some y) (hyl : X.env.scope.names.lookup y = some .local)
    (hsw : swapsWith (.ListComp elt [⟨tg, iter, ifs, 0⟩] scope pos) (some (.Name y py)) spos.line X.env = pure true) (ok : BlkOk X.N X.env.scope scope own) (hi : VI X tg iter i) (hsl : ∀ j ∈ sl, j ∈ own.map (·.2))
    (hg : ∀ s H C cl fp, VG (BX X scope s H C cl fp) tg g sl) (ht : ∀ s H C cl fp, PTs (BX X scope s H C cl fp) ifs (rT X.K t)) (he : ∀ s H C cl fp, VE (BX X scope s H C cl fp) elt te) (hs : ∀ x, foldedSetIterable iter X.env x = pure x := by intro _; rfl) :
    VSt X (.Assign [.Name y py] (.ListComp elt [⟨tg, iter, ifs, 0⟩] scope pos) spos) (VM.sSet (VM.gName i0) (VM.eComp i g t te (own.map (·.2)))) := ps_imp (ps_setLc hc hN hy hyl hsw hi ok hg ht he hs) fun D σ H h =>
  lc_imp (wi := fun _ _ _ => True) hsl (show rE X.K _ σ H (fun x H1 => gName i0 x σ H1 D.nx) from set_imp h)
/-- name = [..] on one line -/
theorem vs_setcM {i0 : Nat} {y : Str} {py : Pos} {elt iter : Expr} {ifs : List Expr} {scope : Scope} {own : List (Str × Nat)} {spos : Pos} {i : VM.TI} {g : VM.TG} {t : VM.TT} {sl : List Nat} (hc : X.calm = true) (hN : X.N.Nodup) (hy : X.N[i0]? = some y) (hyl : X.env.scope.names.lookup y = some .local)
    (hsw : swapsWith (.ListComp elt [⟨tg, iter, ifs, 0⟩] scope pos) (some (.Name y py)) spos.line X.env = pure true) (ok : BlkOk X.N X.env.scope scope own) (hi : VI X tg iter i) (hsl : ∀ j ∈ sl, j ∈ own.map (·.2))
    (hg : ∀ s H C cl fp, VG (BX X scope s H C cl fp) tg g sl) (ht : ∀ s H C cl fp, PTs (BX X scope s H C cl fp) ifs (rT X.K t)) (he : ∀ s H C cl fp, VE (BX X scope s H C cl fp) elt te) (hs : ∀ x, foldedSetIterable iter X.env x = pure x := by intro _; rfl) :
    VSt X (.Assign [.Name y py] (.ListComp elt [⟨tg, iter, ifs, 0⟩] scope pos) spos) (VM.sSet (VM.gName i0) (VM.eCompM i g t te (own.map (·.2)))) := ps_imp (ps_setLc hc hN hy hyl hsw hi ok hg ht he hs) fun D σ H h =>
  lc_impM (wi := fun _ _ _ => True) hsl (show rE X.K _ σ H (fun x H1 => gName i0 x σ H1 D.nx) from set_imp h)
/-- a, b = x, y -/
theorem vs_par {i j : Nat} {y z : Str} {px py pt : Pos} {kt k2 pt2} (hc : X.calm = true) (hN : X.N.Nodup) (hi : X.N[i]? = some y) (hj : X.N[j]? = some z) (hij : i ≠ j)
    (hx : X.env.scope.names.lookup y = some .local) (hy : X.env.scope.names.lookup z = some .local) (ha : VA X [a, b] tas)
    (hw : swappedStores [.Tuple [.Name y px, .Name z py] kt pt] (.Tuple [a, b] k2 pt2) X.env = pure (some [y, z]))
    (hs : swapsWithSole [.Tuple [.Name y px, .Name z py] kt pt] (.Tuple [a, b] k2 pt2) pos.line X.env = pure false := by rfl) :
    VSt X (.Assign [.Tuple [.Name y px, .Name z py] kt pt] (.Tuple [a, b] k2 pt2) pos) (VM.sPar [i, j] tas) := ps_imp (ps_par hc hN hi hj hij hx hy ha hw hs) fun D σ H h => by
  obtain ⟨G, F, μ, ρ, st, DV, l, r, d, hk⟩ := h
  unfold VM.sPar at d
  rw [hk.xk] at d
  refine bindA l r d fun vs H1 F1 μ1 pvs st1 e1 l1 r1 p1 q1 => ?_
  match pvs, q1 with
  | [p, q], q1 =>
    obtain ⟨v, _, rfl, rv, p1⟩ := repL_cons.mp p1
    obtain ⟨w, _, rfl, rw', p1⟩ := repL_cons.mp p1
    obtain rfl := repL_nil.mp p1
    exact ⟨v, w, rfl, hk.nx _ H1 F1 μ1 _ st1 e1 l1 ((r1.set i rv).set j rw') q1⟩
  | [], q1 => exact q1.elim
  | [_], q1 => exact q1.elim
  | _ :: _ :: _ :: _, q1 => exact q1.elim
theorem ixN_of {n : Nat} {i : Int} {j : Nat} (h : VM.ix n i = some j) : ixN n i = some j := by
  unfold VM.ix at h
  unfold ixN
  split at h <;> rename_i h0
  · split at h <;> rename_i h1
    · cases h
      first
        | (rw [if_pos h0, if_pos h1])
        | (simp only [h0, h1, if_true]; omega)
        | (simp [h0, h1])
    · cases h
  · split at h <;> rename_i h1
    · cases h
      first
        | (rw [if_neg h0, if_pos h1])
        | (simp [h0, h1])
    · cases h
theorem vs_setix {o i : Expr} {p3 : Pos} (he : VE X e te) (ho : VE X o ta) (hi : VE X i tb)
    (ha : ∀ v, assign (.Subscript o i p3) X.env v = (do
      let ov ← holding [v] (eval o X.env)
      let iv ← holding [v, ov] (eval i X.env)
      standAt p3
      holding [v, ov, iv] (setItem ov iv v)
      release [v, ov, iv] []) := by intro _; rfl)
    (hs : swapsWithSole [.Subscript o i p3] e pos.line X.env = pure false := by rfl) (hw : swappedStores [.Subscript o i p3] e X.env = pure none := by rfl)
    (h1 : (assignEach [.Subscript o i p3] X.env).map (·.2) = [assign (.Subscript o i p3) X.env] := by rfl) : VSt X (.Assign [.Subscript o i p3] e pos) (VM.sSetIx ta tb te) :=
  ps_imp (ps_asg he (pg_sub ho hi set_list ha) hs hw h1) fun D σ H h => by
    obtain ⟨G, F, μ, ρ, st, DV, l, r, d, hk⟩ := h
    unfold VM.sSetIx at d
    rw [hk.xk] at d
    refine bind1 l r d fun w H1 F1 μ1 pw st1 e1 l1 r1 p1 q1 => bind1 l1 r1 q1 fun o H2 F2 μ2 po st2 e2 l2 r2 p2 q2 => bind1 l2 r2 q2 fun i H3 F3 μ3 pi st3 e3 l3 r3 p3 q3 => ?_
    unfold VM.setIx at q3
    split at q3
    · rename_i j z
      obtain rfl := rep_int.mp p3
      obtain ⟨a, ea, rfl⟩ := rep_ref.mp (p2.mono e3)
      split at q3
      · rename_i xs ex
        split at q3
        · rename_i n en
          obtain ⟨hf, vs, hh, rl⟩ := l3.obj j a _ ea ex
          refine ⟨a, vs, z, n, rfl, rfl, hh, ixN_of (by rw [rl.length]; exact en), hk.nx σ _ F3 μ3 ρ _ ((e1.trans e2).trans e3) (l3.put ea ?_ hf) r3 q3⟩
          exact ⟨hf, _, upd_same, rl.set n ((p1.mono e2).mono e3)⟩
        · exact q3.elim
      · exact q3.elim
    · exact q3.elim
theorem vs_for {iter : Expr} {body : List Stmt} {i : VM.TI} {g : VM.TG} {b : VM.TS} {sl : List Nat} (hp : PassesOwn (model X.prog X.w) X.A X.env X.xe) (hc : X.calm = true) (hi : VI X tg iter i) (hg : VG X tg g sl) (hb : VB X body b)
    (hs : ∀ x, foldedSetIterable iter X.env x = pure x := by intro _; rfl) : VSt X (.For tg iter body [] pos) (VM.sFor i g b) := ps_imp (ps_for hp hc hi hg hb hs) fun D σ H h => by
  obtain ⟨G, F, μ, ρ, st, DV, l, r, d, hk⟩ := h
  unfold VM.sFor at d
  rw [hk.xk] at d
  refine ⟨G, F, μ, ρ, st, _, l, r, d, fun J H1 F1 μ1 xs stay st1 e1 l1 w q => ?_⟩
  refine ⟨fun i m σ H => m = xs.length - i ∧ i ≤ xs.length ∧ ∃ F' μ' ρ' st', Ext F1 μ1 F' μ' ∧ Lay X.K G F' μ' st' H ∧ EnvR X.K F' μ' σ ρ' ∧ VM.forGo g b stay (xs.drop i) DV ρ' st',
    ⟨xs.length, by simp, Nat.zero_le _, F1, μ1, ρ, st1, Ext.refl, l1, r.mono e1, q⟩, ?_⟩
  rintro i m σ H ⟨rfl, hi, F', μ', ρ', st', e2, l2, r2, q2⟩
  by_cases hlt : i < xs.length
  · rw [List.drop_eq_getElem_cons hlt] at q2
    obtain ⟨hstay, q2⟩ := q2
    refine .inr ⟨w.goes _ H F' μ' st' i e2 l2 hstay hlt, fun σ' H' => xs.length - (i + 1) = xs.length - (i + 1) ∧ i + 1 ≤ xs.length ∧ ∃ F' μ' ρ' st', Ext F1 μ1 F' μ' ∧ Lay X.K G F' μ' st' H' ∧ EnvR X.K F' μ' σ' ρ' ∧ VM.forGo g b stay (xs.drop (i + 1)) DV ρ' st', fun σ' H' p' => ⟨xs.length - (i + 1), by omega, p'⟩, fun x H' hy => ?_⟩
    obtain ⟨F3, e3, l3, rx⟩ := w.yields _ H F' μ' st' i xs[i] x H' e2 l2 hstay (by simp [hlt]) hy
    refine ⟨G, F3, μ', ρ', st', _, xs[i], l3, r2.mono e3, rx, q2, fun σ4 ρ4 st4 l4 r4 _ _ q4 => ?_⟩
    have hk' := hk.mono ((e1.trans e2).trans e3)
    have again : ∀ (σ' : L2.St) (H' F5 : Hp) (μ5 : List Addr) (ρ5 : VM.Env) (st5 : Store), Ext F3 μ' F5 μ5 → Lay X.K G F5 μ5 st5 H' → EnvR X.K F5 μ5 σ' ρ5 → VM.forGo g b stay (xs.drop (i + 1)) DV ρ5 st5 → (xs.length - (i + 1) = xs.length - (i + 1) ∧ i + 1 ≤ xs.length ∧ ∃ F' μ' ρ' st', Ext F1 μ1 F' μ' ∧ Lay X.K G F' μ' st' H' ∧ EnvR X.K F' μ' σ' ρ' ∧ VM.forGo g b stay (xs.drop (i + 1)) DV ρ' st') :=
      fun σ' H' F5 μ5 ρ5 st5 e5 l5 r5 q5 => ⟨rfl, by omega, F5, μ5, ρ5, st5, (e2.trans e3).trans e5, l5, r5, q5⟩
    exact ⟨G, F3, μ', ρ4, st4, _, l4, r4, q4, ⟨again, hk'.rt, hk'.nx, again, hk'.xk⟩⟩
  · have e : i = xs.length := by omega
    subst e
    rw [List.drop_length] at q2
    exact .inl ⟨w.stops _ H F' μ' st' e2 l2 q2.1, hk.nx σ H F' μ' ρ' st' (e1.trans e2) l2 r2 q2.2⟩
theorem vs_while {body : List Stmt} {b : VM.TS} (hp : PassesOwn (model X.prog X.w) X.A X.env X.xe) (hc : VT X c t1) (hb : VB X body b) : VSt X (.While c body [] pos) (VM.sWhile t1 b) := ps_imp (ps_while hp hc hb) fun D σ H h => by
  obtain ⟨G, F, μ, ρ, st, DV, l, r, ⟨n0, d⟩, hk⟩ := h
  refine ⟨fun m σ H => ∃ F' μ' ρ' st', Ext F μ F' μ' ∧ Lay X.K G F' μ' st' H ∧ EnvR X.K F' μ' σ ρ' ∧ VM.whileGo t1 b m DV ρ' st', ⟨n0, F, μ, ρ, st, Ext.refl, l, r, d⟩, ?_⟩
  rintro m σ H ⟨F1, μ1, ρ1, st1, e1, l1, r1, q1⟩
  cases m with
  | zero => exact q1.elim
  | succ n =>
    unfold VM.whileGo at q1
    rw [hk.xk] at q1
    refine bindT l1 r1 q1 fun bb H2 F2 μ2 st2 e2 l2 r2 q2 => ?_
    have hk' := hk.mono (e1.trans e2)
    cases bb with
    | true =>
      rw [if_pos rfl] at q2 ⊢
      have again : ∀ (σ' : L2.St) (H' F5 : Hp) (μ5 : List Addr) (ρ5 : VM.Env) (st5 : Store), Ext F2 μ2 F5 μ5 → Lay X.K G F5 μ5 st5 H' → EnvR X.K F5 μ5 σ' ρ5 → VM.whileGo t1 b n DV ρ5 st5 → (∃ F' μ' ρ' st', Ext F μ F' μ' ∧ Lay X.K G F' μ' st' H' ∧ EnvR X.K F' μ' σ' ρ' ∧ VM.whileGo t1 b n DV ρ' st') :=
        fun σ' H' F5 μ5 ρ5 st5 e5 l5 r5 q5 => ⟨F5, μ5, ρ5, st5, (e1.trans e2).trans e5, l5, r5, q5⟩
      exact ⟨fun σ' H' => ∃ F' μ' ρ' st', Ext F μ F' μ' ∧ Lay X.K G F' μ' st' H' ∧ EnvR X.K F' μ' σ' ρ' ∧ VM.whileGo t1 b n DV ρ' st', fun σ' H' z => ⟨n, Nat.lt_succ_self n, z⟩, G, F2, μ2, ρ1, st2, _, l2, r2, q2, ⟨again, hk'.rt, hk'.nx, again, rfl⟩⟩
    | false =>
      rw [if_neg Bool.false_ne_true] at q2 ⊢
      exact hk'.nx σ H2 F2 μ2 ρ1 st2 Ext.refl l2 r2 q2
end
end VS
end
section
namespace VS
open PySem PySem.Spec PyProof.Rows L2
open VM (PV SO Store)
def spOf (K : PySem.W.Frag) (cs : VM.CS) (f np : Nat) : Sp := fun vs H Q _ => vs.length = np ∧ ∃ G F μ st pxs k, Lay K G F μ st H ∧ RepL K F μ pxs vs ∧ cs f pxs st k nox ∧ Kon K G F μ k Q
section
variable {X : Cx} {a b c e o : Expr} {ta tb tc te : VM.TE} {t1 t2 : VM.TT} {pos p2 p : Pos} {es rest : List Expr} {tas : VM.TA} {x : Str} {tg : Expr} {k : Nat} {f : Addr} {fd : FuncData} {ps : List Str} {cs : VM.CS} {i : Nat}
theorem RepL.len1 {K : PySem.W.Frag} {F : Hp} {μ : List Addr} {xs : List PV} {vs : List V} (r : RepL K F μ xs vs) : xs.length = vs.length := r.length.symm
theorem ve_call (F : FnOk X.prog X.w X.K X.mg X.base CX0 k f fd ps (spOf X.K cs i ps.length)) (hr : Room k X.A) (hm : X.mg x = some (.ref f)) (hk : PySem.W.keepIn X.K (.ref f) = true) (hb : Binds X.K fd ps []) (hn : ∀ us st k x, cs i us st k x → us.length = ps.length) (hg : Gl X x) (ha : VA X (e :: es) tas)
    (hdb : (x == ("__debug__" : Str)) = false := by decide) (he : starEach (e :: es) X.env = (false, eval e X.env) :: starEach es X.env := by rfl) (hpl : (backTo pos (starEach es X.env)).any (·.1) = false := by rfl) :
    VE X (.Call (.Name x p) (e :: es) [] pos) (VM.eCall cs i tas) := pe_imp (pe_call (E := E0) F hr hg hm hk hb .nil pass0 ha hdb he hpl) fun σ H Q h => by
  obtain ⟨G, F, μ, ρ, st, k, l, r, d, hk⟩ := h
  refine bindA l r d fun vs H1 F1 μ1 pvs st1 e1 l1 r1 p1 q1 => ?_
  rw [List.append_nil]
  exact ⟨by rw [p1.length]; exact hn _ _ _ _ q1, G, F1, μ1, st1, pvs, k, l1, p1, q1, hk.mono e1⟩
theorem ve_call0 (F : FnOk X.prog X.w X.K X.mg X.base CX0 k f fd ps (spOf X.K cs i ps.length)) (hr : Room k X.A) (hm : X.mg x = some (.ref f)) (hk : PySem.W.keepIn X.K (.ref f) = true) (hb : Binds X.K fd ps []) (hn : ∀ us st k x, cs i us st k x → us.length = ps.length) (hg : Gl X x)
    (hdb : (x == ("__debug__" : Str)) = false := by decide) :
    VE X (.Call (.Name x p) [] [] pos) (VM.eCall cs i VM.aNil) := pe_imp (pe_call0 (E := E0) F hr hg hm hk hb .nil pass0 hdb) fun σ H Q h => by
  obtain ⟨G, F, μ, ρ, st, k, l, r, d, hk⟩ := h
  exact ⟨hn _ _ _ _ d, G, F, μ, st, [], k, l, repL_nil.mpr rfl, d, hk⟩
def LkF (K : PySem.W.Frag) (f : Addr) (fd : FuncData) : Prop := ∃ (oc : Value) (od : Option Addr) (osl : Array (Option Value)), K.lookup f = some ⟨oc, od, .func fd, osl⟩
/-- the callee of one def -/
structure Callee (P : Program) (w : World) (K : PySem.W.Frag) (mg : Str → Option Value) (base : Heap) (x : Str) (cs : VM.CS) (k i : Nat) (ps : List Str) : Prop where
  ok : ∃ f fd, FnOk P w K mg base CX0 k f fd ps (spOf K cs i ps.length) ∧ mg x = some (.ref f) ∧ PySem.W.keepIn K (.ref f) = true ∧ Binds K fd ps [] ∧ LkF K f fd
  len : ∀ us st k x, cs i us st k x → us.length = ps.length
theorem ve_calle (C : Callee X.prog X.w X.K X.mg X.base x cs k i ps) (hr : Room k X.A) (hg : Gl X x) (ha : VA X (e :: es) tas)
    (hdb : (x == ("__debug__" : Str)) = false := by decide) (he : starEach (e :: es) X.env = (false, eval e X.env) :: starEach es X.env := by rfl) (hpl : (backTo pos (starEach es X.env)).any (·.1) = false := by rfl) :
    VE X (.Call (.Name x p) (e :: es) [] pos) (VM.eCall cs i tas) := by
  obtain ⟨f, fd, F, hm, hk, hb, _⟩ := C.ok
  exact ve_call F hr hm hk hb C.len hg ha hdb he hpl
theorem ve_calle0 (C : Callee X.prog X.w X.K X.mg X.base x cs k i ps) (hr : Room k X.A) (hg : Gl X x) (hdb : (x == ("__debug__" : Str)) = false := by decide) :
    VE X (.Call (.Name x p) [] [] pos) (VM.eCall cs i VM.aNil) := by
  obtain ⟨f, fd, F, hm, hk, hb, _⟩ := C.ok
  exact ve_call0 F hr hm hk hb C.len hg hdb
theorem ve_max2 (hc : X.calm = true) (ha : VE X a ta) (hb : VE X b tb) (hg : Gl X "max") (hm : X.mg "max" = none) (hv : bootBuiltins "max" = some (.builtin "max") := by decide +kernel) (hs : starEach [a, b] X.env = (false, eval a X.env) :: starEach [b] X.env := by rfl) (hs2 : starEach [b] X.env = (false, eval b X.env) :: starEach [] X.env := by rfl) (hpl : (backTo pos (starEach [b] X.env)).any (·.1) = false := by rfl) :
    VE X (.Call (.Name "max" p) [a, b] [] pos) (VM.eMax2 ta tb) := pe_imp (pe_callB (call_max2 hc) hg hm hv (pa_cons ha (pa_cons hb pa_nil hs2) hs) (he := hs) (hpl := hpl)) fun σ H Q h => by
  obtain ⟨G, F, μ, ρ, st, k, l, r, d, hk⟩ := h
  refine bind1 l r d fun x H1 F1 μ1 px st1 e1 l1 r1 p1 q1 => bind1 l1 r1 q1 fun y H2 F2 μ2 py st2 e2 l2 r2 p2 q2 => ?_
  split at q2
  · rename_i i j
    obtain rfl := rep_int.mp (p1.mono e2)
    obtain rfl := rep_int.mp p2
    exact ⟨i, j, rfl, (hk.mono (e1.trans e2)).same l2 (rep_int.mpr rfl) q2⟩
  · exact q2.elim
theorem vt_if {t3 : VM.TT} (hc : VT X c t1) (ha : VT X a t2) (hb : VT X b t3) : VT X (.IfExp c a b pos) (VM.tIf t1 t2 t3) := by
  refine ⟨fun pins s σ H Q I h => ?_⟩
  obtain ⟨G, F, μ, ρ, st, k, l, r, d, hk⟩ := h
  refine PyProof.Rows.isTrue_IfExp (thn (hc.run pins s σ H _ I (bindT (W := fun b H1 => rT X.K (if b = true then t2 else t3) σ H1 Q) l r d fun b H1 F1 μ1 st1 e1 l1 r1 q1 => ?_)) fun b s1 ⟨H1, I1, q1⟩ => ?_)
  · cases b with
    | true => exact ⟨G, F1, μ1, ρ, st1, k, l1, r1, q1, hk.mono e1⟩
    | false => exact ⟨G, F1, μ1, ρ, st1, k, l1, r1, q1, hk.mono e1⟩
  · cases b with
    | true => exact ha.run pins s1 σ H1 Q I1 q1
    | false => exact hb.run pins s1 σ H1 Q I1 q1
theorem ve_append {apos cpos : Pos} (ho : VE X o ta) (he : VE X e te)
    (hbase : attributeBase o "append" X.env (eval o X.env) = eval o X.env := by rfl)
    (hfew : ((backTo cpos (starEach [e] X.env)).all (fun x => !x.1) && (backToKw cpos (keywordEach [] X.env)).all (fun x => x.1.isSome)
      && decide ([e].length + ([] : List Keyword).length + (if ([] : List Keyword).isEmpty then 0 else 1) < 30)) = true := by rfl)
    (hline : (apos.endLine == cpos.line) = true := by rfl) (hs : starEach [e] X.env = (false, eval e X.env) :: starEach [] X.env := by rfl) (hplain : (backTo cpos (starEach [] X.env)).any (·.1) = false := by rfl) :
    VE X (.Call (.Attribute o "append" apos) [e] [] cpos) (VM.eAppend ta te) := pe_imp (pe_bm PySem.F.plainAttrs_list PySem.F.slot_list_append PySem.F.type_list_append mt_append ho (pa_cons he pa_nil hs) hbase hfew hline hs hplain) fun σ H Q h => by
  obtain ⟨G, F, μ, ρ, st, k, l, r, d, hk⟩ := h
  refine bind1 l r d fun x H1 F1 μ1 px st1 e1 l1 r1 p1 q1 => ?_
  obtain ⟨hl, q1⟩ := q1
  refine ⟨?_, ?_⟩
  · obtain ⟨xs, hx⟩ := Option.isSome_iff_exists.mp hl
    obtain ⟨a, vs, rfl, h1, _⟩ := asL_rep l1 p1 hx
    exact .inl ⟨rfl, vs, .inl (.inl h1)⟩
  · refine bind1 l1 r1 q1 fun y H2 F2 μ2 py st2 e2 l2 r2 p2 q2 => ?_
    split at q2
    · rename_i j
      obtain ⟨a, ea, rfl⟩ := rep_ref.mp (p1.mono e2)
      split at q2
      · rename_i xs ex
        obtain ⟨hf, vs, hh, rl⟩ := l2.obj j a _ ea ex
        refine ⟨a, vs, y, rfl, rfl, hh, by rw [rl.length, sizeLine_eq]; exact q2.1, (hk.mono (e1.trans e2)) .non _ F2 μ2 .non _ Ext.refl (l2.put ea ?_ hf) (rep_non.mpr rfl) q2.2⟩
        exact ⟨hf, _, upd_same, rl.append (repL_cons.mpr ⟨y, [], rfl, p2, repL_nil.mpr rfl⟩)⟩
      · exact q2.elim
    · exact q2.elim
theorem ve_insert {i : Expr} {ti : VM.TE} {apos cpos : Pos} (ho : VE X o ta) (hi : VE X i ti) (he : VE X e te)
    (hbase : attributeBase o "insert" X.env (eval o X.env) = eval o X.env := by rfl)
    (hfew : ((backTo cpos (starEach [i, e] X.env)).all (fun x => !x.1) && (backToKw cpos (keywordEach [] X.env)).all (fun x => x.1.isSome)
      && decide ([i, e].length + ([] : List Keyword).length + (if ([] : List Keyword).isEmpty then 0 else 1) < 30)) = true := by rfl)
    (hline : (apos.endLine == cpos.line) = true := by rfl) (hs : starEach [i, e] X.env = (false, eval i X.env) :: starEach [e] X.env := by rfl) (hs2 : starEach [e] X.env = (false, eval e X.env) :: starEach [] X.env := by rfl) (hplain : (backTo cpos (starEach [e] X.env)).any (·.1) = false := by rfl) :
    VE X (.Call (.Attribute o "insert" apos) [i, e] [] cpos) (VM.eInsert ta ti te) := pe_imp (pe_bm PySem.F.plainAttrs_list PySem.F.slot_list_insert PySem.F.type_list_insert mt_insert ho (pa_cons hi (pa_cons he pa_nil hs2) hs) hbase hfew hline hs hplain) fun σ H Q h => by
  obtain ⟨G, F, μ, ρ, st, k, l, r, d, hk⟩ := h
  refine bind1 l r d fun x H1 F1 μ1 px st1 e1 l1 r1 p1 q1 => ?_
  obtain ⟨hl, q1⟩ := q1
  refine ⟨?_, ?_⟩
  · obtain ⟨xs, hx⟩ := Option.isSome_iff_exists.mp hl
    obtain ⟨a, vs, rfl, h1, _⟩ := asL_rep l1 p1 hx
    exact .inl ⟨rfl, vs, .inl (.inl h1)⟩
  · refine bind1 l1 r1 q1 fun z H2 F2 μ2 pz st2 e2 l2 r2 p2 q2 => bind1 l2 r2 q2 fun y H3 F3 μ3 py st3 e3 l3 r3 p3 q3 => ?_
    split at q3
    · rename_i j n
      obtain rfl := rep_int.mp p2
      obtain ⟨a, ea, rfl⟩ := rep_ref.mp ((p1.mono e2).mono e3)
      split at q3
      · rename_i xs ex
        obtain ⟨h0, h1, h2, q3⟩ := q3
        obtain ⟨hf, vs, hh, rl⟩ := l3.obj j a _ ea ex
        refine ⟨a, vs, n, y, rfl, rfl, hh, by rw [rl.length, sizeLine_eq]; exact h2, h0, by omega, (hk.mono ((e1.trans e2).trans e3)) .non _ F3 μ3 .non _ Ext.refl (l3.put ea ?_ hf) (rep_non.mpr rfl) q3⟩
        exact ⟨hf, _, upd_same, ((rl.take n.toNat).append (repL_cons.mpr ⟨y, [], rfl, p3, repL_nil.mpr rfl⟩)).append (rl.drop n.toNat)⟩
      · exact q3.elim
    · exact q3.elim
end
theorem envR_start {K : PySem.W.Frag} {F : Hp} {μ : List Addr} {N : List Str} {Fd : VM.FD} {pxs : List PV} {vs : List V} (r : RepL K F μ pxs vs) (hn : pxs.length = Fd.np) (hs : Fd.ns = N.length) : EnvR K F μ (L2.start N vs) (VM.start Fd pxs) := by
  have hl := r.length
  refine ⟨by simp [L2.start, VM.start, hl, hs, hn], fun i x q => ?_⟩
  unfold VM.start at q
  unfold L2.start
  by_cases hi : i < pxs.length
  · rw [List.getElem?_append_left (by simpa using hi), List.getElem?_map] at q
    cases e : pxs[i]? with
    | none => rw [e] at q; cases q
    | some y =>
      rw [e] at q
      cases q
      obtain ⟨v, h1, h2⟩ := r.get e
      exact ⟨v, by rw [List.getElem?_append_left (by simp [hl]; exact hi), List.getElem?_map, h1]; rfl, h2⟩
  · rw [List.getElem?_append_right (by simpa using hi)] at q
    have := List.mem_of_getElem? q
    simp at this
theorem fn_zero {P : Program} {w : World} {K : PySem.W.Frag} {mg : Str → Option Value} {base : Heap} {FT : Nat → Option VM.FD} {k i : Nat} {f : Addr} {fd : FuncData} {ps : List Str} : FnOk P w K mg base CX0 k f fd ps (spOf K (VM.callN FT 0) i ps.length) :=
  ⟨fun _ _ _ _ h => h.1, fun A outer s H args us vs Q E hr e0 hb hv h => by
    obtain ⟨_, G, F, μ, st, pxs, k, _, _, d, _⟩ := h
    exact d.elim⟩
theorem callN_len {FT : Nat → Option VM.FD} {n i : Nat} {Fd : VM.FD} {m : Nat} (hF : FT i = some Fd) (hm : Fd.np = m) {us : List PV} {st : Store} {k x : VM.KV} (h : VM.callN FT n i us st k x) : us.length = m := by
  cases n with
  | zero => exact h.elim
  | succ n =>
    unfold VM.callN at h
    rw [hF] at h
    exact h.1.trans hm
theorem fn_succ {P : Program} {w : World} {K : PySem.W.Frag} {mg : Str → Option Value} {base : Heap} {FT : Nat → Option VM.FD} {n k i : Nat} {x qual : Str} {params : Arguments} {body : List Stmt} {scope : Scope} {f : Addr} {fd : FuncData} {N ps : List Str} {Fd : VM.FD}
    {dvs : List V} {kws : List (Str × V)} (F : FunD K x qual params body scope dvs kws f fd) (S : FnScope N ps scope) (hF : FT i = some Fd) (hp : Fd.np = ps.length) (hs : Fd.ns = N.length)
    (hb : ∀ (cdv : Value) (A : Around) (outer : List Env) (s : Shared) (H : Hp) (E : XK), Room k (A.deeper (envOfC qual scope s.heap.objs.size f cdv)) → VB (cxOf CX0 P w K mg base N qual scope f cdv A outer s H E).nox body (Fd.body (VM.callN FT n))) :
    FnOk P w K mg base CX0 (k + 1) f fd ps (spOf K (VM.callN FT (n + 1)) i ps.length) := by
  refine F.ok S (fun vs H Q E h => h.1) (fun cdv A outer s H vs Q E hr h => ⟨_, PSs.nox (hb cdv A outer s H E hr), ?_⟩)
  obtain ⟨_, G, F, μ, st, pxs, k, l, r, d, hk⟩ := h
  unfold VM.callN at d
  rw [hF] at d
  obtain ⟨hl, d⟩ := d
  exact ⟨G, F, μ, _, st, _, l, envR_start r hl hs, d, ⟨fun σ' H' F' μ' ρ' st' e l' r' q => hk .non H' F' μ' .non st' e l' (rep_non.mpr rfl) q, hk, fun _ _ _ _ _ _ _ _ _ q => q.elim, fun _ _ _ _ _ _ _ _ _ q => q.elim, rfl⟩⟩
/-- the law's call -/
theorem lay0 {K : PySem.W.Frag} {H : Hp} : Lay K (fun _ => none) (fun _ => none) [] [] H where
  gd := fun _ _ e => by cases e
  same := fun _ _ e => by cases e
  len := rfl
  nd := List.nodup_nil
  there := fun _ h => by cases h
  obj := fun _ _ _ h => by cases h
theorem lk_of {K : PySem.W.Frag} {x qual : Str} {params : Arguments} {body : List Stmt} {scope : Scope} {dvs : List V} {kws : List (Str × V)} {f : Addr} {fd : FuncData} (F : FunD K x qual params body scope dvs kws f fd) : LkF K f fd := by
  obtain ⟨oc, od, dV, kV, doc, pm, an, cdv, ct, osl, rfl, lk, _⟩ := F.ex
  exact ⟨oc, od, osl, lk⟩
theorem lk_inj {K : PySem.W.Frag} {f : Addr} {fd fd' : FuncData} (a : LkF K f fd) (b : LkF K f fd') : fd = fd' := by
  obtain ⟨oc, od, osl, e⟩ := a
  obtain ⟨oc', od', osl', e'⟩ := b
  rw [e] at e'
  injection e' with e'
  injection e' with _ _ e' _
  injection e'
theorem sp_law {K : PySem.W.Frag} {cs : VM.CS} {f : Nat} {H : Hp} {a : Addr} {is : List Int} {E : XK} (hS : SqL K H a (is.map V.int)) (h : cs f [.scr is] [] (fun v _ => v = .bl true) nox) : spOf K cs f 1 [.ref a] H (fun v _ => v = .bl true) E := by
  refine ⟨rfl, fun _ => none, fun b => if b = a then H b else none, [], [], [.scr is], _, ?_, ?_, h, fun v H' F' μ' x st' e l r q => ?_⟩
  · refine ⟨fun b o e => ?_, fun b o e => ?_, rfl, List.nodup_nil, fun _ h => (List.not_mem_nil h).elim, fun i b o h => ?_⟩
    · cases e
    · by_cases hb : b = a
      · rw [if_pos hb] at e
        exact e
      · rw [if_neg hb] at e
        cases e
    · cases h
  · refine repL_cons.mpr ⟨.ref a, [], rfl, rep_scr.mpr ⟨a, rfl, ?_⟩, repL_nil.mpr rfl⟩
    rcases hS with (h | ⟨o, h⟩) | h
    · exact .inl (.inl (by simpa using h))
    · exact .inl (.inr ⟨o, by simpa using h⟩)
    · exact .inr h
  · subst q
    exact rep_bl.mp r
end VS
end
section
namespace VS
open PySem PySem.Spec PyProof.Rows L2
theorem dv_fn {base : Heap} {P : Program} {N ps : List Str} {qual : Str} {scope : Scope} {L f : Addr} {cdv : Value} {outer : List PySem.Env} {A : Around} {n : Nat} (hS : base.NoSeer) (hT : P.given.tree = none) (S : FnScope N ps scope) (hr : Room (n + 40) (A.deeper (envOfC qual scope L f cdv))) :
    Dv base P (envOfC qual scope L f cdv :: outer) (A.deeper (envOfC qual scope L f cdv)) :=
  ⟨hS, hT, ⟨_, _, rfl, S.gen, S.co, rfl, rfl⟩, by have := hr.dp; unfold Builtin.pylongFrames; omega⟩
def LeK (K K' : PySem.W.Frag) : Prop := ∀ a o, K.lookup a = some o → K'.lookup a = some o
theorem FunD.le {K K' : PySem.W.Frag} {x qual : Str} {params : Arguments} {body : List Stmt} {scope : Scope} {f : Addr} {fd : FuncData} (F : FunD K x qual params body scope [] [] f fd) (h : LeK K K') : FunD K' x qual params body scope [] [] f fd := by
  obtain ⟨⟨oc, od, dV, kV, doc, pm, an, cdv, ct, osl, e, lk, hcd, hD, hK⟩, kp⟩ := F
  refine ⟨⟨oc, od, dV, kV, doc, pm, an, cdv, ct, osl, e, h _ _ lk, ?_, ?_, .inl rfl⟩, ?_⟩
  · unfold PySem.W.codeIn at hcd ⊢
    split at hcd
    · split at hcd
      · rename_i q
        rw [h _ _ q]
        exact hcd
      · cases hcd
    · cases hcd
  · rcases hD with hD | ⟨hD, _⟩
    · exact .inl hD
    · exact (hD rfl).elim
  · unfold PySem.W.keepIn
    show (match K'.lookup f with | some ⟨_, _, .func _, _⟩ => true | some ⟨_, _, .cls _, _⟩ => PySem.W.specialIn K' (.ref f) "__call__" == some (some (.builtin "type.__call__")) | _ => false) = true
    rw [h _ _ lk]
theorem lk_app {K E : PySem.W.Frag} {a : Addr} : (K ++ E).lookup a = (K.lookup a).or (E.lookup a) := by
  induction K with
  | nil => rfl
  | cons p K ih =>
    obtain ⟨b, o⟩ := p
    show ((b, o) :: (K ++ E)).lookup a = _
    rw [List.lookup_cons, List.lookup_cons]
    cases a == b with
    | true => rfl
    | false => exact ih
/-- a fragment widened by what a division looks at -/
theorem widen {K : PySem.W.Frag} {h : Heap} (X : K.In h) (S : h.NoSeer) : ∃ K' : PySem.W.Frag, LeK K K' ∧ K'.In h ∧ ∀ base : Heap, K'.In base → base.NoSeer := by
  obtain ⟨⟨mc, ⟨o1, es1, ep1, g1, d1⟩, c1, c2⟩, ⟨mm, ⟨o2, es2, ep2, g2, d2⟩, m1⟩, ⟨mb, ⟨o3, es3, ep3, g3, d3⟩, b1⟩, ⟨mg, bm, ob, ⟨o4, es4, ep4, g4, d4⟩, w1, w2, w3, w4⟩⟩ := S
  let E : PySem.W.Frag := [(cStatics, o1), (sysModules, o2), (builtinsNs, o3), (mainGlobals, o4), (bm, ob)]
  have hE : ∀ a o, E.lookup a = some o → h.get? a = some o := by
    intro a o q
    simp only [E, List.lookup_cons, List.lookup_nil] at q
    split at q
    · rename_i z; cases q; rw [eq_of_beq z]; exact g1
    · split at q
      · rename_i z; cases q; rw [eq_of_beq z]; exact g2
      · split at q
        · rename_i z; cases q; rw [eq_of_beq z]; exact g3
        · split at q
          · rename_i z; cases q; rw [eq_of_beq z]; exact g4
          · split at q
            · rename_i z; cases q; rw [eq_of_beq z]; exact w2
            · cases q
  have hIn : (K ++ E).In h := by
    intro a o q
    rw [lk_app] at q
    cases e : K.lookup a with
    | some o' =>
      rw [e] at q
      cases q
      exact X a _ e
    | none =>
      rw [e] at q
      exact hE a o q
  have hs : ∀ a o, h.get? a = some o → (E.lookup a).isSome = true → (K ++ E).lookup a = some o := by
    intro a o g q
    cases e : (K ++ E).lookup a with
    | some o' =>
      have := hIn a o' e
      rw [g] at this
      exact this.symm
    | none =>
      rw [lk_app] at e
      cases e2 : K.lookup a with
      | some _ => rw [e2] at e; cases e
      | none =>
        rw [e2] at e
        have e' : E.lookup a = none := e
        rw [e'] at q
        cases q
  refine ⟨K ++ E, fun a o q => by rw [lk_app, q]; rfl, hIn, fun base B => ?_⟩
  have t1 := B _ _ (hs cStatics o1 g1 (by simp [E]))
  have t2 := B _ _ (hs sysModules o2 g2 (by
    simp only [E, List.lookup_cons, List.lookup_nil]
    repeat (first | rfl | (split <;> try rfl))
    all_goals (first | rfl | (rename_i z; simp at z))))
  have t3 := B _ _ (hs builtinsNs o3 g3 (by
    simp only [E, List.lookup_cons, List.lookup_nil]
    repeat (first | rfl | (split <;> try rfl))
    all_goals (first | rfl | (rename_i z; simp at z))))
  have t4 := B _ _ (hs mainGlobals o4 g4 (by
    simp only [E, List.lookup_cons, List.lookup_nil]
    repeat (first | rfl | (split <;> try rfl))
    all_goals (first | rfl | (rename_i z; simp at z))))
  have t5 := B _ _ (hs bm ob w2 (by
    simp only [E, List.lookup_cons, List.lookup_nil]
    repeat (first | rfl | (split <;> try rfl))
    all_goals (first | rfl | (rename_i z; simp at z))))
  exact ⟨⟨mc, ⟨o1, es1, ep1, t1, d1⟩, c1, c2⟩, ⟨mm, ⟨o2, es2, ep2, t2, d2⟩, m1⟩, ⟨mb, ⟨o3, es3, ep3, t3, d3⟩, b1⟩, ⟨mg, bm, ob, ⟨o4, es4, ep4, t4, d4⟩, w1, t5, w3, w4⟩⟩
theorem walk_ofS {l : PySem.W.OpenLaw} {n k : Nat} {q : Program} {loose : List Str} {XP : (Str → Option Value) → Heap → Prop} {YP : World → Heap → Prop} {d : DefRec} {x : Str}
    (hn : l.most = some n) (hn2 : n ≤ sizeLine) (hdf : d.params.defaults = []) (hr : Room k callerA) (hq : importsNone q = true)
    (F : ∀ (w : World) (mg : Str → Option Value) (fa : Addr) (h : Heap), YP w h → h.Ns mainGlobals mg → mg d.name = some (.ref fa) →
      ∃ (K : PySem.W.Frag) (fd : FuncData), K.In h ∧ (∀ (s : Shared) (u : Value), BindsTo s fd ⟨[u], []⟩ [(x, u)]) ∧ ∀ K' : PySem.W.Frag, LeK K K' → ∃ sp : Sp,
        (∀ (H : Hp) (a : Addr) (ns : List Int), ns.length ≤ n → SqL K' H a (ns.map V.int) → sp [.ref a] H (fun v _ => v = .bl true) fun _ _ _ => False) ∧
        ∀ base : Heap, K'.In base → base.Ns mainGlobals mg → base.NoSeer → FnOk l.prog w K' mg base CX0 k fa fd [x] sp) :
    PySem.W.WalkO q loose XP YP l.row.toRowW d [] (fun f vs => PySem.call f vs) := by
  refine Att.attach_call hn hdf ?_
  intro w t0 t1 mg mb fa o pm cd doc a vs ns Gr Yh ho hd hcd hmg hobj hints hlen hg
  obtain ⟨K, fd, KX, hb, hF⟩ := F w mg fa _ Yh Gr.T.g hmg
  obtain ⟨K', le, KX', sr⟩ := widen KX (Gr.T.seer hq)
  obtain ⟨sp, hsp, hF⟩ := hF K' le
  exact law_call (CX := CX0) KX' Gr.T.g Gr.T.b Gr.T.builtins Gr.T.nolimit hg hobj hints (Nat.le_trans hlen hn2) hr (fun base h1 h2 => hF base h1 h2 (sr base h1)) hb (fun H _ hS => hsp H a ns hlen hS) fun _ _ _ z => z
end VS
end
section
namespace VO
open PySem PySem.W PySem.Calls PyProof.Rows
section
variable {prog : Program} {w : World} {A : Around} {E : Value → Shared → Prop} {s : Shared} {K : Frag} {x y C f : Addr} {ox oy : Obj} {od od' : Option Obj}
/-- two instances of one class: its own operator -/
theorem bin_same {op : Operator} {Q : Value → Shared → Prop} (X : K.In s.heap) (I : InstAt s.heap x ox C od) (J : InstAt s.heap y oy C od') (hc : selfFirst K C = true)
    (hs : findIn K (.ref C) (PySem.dunder op.info.2) = some (some (.ref f))) (hf : isFn K (.ref f) = true)
    (h : wpAny (model prog w) A (call (.ref f) [.ref x, .ref y]) (PySem.W.CmpBack Q) E s) : wpAny (model prog w) A (binaryOp op (.ref x) (.ref y)) Q E s := by
  obtain ⟨cd, rest, hcd, hm⟩ := ksp_first hc
  rcases hi : op.info with ⟨sym, nm'⟩
  rw [hi] at hs
  dsimp only at hs
  have one := ksp_try X I hs hf h
  obtain ⟨hh, g, d, tt, os⟩ := s
  have L1 : Looks (model prog w) hh (typeOf (.ref x)) (.ref C) := I.type
  have L2 : Looks (model prog w) hh (typeOf (.ref y)) (.ref C) := J.type
  have L3 : Looks (model prog w) hh (fillsNumberSlot (.ref C) nm') true := fills_K X hcd hm hs
  have hne : (Value.ref C == Value.ref C) = true := by simp
  simp only [binaryOp, hi]
  refine wpAny_holding (wpAny_bind ?_)
  unfold binaryOp1
  refine wpAny_bind (L1.at (wpAny_bind (L2.at (wpAny_bind (L3.at ?_)))))
  simp only [hne, if_true]
  ksp_lk
  refine wpAny_mono one (fun r s' hr' => ?_) fun _ _ e => e
  obtain ⟨v, rfl, hq⟩ := hr'
  ksp_lk
  exact hq
/-- an int's own operator does not take an instance -/
def Plain (y : Addr) (s : Shared) : Prop := ∃ C dx, s.heap.get? y = some (instObj C dx)
theorem int_add_declines {i : Int} {tk : Tok} : GivesAt (Plain y) (Builtin.«int.__add__» ⟨[.int i tk, .ref y], []⟩) (.val .notImplemented) := by
  intro prog w A R s hy h
  obtain ⟨C, dx, hy⟩ := hy
  obtain ⟨hp, g, d, tt, os⟩ := s
  unfold instObj at hy
  wp_walk using AutoSeq1.wpAny_loadPart' hy
  exact h
theorem int_sub_declines {i : Int} {tk : Tok} : GivesAt (Plain y) (Builtin.«int.__sub__» ⟨[.int i tk, .ref y], []⟩) (.val .notImplemented) := by
  intro prog w A R s hy h
  obtain ⟨C, dx, hy⟩ := hy
  obtain ⟨hp, g, d, tt, os⟩ := s
  unfold instObj at hy
  wp_walk using AutoSeq1.wpAny_loadPart' hy
  exact h
theorem int_mul_declines {i : Int} {tk : Tok} : GivesAt (Plain y) (Builtin.«int.__mul__» ⟨[.int i tk, .ref y], []⟩) (.val .notImplemented) := by
  intro prog w A R s hy h
  obtain ⟨C, dx, hy⟩ := hy
  obtain ⟨hp, g, d, tt, os⟩ := s
  unfold instObj at hy
  wp_walk using AutoSeq1.wpAny_loadPart' hy
  exact h
/-- int op instance: the reflected method -/
theorem bin_int {op : Operator} {id : String} {B : Builtin} {i : Int} {tk : Tok} {g : Addr} {Q : Value → Shared → Prop} (X : K.In s.heap) (J : InstAt s.heap y oy C od') (hc : selfFirst K C = true)
    (hs : findIn K (.ref C) (PySem.dunder op.info.2) = some (some (.ref f))) (hr : findIn K (.ref C) (dunderR op.info.2) = some (some (.ref g))) (hg : isFn K (.ref g) = true)
    (hsub : subIn K (.ref C) (.type "int") = some false) (hfill : fillsNumberSlot (.type "int") op.info.2 = pure true) (slot : Slot "int" (PySem.dunder op.info.2) id) (entry : entryFor table id = some B) (args : argsOk id ⟨[.int i tk, .ref y], []⟩)
    (gv : GivesAt (Plain y) (B ⟨[.int i tk, .ref y], []⟩) (.val .notImplemented)) (hp : Plain y s)
    (h : wpAny (model prog w) A (call (.ref g) [.ref y, .int i tk]) (PySem.W.CmpBack Q) E s) : wpAny (model prog w) A (binaryOp op (.int i tk) (.ref y)) Q E s := by
  obtain ⟨cd, rest, hcd, hm⟩ := ksp_first hc
  rcases hi : op.info with ⟨sym, nm'⟩
  rw [hi] at hs hr hfill slot
  dsimp only at hs hr hfill slot
  have two := ksp_try X J hr hg h
  have one : wpAny (model prog w) A (tryMethod (.int i tk) (PySem.dunder nm') (.ref y)) (fun r s' => r = none ∧ s' = s) E s :=
    wpAny_tryMethod_declines (typeIs_int _ _ _) slot (call_givesAt (Q := fun v s' => v = .notImplemented ∧ (none : Option Value) = none ∧ s' = s) slot (typeIs_int _ _ _) entry args gv hp ⟨rfl, rfl, rfl⟩)
  obtain ⟨hh, g0, d, tt, os⟩ := s
  have L1 : Looks (model prog w) hh (typeOf (.int i tk)) (.type "int") := Looks.of_pure rfl
  have L2 : Looks (model prog w) hh (typeOf (.ref y)) (.ref C) := J.type
  have L3 : Looks (model prog w) hh (fillsNumberSlot (.type "int") nm') true := Looks.of_pure hfill
  have L4 : Looks (model prog w) hh (fillsNumberSlot (.ref C) nm') true := fills_K X hcd hm hs
  have L5 : Looks (model prog w) hh (isSubtype (.ref C) (.type "int")) false := looks_subIn X hsub
  have L6 : Looks (model prog w) hh (numberSlotInPython (.type "int") nm') false := Looks.of_pure rfl
  have hne : (Value.type "int" == Value.ref C) = false := Bool.eq_false_iff.mpr fun q => by cases beq_iff_eq.mp q
  simp only [binaryOp, hi]
  refine wpAny_holding (wpAny_bind ?_)
  unfold binaryOp1
  refine wpAny_bind (L1.at (wpAny_bind (L2.at (wpAny_bind (L3.at ?_)))))
  simp only [hne, Bool.false_eq_true, if_false]
  ksp_lk
  refine wpAny_mono one (fun r s' hr' => ?_) fun _ _ e => e
  obtain ⟨rfl, rfl⟩ := hr'
  ksp_lk
  refine wpAny_mono two (fun r s' hr' => ?_) fun _ _ e => e
  obtain ⟨v, rfl, hq⟩ := hr'
  ksp_lk
  exact hq
/-- object's own != asks the own == -/
theorem objne_K {b : Value} {Q : Value → Shared → Prop} (hu : A.in1.units < cLine) (X : K.In s.heap) (I : InstAt s.heap x ox C od) (hm : mroIn K C (.type "object") = some true) (he : findIn K (.ref C) "__eq__" = some (some (.ref f))) (hf : isFn K (.ref f) = true)
    (h : wpAny (model prog w) A.in1 (call (.ref f) [.ref x, b]) (fun v s' => ∃ r, v = .bool r ∧ Q (.bool (!r)) s') E s) : wpAny (model prog w) A (call (.builtin "object.__ne__") [.ref x, b]) Q E s := by
  refine wpAny_call (codeAny_call_builtin PySem.F.cmp_object.ne.plain PySem.F.cmpEntry_ne (check_slot (i := "object.__ne__") (owner := "object") (n := "__ne__") PySem.F.cmpKind_ne PySem.F.cmpSplit_ne (I.type.andThen (looks_mroIn X hm)) (PySem.F.cmpArgs_ne _ _) ?_))
  unfold Builtin.«object.__ne__»
  refine wpAny_bind (m := slotArgs "__ne__" 1 _) (wpAny_pure ?_)
  refine wpAny_bind (m := cRoomFor _ _) (wpAny_cRoomFor hu ?_)
  refine wpAny_bind (m := callSpecialIfBound? (.ref x) (Str.ofString "__eq__") _) (ifBound_K X I he hf (wpAny_mono h (fun r s' hq => ?_) fun _ _ y => y))
  obtain ⟨r, rfl, hq⟩ := hq
  refine wpAny_bind (m := truthy (.bool r)) (wpAny_truthy_bool ?_)
  exact wpAny_pure hq
/-- != of an instance without own != -/
theorem ne_K {b tb : Value} {Q : Value → Shared → Prop} (hu : A.units < cLine) (hu1 : A.in1.units < cLine) (X : K.In s.heap) (I : InstAt s.heap x ox C od) (hb : Looks (model prog w) s.heap (typeOf b) tb) (hn : notFirst K C tb = true)
    (hm : mroIn K C (.type "object") = some true) (hs : findIn K (.ref C) "__ne__" = some (some (.builtin "object.__ne__"))) (he : findIn K (.ref C) "__eq__" = some (some (.ref f))) (hf : isFn K (.ref f) = true)
    (h : wpAny (model prog w) A.in1 (call (.ref f) [.ref x, b]) (fun v s' => ∃ r, v = .bool r ∧ Q (.bool (!r)) s') E s) : wpAny (model prog w) A (richCompare .NotEq (.ref x) b) Q E s := by
  have one : wpAny (model prog w) A (tryCompare (.ref x) "__ne__" b) (fun r s' => ∃ v, r = some v ∧ Q v s') E s := by
    unfold tryCompare
    refine wpAny_bind (m := callSpecialIfBound? (.ref x) "__ne__" [b]) ?_
    simp only [callSpecialIfBound?, bindSpecialIfBound?]
    have fin : wpAny (model prog w) A (call (.builtin "object.__ne__") ([.ref x] ++ [b]) >>= fun v => pure (some v)) (fun r s' => wpAny (model prog w) A (match r with
      | some .notImplemented | none => pure none
      | some v => pure (some v)) (fun r s' => ∃ v, r = some v ∧ Q v s') E s') E s := by
      refine wpAny_bind (wpAny_mono (objne_K (Q := fun v s' => ∃ r, v = .bool r ∧ Q (.bool r) s') hu1 X I hm he hf (wpAny_mono h (fun v s' hv => ?_) fun _ _ e => e)) (fun v s' hv => ?_) fun _ _ e => e)
      · obtain ⟨r, rfl, hq⟩ := hv
        exact ⟨r, rfl, _, rfl, hq⟩
      · obtain ⟨r, rfl, hq⟩ := hv
        exact wpAny_pure (wpAny_pure ⟨_, rfl, hq⟩)
    refine wpAny_holding (wpAny_bind (wpAny_bind (wpAny_bind (I.type.here ((looks_findIn X hs).here ?_)))))
    refine wpAny_bind (wpAny_askSetting (wpAny_ite ?_))
    split
    · exact wpAny_bind ((Looks.of_pure (PySem.F.cmp_object.ne.bind _)).here (wpAny_pure (by exact fin)))
    · exact wpAny_tryCatch (wpAny_bind ((Looks.of_pure (PySem.F.cmp_object.ne.bind _)).here (wpAny_pure (by exact fin))))
  unfold richCompare
  simp only [oneThing_ref]
  refine wpAny_holding (wpAny_bind (wpAny_cRoomFor hu ?_))
  refine wpAny_bind (I.type.here (wpAny_bind (hb.here ?_)))
  split
  · rename_i q
    have e : subIn K tb (.ref C) = some false := by
      rcases Bool.or_eq_true_iff.mp hn with e | e
      · rw [beq_iff_eq.mp e] at q; simp at q
      · exact beq_iff_eq.mp e
    refine wpAny_bind ((looks_subIn X e).here ?_)
    simp only [Bool.false_eq_true, if_false]
    refine wpAny_bind (wpAny_mono one (fun r s' z => ?_) fun _ _ e => e)
    obtain ⟨v, rfl, hq⟩ := z
    exact wpAny_pure hq
  · refine wpAny_bind (wpAny_pure ?_)
    simp only [Bool.false_eq_true, if_false]
    refine wpAny_bind (wpAny_mono one (fun r s' z => ?_) fun _ _ e => e)
    obtain ⟨v, rfl, hq⟩ := z
    exact wpAny_pure hq
end
end VO
end
section
namespace VS
open PySem PySem.Spec PyProof.Rows L2
open VM (PV SO Store)
theorem fget_attrs : ∀ {ks : List Nat} {xs : List PV} {vs : List V} {K : PySem.W.Frag} {F : Hp} {μ : List Addr} {n : Nat} {x : PV}, RepL K F μ xs vs → VM.fget ks xs n = some x → ∃ v, (attrs ks vs).lookup (an n) = some v ∧ Rep K F μ x v
  | [], xs, vs, K, F, μ, n, x, r, h => by cases xs <;> cases h
  | k :: ks, [], vs, K, F, μ, n, x, r, h => by cases h
  | k :: ks, y :: xs, vs, K, F, μ, n, x, r, h => by
    obtain ⟨v, vr, rfl, r1, r2⟩ := repL_cons.mp r
    unfold VM.fget at h
    show ∃ v', List.lookup (an n) ((an k, v) :: attrs ks vr) = some v' ∧ _
    by_cases hk : k = n
    · rw [if_pos hk] at h
      cases h
      exact ⟨v, by rw [hk]; simp [List.lookup], r1⟩
    · rw [if_neg hk] at h
      obtain ⟨v', h1, h2⟩ := fget_attrs r2 h
      refine ⟨v', ?_, h2⟩
      have hne : (an n == an k) = false := beq_eq_false_iff_ne.mpr fun e => hk (an_inj e).symm
      simp only [List.lookup, hne]
      exact h1
theorem fget_none : ∀ {ks : List Nat} {xs : List PV} {vs : List V} {K : PySem.W.Frag} {F : Hp} {μ : List Addr} {n : Nat}, ks.length = xs.length → RepL K F μ xs vs → VM.fget ks xs n = none → (attrs ks vs).lookup (an n) = none
  | [], xs, vs, K, F, μ, n, hl, r, h => rfl
  | k :: ks, [], vs, K, F, μ, n, hl, r, h => by cases hl
  | k :: ks, y :: xs, vs, K, F, μ, n, hl, r, h => by
    obtain ⟨v, vr, rfl, r1, r2⟩ := repL_cons.mp r
    unfold VM.fget at h
    show List.lookup (an n) ((an k, v) :: attrs ks vr) = none
    by_cases hk : k = n
    · rw [if_pos hk] at h
      cases h
    · rw [if_neg hk] at h
      have hne : (an n == an k) = false := beq_eq_false_iff_ne.mpr fun e => hk (an_inj e).symm
      simp only [List.lookup, hne]
      exact fget_none (by simpa using hl) r2 h
theorem fput_attrs : ∀ {ks : List Nat} {xs : List PV} {vs : List V} {K : PySem.W.Frag} {F : Hp} {μ : List Addr} {n : Nat} {y : PV} {z : V}, ks.length = xs.length → RepL K F μ xs vs → Rep K F μ y z →
    ∃ vs', putF (an n) z (attrs ks vs) = attrs (VM.fkeys ks n) vs' ∧ RepL K F μ (VM.fvals ks xs n y) vs' ∧ (VM.fkeys ks n).length = (VM.fvals ks xs n y).length
  | [], [], vs, K, F, μ, n, y, z, hl, r, ry => ⟨[z], rfl, repL_cons.mpr ⟨z, [], rfl, ry, repL_nil.mpr rfl⟩, rfl⟩
  | [], _ :: _, vs, K, F, μ, n, y, z, hl, r, ry => by cases hl
  | k :: ks, [], vs, K, F, μ, n, y, z, hl, r, ry => by cases hl
  | k :: ks, x :: xs, vs, K, F, μ, n, y, z, hl, r, ry => by
    obtain ⟨v, vr, rfl, r1, r2⟩ := repL_cons.mp r
    show ∃ vs', putF (an n) z ((an k, v) :: attrs ks vr) = _ ∧ _
    unfold VM.fkeys VM.fvals
    by_cases hk : k = n
    · rw [if_pos hk, if_pos hk]
      refine ⟨z :: vr, ?_, repL_cons.mpr ⟨z, vr, rfl, ry, r2⟩, by simpa using hl⟩
      show (if an k = an n then (an k, z) :: attrs ks vr else _) = _
      rw [if_pos (by rw [hk])]
      rfl
    · rw [if_neg hk, if_neg hk]
      obtain ⟨vs', h1, h2, h3⟩ := fput_attrs (n := n) (by simpa using hl) r2 ry
      refine ⟨v :: vs', ?_, repL_cons.mpr ⟨v, vs', rfl, r1, h2⟩, by simpa using h3⟩
      show (if an k = an n then _ else (an k, v) :: putF (an n) z (attrs ks vr)) = _
      rw [if_neg (fun e => hk (an_inj e)), h1]
      rfl
theorem inst_rep {K : PySem.W.Frag} {G F : Hp} {μ : List Addr} {st : Store} {H : Hp} {u : PV} {v : V} {c : Nat} (l : Lay K G F μ st H) (r : Rep K F μ u v) (h : VM.clsOf st u = some c) :
    ∃ a dx ks xs vs, v = .ref a ∧ H a = some (.ins (cA K c) dx (attrs ks vs)) ∧ ks.length = xs.length ∧ RepL K F μ xs vs ∧ ∀ n, VM.fldOf st u n = VM.fget ks xs n := by
  cases u <;> simp only [VM.clsOf] at h <;> try (cases h; done)
  case obj c' ks xs =>
    cases h
    unfold Rep at r
    obtain ⟨a, dx, vs, h1, h2, h3, h4⟩ := r
    exact ⟨a, dx, ks, xs, vs, h1, l.same _ _ h2, h3, h4, fun n => rfl⟩
  case ref i =>
    cases e : st[i]? with
    | none => rw [e] at h; cases h
    | some o =>
      rw [e] at h
      cases o <;> simp only at h <;> try (cases h; done)
      rename_i c' ks xs
      cases h
      obtain ⟨a, h1, h2⟩ := rep_ref.mp r
      obtain ⟨_, dx, vs, h3, h4, h5⟩ := l.obj i a _ h1 e
      exact ⟨a, dx, ks, xs, vs, h2, h3, h4, h5, fun n => by simp only [VM.fldOf, e]⟩
structure FC (P : Program) (w : World) (K : PySem.W.Frag) (mg : Str → Option Value) (base : Heap) (cs : VM.CS) (k i : Nat) (f : Addr) : Prop where
  ex : ∃ fd ps, FnOk P w K mg base CX0 k f fd ps (spOf K cs i ps.length) ∧ Binds K fd ps [] ∧ ∀ us st k x, cs i us st k x → us.length = ps.length
structure CI (K : PySem.W.Frag) (c : Nat) : Prop where
  cls : Cls K (cA K c)
  ha : PySem.W.findIn K (.ref (cA K c)) "__class__" = some (some (.builtin "object.__class__"))
  hn : PySem.W.specialIn K (.builtin "object.__class__") "__get__" = some (some (.builtin "getset_descriptor.__get__"))
  htk : PySem.W.takesIn K (.builtin "object.__class__") = some true
  hm : PySem.W.mroIn K (cA K c) (.type "object") = some true
  sf : PySem.W.selfFirst K (cA K c) = true
section
variable (P : Program) (w : World) (K : PySem.W.Frag) (mg : Str → Option Value) (base : Heap) (cs : VM.CS) (k : Nat)
def MethT (t : VM.Tab) (m : Str) : Prop := ∀ c i, VM.tget t c = some i → ∃ f, Cls K (cA K c) ∧ Meth K (cA K c) m f ∧ FC P w K mg base cs k i f
def PropT (t : VM.Tab) (m : Str) : Prop := ∀ c i, VM.tget t c = some i → ∃ p g, Cls K (cA K c) ∧ PropOf K (cA K c) m p g ∧ FC P w K mg base cs k i g
def FldT (ft : List Nat) (n : Nat) : Prop := ∀ c, ft.contains c = true → Cls K (cA K c) ∧ NoAttr K (cA K c) (an n)
def DunT (t : VM.Tab) (m : Str) : Prop := ∀ c i, VM.tget t c = some i → ∃ f, CI K c ∧ PySem.W.findIn K (.ref (cA K c)) m = some (some (.ref f)) ∧ PySem.W.isFn K (.ref f) = true ∧ FC P w K mg base cs k i f
end
section
variable {X : Cx} {a b c e o : Expr} {ta tb tc te : VM.TE} {t1 t2 : VM.TT} {pos p2 p apos : Pos} {es rest : List Expr} {tas : VM.TA} {x m : Str} {k : Nat} {f : Addr} {cs : VM.CS} {i n : Nat}
/-- a call of a def by its values, where this def stands -/
theorem run_fc {pins : List (Addr × Obj)} {σ : L2.St} {s : Shared} {H : Hp} {us : List Value} {vs : List V} {pvs : List PV} {G F : Hp} {μ : List Addr} {st : Store} {kk : VM.KV} {Q : VK} (C : FC X.prog X.w X.K X.mg X.base cs k i f) (hr : Room k X.A) (I : Inv X pins σ H s) (r : Vals vs us)
    (l : Lay X.K G F μ st H) (rp : RepL X.K F μ pvs vs) (hc : cs i pvs st kk nox) (hk : Kon X.K G F μ kk Q) : wpAny (model X.prog X.w) X.A (call (.ref f) us) (EP X pins σ Q) X.xe s := by
  obtain ⟨fd, ps, ok, bn, len⟩ := C.ex
  have := run_fn (E := E0) ok hr bn .nil pass0 I r (Q := Q) (by
    rw [List.append_nil]
    exact ⟨by rw [rp.length]; exact len _ _ _ _ hc, G, F, μ, st, pvs, kk, l, rp, hc, hk⟩)
  exact this
/-- the same from within a built-in -/
theorem run_fcA {A : Around} {E' : Value → Shared → Prop} {pins : List (Addr × Obj)} {σ : L2.St} {s : Shared} {H : Hp} {us : List Value} {vs : List V} {pvs : List PV} {G F : Hp} {μ : List Addr} {st : Store} {kk : VM.KV} {Q : VK} (C : FC X.prog X.w X.K X.mg X.base cs k i f) (hr : Room k A) (hfr : A.frames = X.A.frames) (I : Inv X pins σ H s) (r : Vals vs us)
    (l : Lay X.K G F μ st H) (rp : RepL X.K F μ pvs vs) (hc : cs i pvs st kk nox) (hk : Kon X.K G F μ kk Q) : wpAny (model X.prog X.w) A (call (.ref f) us) (EP X pins σ Q) E' s := by
  obtain ⟨fd, ps, ok, bn, len⟩ := C.ex
  have hsp : spOf X.K cs i ps.length vs H Q E0 := ⟨by rw [rp.length]; exact len _ _ _ _ hc, G, F, μ, st, pvs, kk, l, rp, hc, hk⟩
  have e0 : Env0 X.prog X.w X.K X.mg X.base A X.stack s H := by
    have e := I.env0
    exact ⟨by rw [hfr]; exact e.frames, e.mod, e.bs, e.bsz, e.funs, e.frf, e.hok, e.bare⟩
  refine wpAny_call (codeAny_mono (ok.run A X.stack s H ⟨us, []⟩ us vs Q E0 hr e0 (by
    have := bn s us I.kIn (by
      rw [List.append_nil, ← r.length, rp.length]
      exact len _ _ _ _ hc)
    rw [List.append_nil] at this
    exact this) r hsp) fun r s' hq => ?_)
  cases r with
  | error e => exact hq.elim
  | ok fl =>
    cases fl with
    | ret w => exact I.after hq
    | next => exact False.elim hq
    | brk => exact False.elim hq
    | cont => exact False.elim hq
/-- what an own instance is, for the machine -/
theorem inst_look {pins : List (Addr × Obj)} {σ : L2.St} {H : Hp} {s : Shared} {a C dx : Addr} {fs : List (Str × V)} (I : Inv X pins σ H s) (e : H a = some (.ins C dx fs)) : ∃ od, PySem.W.InstAt s.heap a (PySem.W.instObj C dx) C (some od) := by
  obtain ⟨mA, O, _⟩ := ins_get I.hok e
  obtain ⟨od, J, _⟩ := O.look
  exact ⟨od, J⟩
theorem ve_fld {pt : VM.Tab} {ft : List Nat} (ha : VE X a ta) (hn : an n = m) (hp : PropT X.prog X.w X.K X.mg X.base cs k pt m) (hf : FldT X.K ft n) (hr : Room (k + 1) X.A)
    (hb : attributeBase a m X.env (eval a X.env) = eval a X.env := by rfl) : VE X (.Attribute a m pos) (VM.eFld cs pt ft n ta) := by
  refine ⟨fun pins s σ H Q I h => ?_⟩
  obtain ⟨G, F, μ, ρ, st, kk, l, r, d, hk⟩ := h
  refine attr_of hb (thn (ha.run pins s σ H (fun v H1 => ∃ G F μ px st1 k1, Lay X.K G F μ st1 H1 ∧ Rep X.K F μ px v ∧ VM.fldRun cs pt ft n px st1 k1 nox ∧ Kon X.K G F μ k1 Q) I
    (bind1 l r d fun v H1 F1 μ1 px st1 e1 l1 r1 p1 q1 => ⟨G, F1, μ1, px, st1, kk, l1, p1, q1, hk.mono e1⟩)) fun u s1 ⟨v, H1, I1, rx, G1, F1, μ1, px, st1, k1, l1, p1, q1, hk1⟩ => ?_)
  unfold VM.fldRun at q1
  split at q1
  · rename_i c ec
    obtain ⟨x, dx, ks, xs, vs, rfl, ea, hl, rl, hfl⟩ := inst_rep l1 p1 ec
    obtain rfl : u = Value.ref x := rx
    split at q1
    · rename_i f' ef
      obtain ⟨pp, g, cl, po, C⟩ := hp c f' ef
      obtain ⟨fd, ps, ok, bn, len⟩ := C.ex
      refine getprop_ok (E := E0) (dvs := []) (ds := []) I1 ea cl po ok hr bn .nil pass0 ?_
      exact ⟨by have := len _ _ _ _ q1; simpa using this, G1, F1, μ1, st1, [px], k1, l1, repL_cons.mpr ⟨.ref x, [], rfl, p1, repL_nil.mpr rfl⟩, q1, hk1⟩
    · obtain ⟨hc, q1⟩ := q1
      obtain ⟨cl, na⟩ := hf c hc
      rw [hfl n] at q1
      split at q1
      · rename_i y ey
        obtain ⟨v, h1, h2⟩ := fget_attrs rl ey
        rw [hn] at na h1
        exact getattr_ok I1 ea cl na h1 fun u' s2 I2 ru => ⟨v, H1, I2, ru, hk1.same l1 h2 q1⟩
      · exact q1.elim
  · exact q1.elim
/-- self.f = e -/
theorem vs_setfld {ft : List Nat} {te : VM.TE} {pos' : Pos} (he : VE X e te) (ha : VE X a ta) (hn : an n = m) (hf : FldT X.K ft n) (hs : swapsWith e (some (.Attribute a m pos')) pos.line X.env = pure false := by rfl) :
    VSt X (.Assign [.Attribute a m pos'] e pos) (VM.sSetFld ft n ta te) := ps_imp (ps_fld ha he hs) fun D σ H h => by
  obtain ⟨G, F, μ, ρ, st, DV, l, r, d, hk⟩ := h
  unfold VM.sSetFld at d
  rw [hk.xk] at d
  refine bind1 l r d fun y H1 F1 μ1 py st1 e1 l1 r1 p1 q1 => ?_
  refine bind1 l1 r1 q1 fun v H2 F2 μ2 pv st2 e2 l2 r2 p2 q2 => ?_
  split at q2
  · rename_i j
    split at q2
    · rename_i c ks xs ej
      obtain ⟨hc, hlt, q2⟩ := q2
      obtain ⟨x, h1, rfl⟩ := rep_ref.mp p2
      obtain ⟨hF, dx, vs, h3, h4, h5⟩ := l2.obj j x _ h1 ej
      obtain ⟨cl, na⟩ := hf c hc
      obtain ⟨vs', e3, r3, l3⟩ := fput_attrs (n := n) h4 h5 (p1.mono e2)
      rw [hn] at na e3
      refine ⟨x, cA X.K c, dx, attrs ks vs, rfl, h3, cl, na, ?_, ?_⟩
      · unfold attrs
        rw [List.length_zip, List.length_map]
        omega
      · rw [e3]
        refine hk.nx σ _ F2 μ2 ρ _ (e1.trans e2) (l2.put h1 ?_ hF) r2 q2
        exact ⟨hF, dx, vs', upd_same, l3, r3⟩
    · exact q2.elim
  · exact q2.elim
end
end VS
end
section
namespace VS
open PySem PySem.Spec PyProof.Rows L2
open VM (PV SO Store)
section
variable {K : PySem.W.Frag} {G F F' : Hp} {μ μ' : List Addr} {H : Hp} {st : Store}
/-- a further object that nothing looks at -/
theorem Lay.extra (l : Lay K G F μ st H) {p : Addr} {o : HO} (h : H p = none) : Lay K G F μ st (upd H p o) where
  gd := fun a u e => by
    obtain ⟨h1, h2, h3⟩ := l.gd a u e
    exact ⟨by rw [upd_ne (ne_of_none h1 h)]; exact h1, h2, h3⟩
  same := fun a v e => by rw [upd_ne (ne_of_none (l.same a v e) h)]; exact l.same a v e
  len := l.len
  nd := l.nd
  there := fun a ha => by
    by_cases q : a = p
    · exact ⟨o, by rw [q]; exact upd_same⟩
    · rw [upd_ne q]
      exact l.there a ha
  obj := fun i a v h1 h2 => by
    have q : a ≠ p := fun z => l.notin h (z ▸ List.mem_of_getElem? h1)
    exact (l.obj i a v h1 h2).mono Ext.refl rfl (upd_ne q)
/-- an instance that changes no more -/
theorem Lay.freeze (l : Lay K G F μ st H) {i c : Nat} {a : Addr} {ks : List Nat} {xs : List PV} (hi : μ[i]? = some a) (hs : st[i]? = some (.ins c ks xs)) :
    ∃ F', Ext F μ F' μ ∧ Lay K G F' μ (st.set i .dead) H ∧ Rep K F' μ (.obj c ks xs) (.ref a) := by
  obtain ⟨hF, dx, vs, h1, h2, h3⟩ := l.obj i a _ hi hs
  have ext : Ext F μ (upd F a (.ins (cA K c) dx (attrs ks vs))) μ := ⟨fun b o e => by rw [upd_ne (ne_of_none e hF)]; exact e, [], by simp⟩
  refine ⟨upd F a (.ins (cA K c) dx (attrs ks vs)), ext, ?_, ?_⟩
  · refine ⟨fun b o e => ?_, fun b o e => ?_, by rw [List.length_set]; exact l.len, l.nd, l.there, fun j b o h4 h5 => ?_⟩
    · obtain ⟨g1, g2, g3⟩ := l.gd b o e
      have q : b ≠ a := fun z => g3 (by rw [z]; exact List.mem_of_getElem? hi)
      exact ⟨g1, by rw [upd_ne q]; exact g2, g3⟩
    · by_cases q : b = a
      · subst q
        rw [upd_same] at e
        cases e
        exact h1
      · rw [upd_ne q] at e
        exact l.same b o e
    · by_cases e : i = j
      · subst e
        rw [List.getElem?_set_self (by rw [← l.len]; exact (List.getElem?_eq_some_iff.mp hi).1)] at h5
        cases h5
        trivial
      · rw [List.getElem?_set_ne e] at h5
        have q : b ≠ a := fun z => by
          subst z
          obtain ⟨hi1, e1⟩ := List.getElem?_eq_some_iff.mp hi
          obtain ⟨hj1, e2⟩ := List.getElem?_eq_some_iff.mp h4
          exact e ((List.getElem_inj l.nd).mp (e1.trans e2.symm))
        exact (l.obj j b o h4 h5).mono ext (upd_ne q) rfl
  · unfold Rep
    exact ⟨a, dx, vs, rfl, upd_same, h2, h3.mono ext⟩
end
structure FCD (P : Program) (w : World) (K : PySem.W.Frag) (mg : Str → Option Value) (base : Heap) (cs : VM.CS) (k i : Nat) (f : Addr) (dvs : List V) : Prop where
  ex : ∃ fd ps ds, FnOk P w K mg base CX0 k f fd ps (spOf K cs i ps.length) ∧ Binds K fd ps ds ∧ Vals dvs ds ∧ ∀ us st k x, cs i us st k x → us.length = ps.length
theorem FC.d {P : Program} {w : World} {K : PySem.W.Frag} {mg : Str → Option Value} {base : Heap} {cs : VM.CS} {k i : Nat} {f : Addr} (C : FC P w K mg base cs k i f) : FCD P w K mg base cs k i f [] := by
  obtain ⟨fd, ps, h1, h2, h3⟩ := C.ex
  exact ⟨fd, ps, [], h1, h2, .nil, h3⟩
theorem repL_app_right {K : PySem.W.Frag} {F : Hp} {μ : List Addr} {xs ds : List PV} {vs us : List V} (r : RepL K F μ xs vs) (rd : RepL K F μ ds us) : RepL K F μ (xs ++ ds) (vs ++ us) := r.append rd
section
variable {X : Cx} {a b c e o : Expr} {ta tb tc te : VM.TE} {t1 t2 : VM.TT} {pos p2 p apos : Pos} {es rest : List Expr} {tas : VM.TA} {x m : Str} {k : Nat} {f : Addr} {cs : VM.CS} {i n : Nat}
/-- the new instance's __init__, then what is wanted -/
theorem new_imp {cl : Nat} {C : Addr} (hC : C = cA X.K cl) {G F : Hp} {μ : List Addr} {st : Store} {H : Hp} {pvs : List PV} {vs : List V} {kk : VM.KV} {Q : VK} {fz : Bool} (l : Lay X.K G F μ st H) (rp : RepL X.K F μ pvs vs)
    (hl : ∀ us st k x, cs i us st k x → us.length = n) (d : cs i (.ref st.length :: pvs) (st ++ [.ins cl [] []]) (fun v st' => VM.isNon v = true ∧ (if fz = true then (match st'[st.length]? with
      | some (.ins c' ks vs) => kk (.obj c' ks vs) (st'.set st.length .dead)
      | _ => False) else kk (.ref st.length) st')) nox) (hk : Kon X.K G F μ kk Q) :
    ∀ x dx, H x = none → H dx = none → dx ≠ x → spOf X.K cs i n (.ref x :: vs) (upd (upd H dx (.own x)) x (.ins C dx [])) (fun v H2 => v = .non ∧ Q (.ref x) H2) E0 := by
  intro x dx hx hdx hne
  subst hC
  have l1 : Lay X.K G F μ st (upd H dx (.own x)) := l.extra hdx
  have hx1 : (upd H dx (.own x)) x = none := by rw [upd_ne (Ne.symm hne)]; exact hx
  have l2 : Lay X.K G F (μ ++ [x]) (st ++ [.ins cl [] []]) (upd (upd H dx (.own x)) x (.ins (cA X.K cl) dx [])) := l1.alloc (u := .ins cl [] []) hx1 ⟨l1.free hx1, dx, [], upd_same, rfl, repL_nil.mpr rfl⟩
  have hix : (μ ++ [x])[st.length]? = some x := by
    rw [← l.len, List.getElem?_append_right (Nat.le_refl _)]
    simp
  refine ⟨?_, G, F, μ ++ [x], st ++ [.ins cl [] []], .ref st.length :: pvs, _, l2, repL_cons.mpr ⟨.ref x, vs, rfl, rep_ref.mpr ⟨x, hix, rfl⟩, rp.mono (ext_alloc x)⟩, d, fun v H' F' μ' y st' e l' r q => ?_⟩
  · have := hl _ _ _ _ d
    rw [← this, List.length_cons, List.length_cons, rp.length]
  · obtain ⟨q1, q2⟩ := q
    obtain rfl : y = .non := by cases y <;> first | rfl | cases q1
    refine ⟨rep_non.mp r, ?_⟩
    have e0 : Ext F μ F' μ' := (ext_alloc x).trans e
    have hix' : μ'[st.length]? = some x := e.get hix
    cases fz with
    | false => exact hk (.ref x) H' F' μ' (.ref st.length) st' e0 l' (rep_ref.mpr ⟨x, hix', rfl⟩) q2
    | true =>
      simp only [if_true] at q2
      split at q2
      · rename_i c' ks xs es
        obtain ⟨F2, e2, l3, r3⟩ := l'.freeze hix' es
        exact hk (.ref x) H' F2 μ' (.obj c' ks xs) _ (e0.trans e2) l3 r3 q2
      · exact q2.elim
theorem ve_new {cl : Nat} {dvs : List V} {pds : List PV} (M : Mk X.K (cA X.K cl) f) (C : FCD X.prog X.w X.K X.mg X.base cs k i f dvs) (hr : Room (k + 1) X.A) (hg : Gl X x) (hm : X.mg x = some (.ref (cA X.K cl))) (hd : ∀ F μ, RepL X.K F μ pds dvs) (ha : VA X (e :: es) tas)
    (hdb : (x == ("__debug__" : Str)) = false := by decide) (he : starEach (e :: es) X.env = (false, eval e X.env) :: starEach es X.env := by rfl) (hpl : (backTo pos (starEach es X.env)).any (·.1) = false := by rfl) :
    VE X (.Call (.Name x p) (e :: es) [] pos) (VM.eNew cs cl i (VM.aDfl tas pds)) := by
  obtain ⟨fd, ps, ds, ok, bn, vd, len⟩ := C.ex
  refine pe_imp (pe_make (E := E0) M ok hr hg hm bn vd pass0 ha hdb he hpl) fun σ H Q h => ?_
  obtain ⟨G, F, μ, ρ, st, kk, l, r, d, hk⟩ := h
  refine bindA l r d fun vs H1 F1 μ1 pvs st1 e1 l1 r1 p1 q1 => ?_
  exact new_imp (fz := true) (n := ps.length) rfl l1 (p1.append (hd F1 μ1)) len q1 (hk.mono e1)
theorem ve_new0 {cl : Nat} {dvs : List V} {pds : List PV} (M : Mk X.K (cA X.K cl) f) (C : FCD X.prog X.w X.K X.mg X.base cs k i f dvs) (hr : Room (k + 1) X.A) (hg : Gl X x) (hm : X.mg x = some (.ref (cA X.K cl))) (hd : ∀ F μ, RepL X.K F μ pds dvs)
    (hdb : (x == ("__debug__" : Str)) = false := by decide) : VE X (.Call (.Name x p) [] [] pos) (VM.eNew cs cl i (VM.aDfl VM.aNil pds)) := by
  obtain ⟨fd, ps, ds, ok, bn, vd, len⟩ := C.ex
  refine pe_imp (pe_make0 (E := E0) M ok hr hg hm bn vd pass0 hdb) fun σ H Q h => ?_
  obtain ⟨G, F, μ, ρ, st, kk, l, r, d, hk⟩ := h
  exact new_imp (fz := true) (n := ps.length) (pvs := pds) rfl l (hd F μ) len d hk
theorem ve_newM {cl : Nat} {dvs : List V} {pds : List PV} (M : Mk X.K (cA X.K cl) f) (C : FCD X.prog X.w X.K X.mg X.base cs k i f dvs) (hr : Room (k + 1) X.A) (hg : Gl X x) (hm : X.mg x = some (.ref (cA X.K cl))) (hd : ∀ F μ, RepL X.K F μ pds dvs) (ha : VA X (e :: es) tas)
    (hdb : (x == ("__debug__" : Str)) = false := by decide) (he : starEach (e :: es) X.env = (false, eval e X.env) :: starEach es X.env := by rfl) (hpl : (backTo pos (starEach es X.env)).any (·.1) = false := by rfl) :
    VE X (.Call (.Name x p) (e :: es) [] pos) (VM.eNewM cs cl i (VM.aDfl tas pds)) := by
  obtain ⟨fd, ps, ds, ok, bn, vd, len⟩ := C.ex
  refine pe_imp (pe_make (E := E0) M ok hr hg hm bn vd pass0 ha hdb he hpl) fun σ H Q h => ?_
  obtain ⟨G, F, μ, ρ, st, kk, l, r, d, hk⟩ := h
  refine bindA l r d fun vs H1 F1 μ1 pvs st1 e1 l1 r1 p1 q1 => ?_
  exact new_imp (fz := false) (n := ps.length) rfl l1 (p1.append (hd F1 μ1)) len (by simpa using q1) (hk.mono e1)
theorem ve_meth {mt : VM.Tab} {pl : Sem Bool} (ho : VE X o ta) (hn : an n = m) (hm : MethT X.prog X.w X.K X.mg X.base cs k mt m) (hr : Room k X.A) (ha : VA X (e :: es) tas)
    (hst : starEach (e :: es) X.env = (false, eval e X.env) :: starEach es X.env := by rfl) (hpl : (backTo pos (starEach es X.env)).any (·.1) = false := by rfl)
    (ht : eval (.Call (.Attribute o m apos) (e :: es) [] pos) X.env = (do
      let ov ← eval o X.env
      standAt apos.atName
      let (f, first) ← holding [ov] (getMethod ov m pl)
      callWith pos f first (backTo pos (starEach (e :: es) X.env)) (backToKw pos (keywordEach [] X.env))) := by rfl) :
    VE X (.Call (.Attribute o m apos) (e :: es) [] pos) (VM.eMeth cs mt n ta tas) := by
  refine ⟨fun pins s σ H Q I h => ?_⟩
  obtain ⟨G, F, μ, ρ, st, kk, l, r, d, hk⟩ := h
  refine PySem.W.methodCall_KW (pl := pl) (thn (ho.run pins s σ H (fun v H1 => ∃ c i' G F μ st1 px, Rep X.K F μ px v ∧ Lay X.K G F μ st1 H1 ∧ EnvR X.K F μ σ ρ ∧ Kon X.K G F μ kk Q ∧ VM.clsOf st1 px = some c ∧ VM.tget mt c = some i' ∧ VM.fldOf st1 px n = none ∧ tas ρ st1 (fun us st => cs i' (px :: us) st kk nox) nox) I
    (bind1 l r d fun v H1 F1 μ1 px st1 e1 l1 r1 p1 q1 => ?_)) fun u s1 ⟨v, H1, I1, rx, c, i', G1, F1, μ1, st1, px, p1, l1, r1, hk1, hc, hi, hfn, q1⟩ => ?_) ht
  · split at q1
    · rename_i c ec
      split at q1
      · rename_i i' ei
        exact ⟨c, i', G, F1, μ1, st1, px, p1, l1, r1, hk.mono e1, ec, ei, q1.1, q1.2⟩
      · exact q1.elim
    · exact q1.elim
  obtain ⟨x, dx, ks, xs, vs, rfl, ea, hl, rl, hfl⟩ := inst_rep l1 p1 hc
  obtain rfl : u = Value.ref x := rx
  obtain ⟨f', cl, me, C⟩ := hm c i' hi
  rw [hfl n] at hfn
  have hlk := fget_none hl rl hfn
  rw [hn] at hlk
  refine getmeth_ok I1 ea cl me hlk ?_
  refine PySem.W.callWith_K (first := [.ref x]) (h₀ := X.base) I1.ok.mod.kin me.kp (thn (ha.run pos pins s1 σ H1 (fun vs H2 => ∃ F2 μ2 st2 pvs, Ext F1 μ1 F2 μ2 ∧ Lay X.K G1 F2 μ2 st2 H2 ∧ RepL X.K F2 μ2 pvs vs ∧ cs i' (px :: pvs) st2 kk nox) I1
    (bindA l1 r1 q1 fun vs H2 F2 μ2 pvs st2 e2 l2 r2 p2 q2 => ⟨F2, μ2, st2, pvs, e2, l2, p2, q2⟩)) fun us s2 ⟨vs2, H2, I2, r2, F2, μ2, st2, pvs, e2, l2, p2, q2⟩ => ⟨I2.kIn, ?_⟩) hst hpl
  exact run_fc (us := .ref x :: us) (vs := .ref x :: vs2) C hr I2 (.cons rfl r2) l2 (repL_cons.mpr ⟨.ref x, vs2, rfl, p1.mono e2, p2⟩) q2 (hk1.mono e2)
theorem ve_meth0 {mt : VM.Tab} {pl : Sem Bool} (ho : VE X o ta) (hn : an n = m) (hm : MethT X.prog X.w X.K X.mg X.base cs k mt m) (hr : Room k X.A)
    (ht : eval (.Call (.Attribute o m apos) [] [] pos) X.env = (do
      let ov ← eval o X.env
      standAt apos.atName
      let (f, first) ← holding [ov] (getMethod ov m pl)
      callWith pos f first (backTo pos (starEach [] X.env)) (backToKw pos (keywordEach [] X.env))) := by rfl) :
    VE X (.Call (.Attribute o m apos) [] [] pos) (VM.eMeth cs mt n ta VM.aNil) := by
  refine ⟨fun pins s σ H Q I h => ?_⟩
  obtain ⟨G, F, μ, ρ, st, kk, l, r, d, hk⟩ := h
  refine PySem.W.methodCall_KW (pl := pl) (thn (ho.run pins s σ H (fun v H1 => ∃ c i' G F μ st1 px, Rep X.K F μ px v ∧ Lay X.K G F μ st1 H1 ∧ Kon X.K G F μ kk Q ∧ VM.clsOf st1 px = some c ∧ VM.tget mt c = some i' ∧ VM.fldOf st1 px n = none ∧ cs i' [px] st1 kk nox) I
    (bind1 l r d fun v H1 F1 μ1 px st1 e1 l1 r1 p1 q1 => ?_)) fun u s1 ⟨v, H1, I1, rx, c, i', G1, F1, μ1, st1, px, p1, l1, hk1, hc, hi, hfn, q1⟩ => ?_) ht
  · split at q1
    · rename_i c ec
      split at q1
      · rename_i i' ei
        exact ⟨c, i', G, F1, μ1, st1, px, p1, l1, hk.mono e1, ec, ei, q1.1, q1.2⟩
      · exact q1.elim
    · exact q1.elim
  obtain ⟨x, dx, ks, xs, vs, rfl, ea, hl, rl, hfl⟩ := inst_rep l1 p1 hc
  obtain rfl : u = Value.ref x := rx
  obtain ⟨f', cl, me, C⟩ := hm c i' hi
  rw [hfl n] at hfn
  have hlk := fget_none hl rl hfn
  rw [hn] at hlk
  refine getmeth_ok I1 ea cl me hlk ?_
  exact PySem.W.callWith_K0 (first := [.ref x]) I1.kIn me.kp (run_fc (us := [.ref x]) (vs := [.ref x]) C hr I1 (.cons rfl .nil) l1 (repL_cons.mpr ⟨.ref x, [], rfl, p1, repL_nil.mpr rfl⟩) q1 hk1)
end
end VS
end
section
namespace VS
open PySem PySem.Spec PyProof.Rows L2
open VM (PV SO Store)
structure IntOp (op : Operator) : Prop where
  fill : fillsNumberSlot (.type "int") op.info.2 = pure true
  ex : ∃ id B, Slot "int" (PySem.dunder op.info.2) id ∧ entryFor table id = some B ∧ ∀ (i : Int) (tk : Tok) (y : Addr), argsOk id ⟨[.int i tk, .ref y], []⟩ ∧ GivesAt (VO.Plain y) (B ⟨[.int i tk, .ref y], []⟩) (.val .notImplemented)
theorem intop_add : IntOp .Add := ⟨PySem.F.fills_int_add, "int.__add__", _, PySem.F.slot_int_add, PySem.F.entry_int_add, fun _ _ _ => ⟨PySem.F.args_int_add_2 _ _, VO.int_add_declines⟩⟩
theorem intop_sub : IntOp .Sub := ⟨PySem.F.fills_int_sub, "int.__sub__", _, PySem.F.slot_int_sub, PySem.F.entry_int_sub, fun _ _ _ => ⟨PySem.F.args_int_sub_2 _ _, VO.int_sub_declines⟩⟩
theorem intop_mul : IntOp .Mult := ⟨PySem.F.fills_int_mul, "int.__mul__", _, PySem.F.slot_int_mul, PySem.F.entry_int_mul, fun _ _ _ => ⟨PySem.F.args_int_mul_2 _ _, VO.int_mul_declines⟩⟩
section
variable (P : Program) (w : World) (K : PySem.W.Frag) (mg : Str → Option Value) (base : Heap) (cs : VM.CS) (k : Nat)
/-- own operators on the left -/
def BinT (t : VM.Tab) (op : Operator) : Prop := ∀ c i, VM.tget t c = some i → ∃ f rc, CI K c ∧ PySem.W.findIn K (.ref (cA K c)) (PySem.dunder op.info.2) = some (some (.ref f)) ∧ PySem.W.isFn K (.ref f) = true ∧
  PySem.W.findIn K (.ref (cA K c)) (dunderR op.info.2) = some rc ∧ (rc = none ∨ ∃ g : Addr, rc = some (.ref g)) ∧ (∃ fo ro, PySem.W.findIn K (.type "int") (PySem.dunder op.info.2) = some fo ∧ PySem.W.findIn K (.type "int") (dunderR op.info.2) = some ro) ∧
  PySem.W.subIn K (.type "int") (.ref (cA K c)) = some false ∧ FC P w K mg base cs k i f
/-- own operators on the right of an int -/
def RefT (t : VM.Tab) (op : Operator) : Prop := ∀ c i, VM.tget t c = some i → ∃ f g, CI K c ∧ PySem.W.findIn K (.ref (cA K c)) (PySem.dunder op.info.2) = some (some (.ref f)) ∧
  PySem.W.findIn K (.ref (cA K c)) (dunderR op.info.2) = some (some (.ref g)) ∧ PySem.W.isFn K (.ref g) = true ∧ PySem.W.subIn K (.ref (cA K c)) (.type "int") = some false ∧ FC P w K mg base cs k i g
/-- own == -/
def EqT (t : VM.Tab) : Prop := ∀ c i, VM.tget t c = some i → ∃ f, CI K c ∧ PySem.W.findIn K (.ref (cA K c)) "__eq__" = some (some (.ref f)) ∧ PySem.W.isFn K (.ref f) = true ∧
  PySem.W.findIn K (.ref (cA K c)) "__ne__" = some (some (.builtin "object.__ne__")) ∧ (∀ T ∈ ["NoneType", "bool", "int", "str"], PySem.W.notFirst K (cA K c) (.type T) = true) ∧ FC P w K mg base cs k i f
end
section
variable {X : Cx} {a b c e o : Expr} {ta tb tc te : VM.TE} {t1 t2 : VM.TT} {pos p2 p apos : Pos} {es rest : List Expr} {tas : VM.TA} {x m : Str} {k : Nat} {f : Addr} {cs : VM.CS} {i n : Nat}
theorem cmpback {pins : List (Addr × Obj)} {σ : L2.St} {Q : VK} {u : Value} {s' : Shared} (h : EP X pins σ Q u s') : PySem.W.CmpBack (EP X pins σ Q) u s' := by
  obtain ⟨v, H', I', r, q⟩ := id h
  cases u <;> first | exact h | skip
  cases v <;> first | (cases r; done) | (obtain ⟨_, e⟩ := r; cases e; done)
theorem o_own {op : Operator} {o : VM.Op} {lt rt : VM.Tab} (hb : OpR X (binaryOp op) (R2of X.K (VM.opBin o))) (hl : BinT X.prog X.w X.K X.mg X.base cs k lt op) (hrt : RefT X.prog X.w X.K X.mg X.base cs k rt op) (hi : IntOp op) (hr : Room k X.A) :
    OpR X (binaryOp op) (R2of X.K fun u v st kk => VM.opOwn cs lt rt o u v st kk nox) := by
  intro pins s σ H x y v u Q I rx ry h
  obtain ⟨G, F, μ, st, px, py, kk, l, p1, p2, d, hk⟩ := h
  obtain ⟨m, hF⟩ := I.fr
  unfold VM.opOwn at d
  split at d
  · rename_i c ec
    obtain ⟨xa, dx, ks, xs, vs, rfl, ea, hl1, rl1, _⟩ := inst_rep l p1 ec
    obtain rfl : v = Value.ref xa := rx
    obtain ⟨od, J⟩ := inst_look I ea
    split at d
    · rename_i f' ef
      obtain ⟨f, rc, ci, h1, h2, h3, h4, ⟨fo, ro, h5, h6⟩, h7, C⟩ := hl c f' ef
      split at d
      · rename_i j
        obtain rfl := rep_int.mp p2
        obtain ⟨tk, rfl⟩ := (show ∃ t, u = Value.int j t from ry)
        refine PySem.W.ksp_binT (T := "int") hF I.ok.mod.kin J rfl ci.sf h1 h2 h3 h4 h5 h6 h7 ?_
        refine wpAny_mono (run_fc (us := [.ref xa, .int j tk]) (vs := [.ref xa, .int j]) C hr I (.cons rfl (.cons ⟨tk, rfl⟩ .nil)) l (repL_cons.mpr ⟨_, _, rfl, p1, repL_cons.mpr ⟨_, _, rfl, rep_int.mpr rfl, repL_nil.mpr rfl⟩⟩) d hk) (fun _ _ z => cmpback z) fun _ _ z => z
      · split at d
        · rename_i c' ec'
          obtain ⟨rfl, d⟩ := d
          obtain ⟨ya, dy, ks', xs', vs', rfl, eb, hl2, rl2, _⟩ := inst_rep l p2 ec'
          obtain rfl : u = Value.ref ya := ry
          obtain ⟨od', J'⟩ := inst_look I eb
          refine VO.bin_same I.kIn J J' ci.sf h1 h2 ?_
          refine wpAny_mono (run_fc (us := [.ref xa, .ref ya]) (vs := [.ref xa, .ref ya]) C hr I (.cons rfl (.cons rfl .nil)) l (repL_cons.mpr ⟨_, _, rfl, p1, repL_cons.mpr ⟨_, _, rfl, p2, repL_nil.mpr rfl⟩⟩) d hk) (fun _ _ z => cmpback z) fun _ _ z => z
        · exact d.elim
    · exact d.elim
  · split at d
    · rename_i c ec
      obtain ⟨ya, dy, ks', xs', vs', rfl, eb, hl2, rl2, _⟩ := inst_rep l p2 ec
      obtain rfl : u = Value.ref ya := ry
      obtain ⟨od', J'⟩ := inst_look I eb
      split at d
      · rename_i f' j ef e2
        obtain ⟨f, g, ci, h1, h2, h3, h4, C⟩ := hrt c f' ef
        obtain rfl := rep_int.mp p1
        obtain ⟨tk, rfl⟩ := (show ∃ t, v = Value.int j t from rx)
        obtain ⟨id, B, slot, entry, hx⟩ := hi.ex
        obtain ⟨args, gv⟩ := hx j tk ya
        refine VO.bin_int I.kIn J' ci.sf h1 h2 h3 h4 hi.fill slot entry args gv ⟨_, _, J'.at_⟩ ?_
        refine wpAny_mono (run_fc (us := [.ref ya, .int j tk]) (vs := [.ref ya, .int j]) C hr I (.cons rfl (.cons ⟨tk, rfl⟩ .nil)) l (repL_cons.mpr ⟨_, _, rfl, p2, repL_cons.mpr ⟨_, _, rfl, rep_int.mpr rfl, repL_nil.mpr rfl⟩⟩) d hk) (fun _ _ z => cmpback z) fun _ _ z => z
      · exact d.elim
    · exact hb pins s σ H x y v u Q I rx ry ⟨G, F, μ, st, px, py, kk, l, p1, p2, d, hk⟩
theorem ve_binO {op : Operator} {o : VM.Op} {lt rt : VM.Tab} (ho : OpR X (binaryOp op) (R2of X.K fun u v st kk => VM.opOwn cs lt rt o u v st kk nox)) (ha : VE X a ta) (hb : VE X b tb) : VE X (.BinOp a op b pos) (VM.eBinO cs lt rt o ta tb) := pe_imp (pe_op ho ha hb) fun σ H Q h => by
  obtain ⟨G, F, μ, ρ, st, k, l, r, d, hk⟩ := h
  exact bind2 l r hk d
/-- -x -/
theorem un_own {nt : VM.Tab} (hn : DunT X.prog X.w X.K X.mg X.base cs k nt "__neg__") (hr : Room k X.A) : UnR X (unaryOp .USub) (fun x H Q => ∃ G F μ st px kk, Lay X.K G F μ st H ∧ Rep X.K F μ px x ∧ (match VM.clsOf st px with
    | some c => match VM.tget nt c with | some f => cs f [px] st kk nox | none => False
    | none => match px with | .int i => kk (.int (-i)) st | _ => False) ∧ Kon X.K G F μ kk Q) := by
  intro pins s σ H x v Q I rx h
  obtain ⟨G, F, μ, st, px, kk, l, p1, d, hk⟩ := h
  obtain ⟨m, hF⟩ := I.fr
  split at d
  · rename_i c ec
    obtain ⟨xa, dx, ks, xs, vs, rfl, ea, hl1, rl1, _⟩ := inst_rep l p1 ec
    obtain rfl : v = Value.ref xa := rx
    obtain ⟨od, J⟩ := inst_look I ea
    split at d
    · rename_i f' ef
      obtain ⟨f, ci, h1, h2, C⟩ := hn c f' ef
      refine PySem.W.ksp_neg hF I.ok.mod.kin J h1 h2 ?_
      exact run_fc (us := [.ref xa]) (vs := [.ref xa]) C hr I (.cons rfl .nil) l (repL_cons.mpr ⟨_, _, rfl, p1, repL_nil.mpr rfl⟩) d hk
    · exact d.elim
  · split at d
    · rename_i j hcls
      obtain rfl := rep_int.mp p1
      exact un_neg pins s σ H _ v Q I rx ⟨j, rfl, hk.same l (rep_int.mpr rfl) d⟩
    · exact d.elim
theorem ve_negO {nt : VM.Tab} (hn : DunT X.prog X.w X.K X.mg X.base cs k nt "__neg__") (hr : Room k X.A) (ha : VE X a ta) : VE X (.UnaryOp .USub a pos) (VM.eNegO cs nt ta) := pe_imp (pe_un (un_own hn hr) ha) fun σ H Q h => by
  obtain ⟨G, F, μ, ρ, st, k, l, r, d, hk⟩ := h
  exact bind1 l r d fun x H1 F1 μ1 px st1 e1 l1 r1 p1 q1 => ⟨G, F1, μ1, st1, px, k, l1, p1, q1, hk.mono e1⟩
theorem flat_type {K : PySem.W.Frag} {F : Hp} {μ : List Addr} {px : PV} {y : V} {u : Value} (h : VM.isFlat px = true) (p : Rep K F μ px y) (r : RelV y u) : ∃ T ∈ ["NoneType", "bool", "int", "str"], typeOf u = pure (.type T) := by
  cases px <;> simp only [VM.isFlat] at h <;> try (cases h; done)
  case non =>
    obtain rfl := rep_non.mp p
    cases (show u = Value.none from r)
    exact ⟨"NoneType", by simp, rfl⟩
  case bl b =>
    obtain rfl := rep_bl.mp p
    cases (show u = Value.bool b from r)
    exact ⟨"bool", by simp, rfl⟩
  case int j =>
    obtain rfl := rep_int.mp p
    obtain ⟨tk, rfl⟩ := (show ∃ t, u = Value.int j t from r)
    exact ⟨"int", by simp, rfl⟩
  case str z =>
    obtain ⟨_, rfl⟩ := rep_str.mp p
    obtain ⟨tk, rfl⟩ := (show ∃ t, u = Value.str _ t from r)
    exact ⟨"str", by simp, rfl⟩
theorem bool_back {pins : List (Addr × Obj)} {σ : L2.St} {G F : Hp} {μ : List Addr} {Q : VK} {k : Bool → Store → Prop} (hk : KonB X.K G F μ k fun b H' => Q (.bl b) H') : Kon X.K G F μ (fun r st => match r with | .bl b => k b st | _ => False) (fun v H' => ∃ b, v = .bl b ∧ Q (.bl b) H') := fun v H' F' μ' px st' e l r q => by
  dsimp only at q
  split at q
  · rename_i b
    exact ⟨b, rep_bl.mp r, hk b H' F' μ' st' e l q⟩
  · exact q.elim
theorem c_own {et : VM.Tab} (hb : OpR X (compareOp .Eq) (R2B X.K VM.opEq)) (he : EqT X.prog X.w X.K X.mg X.base cs k et) (hr : Room k X.A) (hu : X.A.units < cLine) : OpR X (compareOp .Eq) (R2B X.K fun u v st kk => VM.opEqO cs et u v st kk nox) := by
  intro pins s σ H x y v u Q I rx ry h
  obtain ⟨G, F, μ, st, px, py, kk, l, p1, p2, d, hk⟩ := h
  obtain ⟨m, hF⟩ := I.fr
  unfold VM.opEqO at d
  split at d
  · rename_i c ec
    obtain ⟨xa, dx, ks, xs, vs, rfl, ea, hl1, rl1, _⟩ := inst_rep l p1 ec
    obtain rfl : v = Value.ref xa := rx
    obtain ⟨od, J⟩ := inst_look I ea
    split at d
    · rename_i f' ef
      obtain ⟨f, ci, h1, h2, h3, h4, C⟩ := he c f' ef
      obtain ⟨hv, d⟩ := d
      have call : wpAny (model X.prog X.w) X.A (call (.ref f) [.ref xa, u]) (PySem.W.CmpBack (EP X pins σ Q)) X.xe s := by
        refine wpAny_mono (run_fc (us := [.ref xa, u]) (vs := [.ref xa, y]) C hr I (.cons rfl (.cons ry .nil)) l (repL_cons.mpr ⟨_, _, rfl, p1, repL_cons.mpr ⟨_, _, rfl, p2, repL_nil.mpr rfl⟩⟩) d (bool_back (pins := pins) (σ := σ) hk)) (fun u' s' z => ?_) fun _ _ z => z
        obtain ⟨v, H', I', r, b, rfl, q⟩ := z
        exact cmpback ⟨.bl b, H', I', r, q⟩
      show wpAny _ _ (richCompare .Eq (.ref xa) u) _ _ _
      rcases hv with hv | hv
      · obtain ⟨T, hT, e⟩ := flat_type hv p2 ry
        exact PySem.W.cmp_K (op := .Eq) (tb := .type T) hu hF I.ok.mod.kin J (PySem.W.Looks.of_pure e) (h4 T hT) h1 h2 call
      · obtain ⟨ya, dy, ks', xs', vs', rfl, eb, hl2, rl2, _⟩ := inst_rep l p2 hv
        obtain rfl : u = Value.ref ya := ry
        obtain ⟨od', J'⟩ := inst_look I eb
        exact PySem.W.cmp_K (op := .Eq) (tb := .ref (cA X.K c)) hu hF I.ok.mod.kin J J'.type (by simp [PySem.W.notFirst]) h1 h2 call
    · exact d.elim
  · exact hb pins s σ H x y v u Q I rx ry ⟨G, F, μ, st, px, py, kk, l, p1, p2, d, hk⟩
theorem c_neown {et : VM.Tab} (hb : OpR X (compareOp .NotEq) (R2B X.K fun x y st k => VM.opEq x y st fun b st => k (!b) st)) (he : EqT X.prog X.w X.K X.mg X.base cs k et) (hr : Room k X.A.in1) (hu : X.A.units < cLine) (hu1 : X.A.in1.units < cLine) :
    OpR X (compareOp .NotEq) (R2B X.K fun u v st kk => VM.opEqO cs et u v st (fun b st => kk (!b) st) nox) := by
  intro pins s σ H x y v u Q I rx ry h
  obtain ⟨G, F, μ, st, px, py, kk, l, p1, p2, d, hk⟩ := h
  unfold VM.opEqO at d
  split at d
  · rename_i c ec
    obtain ⟨xa, dx, ks, xs, vs, rfl, ea, hl1, rl1, _⟩ := inst_rep l p1 ec
    obtain rfl : v = Value.ref xa := rx
    obtain ⟨od, J⟩ := inst_look I ea
    split at d
    · rename_i f' ef
      obtain ⟨f, ci, h1, h2, h3, h4, C⟩ := he c f' ef
      obtain ⟨hv, d⟩ := d
      have call : wpAny (model X.prog X.w) X.A.in1 (call (.ref f) [.ref xa, u]) (fun v s' => ∃ r, v = .bool r ∧ EP X pins σ Q (.bool (!r)) s') X.xe s := by
        refine wpAny_mono (run_fcA (Q := fun v H' => ∃ b, v = .bl b ∧ Q (.bl (!b)) H') (us := [.ref xa, u]) (vs := [.ref xa, y]) C hr rfl I (.cons rfl (.cons ry .nil)) l (repL_cons.mpr ⟨_, _, rfl, p1, repL_cons.mpr ⟨_, _, rfl, p2, repL_nil.mpr rfl⟩⟩) d (fun v H' F' μ' px st' e l r q => ?_)) (fun u' s' z => ?_) fun _ _ z => z
        · dsimp only at q
          split at q
          · rename_i b
            exact ⟨b, rep_bl.mp r, hk (!b) H' F' μ' st' e l q⟩
          · exact q.elim
        · obtain ⟨v, H', I', r, b, rfl, q⟩ := z
          obtain rfl : u' = Value.bool b := r
          exact ⟨b, rfl, .bl (!b), H', I', rfl, q⟩
      show wpAny _ _ (richCompare .NotEq (.ref xa) u) _ _ _
      rcases hv with hv | hv
      · obtain ⟨T, hT, e⟩ := flat_type hv p2 ry
        exact VO.ne_K (tb := .type T) hu hu1 I.kIn J (PySem.W.Looks.of_pure e) (h4 T hT) ci.hm h3 h1 h2 call
      · obtain ⟨ya, dy, ks', xs', vs', rfl, eb, hl2, rl2, _⟩ := inst_rep l p2 hv
        obtain rfl : u = Value.ref ya := ry
        obtain ⟨od', J'⟩ := inst_look I eb
        exact VO.ne_K (tb := .ref (cA X.K c)) hu hu1 I.kIn J J'.type (by simp [PySem.W.notFirst]) ci.hm h3 h1 h2 call
    · exact d.elim
  · exact hb pins s σ H x y v u Q I rx ry ⟨G, F, μ, st, px, py, kk, l, p1, p2, d, hk⟩
theorem ve_cmpO {op : CmpOp} {o : VM.Cm} {et : VM.Tab} (ho : OpR X (compareOp op) (R2B X.K fun u v st kk => VM.opCmO cs et o u v st kk nox)) (ha : VE X a ta) (hb : VE X b tb) (hm : behindInMarks op b = false) : VE X (.Compare a [op] [b] pos) (VM.eCmpO cs et o ta tb) := pe_imp (pe_cmpR ho ha hb hm) fun σ H Q h => by
  obtain ⟨G, F, μ, ρ, st, k, l, r, d, hk⟩ := h
  exact bind2B l r (kon_b hk) d
theorem vt_cmpO {op : CmpOp} {o : VM.Cm} {et : VM.Tab} (ho : OpR X (compareOp op) (R2B X.K fun u v st kk => VM.opCmO cs et o u v st kk nox)) (ha : VE X a ta) (hb : VE X b tb) (hm : behindInMarks op b = false) : VT X (.Compare a [op] [b] pos) (VM.tCmpO cs et o ta tb) := pt_imp (pt_cmpR ho ha hb hm) fun σ H Q h => by
  obtain ⟨G, F, μ, ρ, st, k, l, r, d, hk⟩ := h
  exact bind2B (Q := fun x H' => ∃ k, x = .bl k ∧ Q k H') l r (fun b H' F' μ' st' e l q => ⟨b, rfl, hk b H' F' μ' st' e l q⟩) d
theorem kd_own {K : PySem.W.Frag} {G F : Hp} {μ : List Addr} {H : Hp} {st : Store} {px : PV} {v : V} {c : Nat} (l : Lay K G F μ st H) (r : Rep K F μ px v) (h : VM.clsOf st px = some c) (ci : CI K c) : TyX K H v (.ref (cA K c)) := by
  obtain ⟨xa, dx, ks, xs, vs, rfl, ea, hl1, rl1, _⟩ := inst_rep l r h
  exact .base (.ins ea ci.cls ci.ha ci.hn ci.htk ci.hm)
/-- what isinstance says, by the kinds of values: cl, all classes that may come -/
def IsiT (K : PySem.W.Frag) (C : Addr) (cl sup : List Nat) : Prop := (∀ T ∈ ["NoneType", "bool", "int", "str", "list", "tuple", "dict"], PySem.W.kitOne K (.type T) (.ref C) = some false) ∧ ∀ c ∈ cl, CI K c ∧ PySem.W.kitOne K (.ref (cA K c)) (.ref C) = some (sup.contains c)
end
end VS
end
section
namespace VS
open PySem PySem.Spec PyProof.Rows L2
open VM (PV SO Store)
section
variable {X : Cx} {a b c e o : Expr} {ta tb tc te : VM.TE} {t1 t2 : VM.TT} {pos p2 p apos : Pos} {es rest : List Expr} {tas : VM.TA} {x m : Str} {k : Nat} {f : Addr} {cs : VM.CS} {i n : Nat}
theorem kdS_mem (kd : VM.Kd) (h : kd ≠ .other) : kdS kd ∈ ["NoneType", "bool", "int", "str", "list", "tuple", "dict"] := by cases kd <;> first | (exact absurd rfl h) | decide
theorem ve_isiO {C : Addr} {cl sup : List Nat} {pc : Pos} (ha : VE X a ta) (hgc : Gl X x) (hmc : X.mg x = some (.ref C)) (hI : IsiT X.K C cl sup) (hg : Gl X "isinstance") (hm : X.mg "isinstance" = none) (hd : (x == ("__debug__" : Str)) = false := by decide)
    (he : starEach [a, .Name x pc] X.env = (false, eval a X.env) :: starEach [.Name x pc] X.env := by rfl) (he2 : starEach [.Name x pc] X.env = (false, eval (.Name x pc) X.env) :: starEach [] X.env := by rfl) (hpl : (backTo pos (starEach [.Name x pc] X.env)).any (·.1) = false := by rfl) :
    VE X (.Call (.Name "isinstance" p) [a, .Name x pc] [] pos) (VM.eB1 (VM.fIsiO cl sup) ta) :=
  pe_imp (pe_callB call_isi hg hm boot_isinstance (pa_cons ha (pa_cons (pe_glob (v := .ref C) hgc hmc rfl hd) pa_nil he2) he) (he := he) (hpl := hpl)) fun σ H Q h => by
    obtain ⟨G, F, μ, ρ, st, k, l, r, d, hk⟩ := h
    refine bind1 l r d fun v H1 F1 μ1 px st1 e1 l1 r1 p1 q1 => ?_
    unfold VM.fIsiO at q1
    split at q1
    · rename_i c ec
      obtain ⟨hc, q1⟩ := q1
      obtain ⟨ci, hk1⟩ := hI.2 c (by simpa using hc)
      exact ⟨v, _, _, _, _, rfl, .own C, kd_own l1 p1 ec ci, hk1, (hk.mono e1).same l1 (rep_bl.mpr rfl) q1⟩
    · obtain ⟨h1, q1⟩ := q1
      exact ⟨v, _, _, _, _, rfl, .own C, kd_rep l1 p1 h1, hI.1 _ (kdS_mem _ h1), (hk.mono e1).same l1 (rep_bl.mpr rfl) q1⟩
/-- a test by an own instance's truth -/
def TruT (P : Program) (w : World) (K : PySem.W.Frag) (mg : Str → Option Value) (base : Heap) (cs : VM.CS) (k : Nat) (bt : VM.Tab) : Prop := DunT P w K mg base cs k bt "__bool__"
theorem vt_ofO {bt : VM.Tab} (ha : VE X a ta) (hb : DunT X.prog X.w X.K X.mg X.base cs k bt "__bool__") (hr : Room k X.A) (he : ∀ whole, isTrue a X.env whole = (do let v ← whole; standAt a.pos; holding [v] (truthy v)) := by intro _; rfl) : VT X a (VM.tOfO cs bt [] ta) := by
  refine ⟨fun pins s σ H Q I h => ?_⟩
  obtain ⟨G, F, μ, ρ, st, kk, l, r, d, hk⟩ := h
  refine isTrue_plain (thn (ha.run pins s σ H (fun v H1 => ∃ G F μ px st1 k1, Lay X.K G F μ st1 H1 ∧ Rep X.K F μ px v ∧ VM.truthO cs bt [] px st1 k1 nox ∧ KonB X.K G F μ k1 Q) I
    (bind1 l r d fun v H1 F1 μ1 px st1 e1 l1 r1 p1 q1 => ⟨G, F1, μ1, px, st1, kk, l1, p1, q1, hk.mono e1⟩)) fun u s1 ⟨v, H1, I1, rx, G1, F1, μ1, px, st1, k1, l1, p1, q1, hk1⟩ => ?_) (he _)
  obtain ⟨m, hF⟩ := I1.fr
  unfold VM.truthO at q1
  split at q1
  · rename_i c ec
    obtain ⟨xa, dx, ks, xs, vs, rfl, ea, hl1, rl1, _⟩ := inst_rep l1 p1 ec
    obtain rfl : u = Value.ref xa := rx
    obtain ⟨od, J⟩ := inst_look I1 ea
    split at q1
    · rename_i f' ef
      obtain ⟨f, ci, h1, h2, C⟩ := hb c f' ef
      refine PySem.W.truthy_K hF I1.ok.mod.kin J h1 h2 (wpAny_mono (run_fc (us := [.ref xa]) (vs := [.ref xa]) C hr I1 (.cons rfl .nil) l1 (repL_cons.mpr ⟨_, _, rfl, p1, repL_nil.mpr rfl⟩) q1 (Q := fun v H' => ∃ b, v = .bl b ∧ Q b H') (fun v H' F' μ' px st' e l r q => ?_)) (fun u' s' z => ?_) fun _ _ z => z)
      · split at q
        · rename_i b
          exact ⟨b, rep_bl.mp r, hk1 b H' F' μ' st' e l q⟩
        · exact q.elim
      · obtain ⟨v, H', I', r, b, rfl, q⟩ := z
        obtain rfl : u' = Value.bool b := r
        exact ⟨H', I', q⟩
    · simp only [VM.tget] at q1
  · split at q1
    · rename_i b eb
      exact tru_ok pins s1 σ H1 v u Q I1 rx ⟨b, truth_rep l1 p1 eb, hk1.same l1 q1⟩
    · exact q1.elim
/-- a global that is a whole number, a text -/
theorem ve_gint {j : Int} (hg : Gl X x) (hm : ∃ t, X.mg x = some (.int j t)) (hd : (x == ("__debug__" : Str)) = false := by decide) : VE X (.Name x pos) (VM.eC (.int j)) := by
  obtain ⟨t, hm⟩ := hm
  refine pe_imp (pe_glob (v := .int j) hg hm ⟨t, rfl⟩ hd) fun σ H Q h => ?_
  obtain ⟨G, F, μ, ρ, st, k, l, r, d, hk⟩ := h
  exact hk.same l (rep_int.mpr rfl) d
theorem ve_gstr {z : List Nat} (hg : Gl X x) (hm : ∃ t, X.mg x = some (.str ⟨z.toArray⟩ t)) (hz : sOk z) (hd : (x == ("__debug__" : Str)) = false := by decide) : VE X (.Name x pos) (VM.eC (.str z)) := by
  obtain ⟨t, hm⟩ := hm
  refine pe_imp (pe_glob (v := .str ⟨z.toArray⟩) hg hm ⟨t, rfl⟩ hd) fun σ H Q h => ?_
  obtain ⟨G, F, μ, ρ, st, k, l, r, d, hk⟩ := h
  exact hk.same l (rep_str.mpr ⟨hz, rfl⟩) d
theorem ve_gcd (ha : VE X a ta) (hb : VE X b tb) (hg : Gl X x) (hm : X.mg x = some (.builtin "math.gcd")) (hd : (x == ("__debug__" : Str)) = false := by decide)
    (he : starEach [a, b] X.env = (false, eval a X.env) :: starEach [b] X.env := by rfl) (he2 : starEach [b] X.env = (false, eval b X.env) :: starEach [] X.env := by rfl) (hpl : (backTo pos (starEach [b] X.env)).any (·.1) = false := by rfl) :
    VE X (.Call (.Name x p) [a, b] [] pos) (VM.eGcd ta tb) := pe_imp (pe_callBfun cr_gcd hg hm (pa_cons ha (pa_cons hb pa_nil he2) he) hd he hpl) fun σ H Q h => by
  obtain ⟨G, F, μ, ρ, st, k, l, r, d, hk⟩ := h
  refine bind1 l r d fun x H1 F1 μ1 px st1 e1 l1 r1 p1 q1 => bind1 l1 r1 q1 fun y H2 F2 μ2 py st2 e2 l2 r2 p2 q2 => ?_
  split at q2
  · rename_i i j
    obtain rfl := rep_int.mp (p1.mono e2)
    obtain rfl := rep_int.mp p2
    exact ⟨i, j, rfl, (hk.mono (e1.trans e2)).same l2 (rep_int.mpr rfl) q2⟩
  · exact q2.elim
theorem digits_ok (z : String) (h : z.length ≤ 16777216) : sOk (z.toList.map Char.toNat) ∧ (z : Str) = ⟨(z.toList.map Char.toNat).toArray⟩ := by
  refine ⟨⟨by rw [List.length_map]; exact h, fun c hc => ?_⟩, PySem.Str.ofString_eq_toList z⟩
  obtain ⟨ch, _, rfl⟩ := List.mem_map.mp hc
  have := ch.valid
  unfold Char.toNat
  rcases this with h | h
  · have : ch.val.toNat < 0xd800 := h
    omega
  · have := h.2
    have : ch.val.toNat < 0x110000 := this
    omega
/-- a, b, c = x, y, z -/
theorem vs_par3 {i j q : Nat} {y z u : Str} {px py pz pt : Pos} {kt k2 pt2} (hc : X.calm = true) (hN : X.N.Nodup) (hi : X.N[i]? = some y) (hj : X.N[j]? = some z) (hq : X.N[q]? = some u) (hij : i ≠ j) (hiq : i ≠ q) (hjq : j ≠ q)
    (hx : X.env.scope.names.lookup y = some .local) (hy : X.env.scope.names.lookup z = some .local) (hz : X.env.scope.names.lookup u = some .local) (ha : VA X [a, b, c] tas)
    (hw : swappedStores [.Tuple [.Name y px, .Name z py, .Name u pz] kt pt] (.Tuple [a, b, c] k2 pt2) X.env = pure (some [y, z, u]))
    (hs : swapsWithSole [.Tuple [.Name y px, .Name z py, .Name u pz] kt pt] (.Tuple [a, b, c] k2 pt2) pos.line X.env = pure false := by rfl) :
    VSt X (.Assign [.Tuple [.Name y px, .Name z py, .Name u pz] kt pt] (.Tuple [a, b, c] k2 pt2) pos) (VM.sPar [i, j, q] tas) := ps_imp (ps_par3 hc hN hi hj hq hij hiq hjq hx hy hz ha hw hs) fun D σ H h => by
  obtain ⟨G, F, μ, ρ, st, DV, l, r, d, hk⟩ := h
  unfold VM.sPar at d
  rw [hk.xk] at d
  refine bindA l r d fun vs H1 F1 μ1 pvs st1 e1 l1 r1 p1 q1 => ?_
  match pvs, q1 with
  | [p, q', s], q1 =>
    obtain ⟨v, _, rfl, rv, p1⟩ := repL_cons.mp p1
    obtain ⟨w, _, rfl, rw', p1⟩ := repL_cons.mp p1
    obtain ⟨w2, _, rfl, rw2, p1⟩ := repL_cons.mp p1
    obtain rfl := repL_nil.mp p1
    exact ⟨v, w, w2, rfl, hk.nx _ H1 F1 μ1 _ st1 e1 l1 (((r1.set i rv).set j rw').set q rw2) q1⟩
  | [], q1 => exact q1.elim
  | [_], q1 => exact q1.elim
  | [_, _], q1 => exact q1.elim
  | _ :: _ :: _ :: _ :: _, q1 => exact q1.elim
theorem ve_strc (ha : VE X a ta) (hg : Gl X "str") (hm : X.mg "str" = none) (he : starEach [a] X.env = (false, eval a X.env) :: starEach [] X.env := by rfl) : VE X (.Call (.Name "str" p) [a] [] pos) (VM.eB1 VM.fStr ta) :=
  ve_t1 call_str_int (fun G F μ st H px v k Q l r d hk => by
    unfold VM.fStr at d
    split at d
    · rename_i j
      obtain rfl := rep_int.mp r
      obtain ⟨h1, h0, d⟩ := d
      obtain ⟨h2, h3⟩ := digits_ok (toString j) h0
      refine ⟨j, rfl, h1, ?_⟩
      rw [h3]
      exact hk.same l (rep_str.mpr ⟨h2, rfl⟩) d
    · exact d.elim) ha hg hm boot_str (he := he)
end
end VS
end
section
namespace VS
open PySem PySem.Spec PyProof.Rows L2
def asV (g : Addr → Option Obj) (n : Nat) : List Addr := He.asD g n ++ [cStatics, sysModules, builtinsNs]
def seerB (K : PySem.W.Frag) : Bool := (K.lookup cStatics).isSome && ((K.lookup sysModules).isSome && ((K.lookup builtinsNs).isSome && ((K.lookup mainGlobals).isSome && ((K.lookup (He.ga K "__builtins__")).isSome && (He.Fa.glo "__builtins__").ok K))))
theorem in_same {K : PySem.W.Frag} {h base : Heap} {a : Addr} {o : Obj} (X : K.In h) (B : K.In base) (hk : (K.lookup a).isSome = true) (e : h.get? a = some o) : base.get? a = some o := by
  obtain ⟨o', e'⟩ := Option.isSome_iff_exists.mp hk
  have := X _ _ e'
  rw [e] at this
  cases this
  exact B _ _ e'
theorem seer_of {K : PySem.W.Frag} {h : Heap} (X : K.In h) (S : h.NoSeer) (hs : seerB K = true) : ∀ base : Heap, K.In base → base.NoSeer := by
  unfold seerB at hs
  simp only [Bool.and_eq_true] at hs
  obtain ⟨k1, k2, k3, k4, k5, k6⟩ := hs
  obtain ⟨⟨mc, ⟨o1, es1, ep1, g1, d1⟩, c1, c2⟩, ⟨mm, ⟨o2, es2, ep2, g2, d2⟩, m1⟩, ⟨mb, ⟨o3, es3, ep3, g3, d3⟩, b1⟩, ⟨mg, bm, ob, ⟨o4, es4, ep4, g4, d4⟩, w1, w2, w3, w4⟩⟩ := S
  have hb := He.glo_ok X ⟨o4, es4, ep4, g4, d4⟩ k6
  rw [w1] at hb
  have ebm : bm = He.ga K "__builtins__" := by
    injection hb with hb
    injection hb
  intro base B
  exact ⟨⟨mc, ⟨o1, es1, ep1, in_same X B k1 g1, d1⟩, c1, c2⟩, ⟨mm, ⟨o2, es2, ep2, in_same X B k2 g2, d2⟩, m1⟩, ⟨mb, ⟨o3, es3, ep3, in_same X B k3 g3, d3⟩, b1⟩, ⟨mg, bm, ob, ⟨o4, es4, ep4, in_same X B k4 g4, d4⟩, w1, in_same X B (by rw [ebm]; exact k5) w2, w3, w4⟩⟩
/-- where a class has a method -/
def mA (K : PySem.W.Frag) (c : Nat) (m : Str) : Addr := He.ma K (cA K c) m
/-- a property: its object, its getter -/
def pA (K : PySem.W.Frag) (c : Nat) (m : Str) : Addr := He.ma K (cA K c) m
def gA (K : PySem.W.Frag) (c : Nat) (m : Str) : Addr := match PySem.W.recIn K (pA K c m) "property" with
  | some (.ref g :: _) => g
  | _ => 0
/-- a def by where it stands -/
structure DefV where
  adr : PySem.W.Frag → Addr
  name : Str
  qual : Str
  params : Arguments
  body : List Stmt
  scope : Scope
  dfl : List He.Dv := []
def fnV (K : PySem.W.Frag) (a : Addr) : He.FnW := match K.lookup a with
  | some ⟨_, _, .func fd, _⟩ => some (fd.name, fd.qualname, fd.params, fd.body, fd.scope, fd.globals, fd.closure, fd.builtins)
  | _ => none
def DefV.val (d : DefV) : He.FnW := some (d.name, d.qual, d.params, .stmts d.body, d.scope, mainGlobals, [], builtinsNs)
def DefV.dvs (K : PySem.W.Frag) (d : DefV) : List V := d.dfl.map (He.Dv.v K)
def DefV.ok (K : PySem.W.Frag) (d : DefV) : Bool := (match K.lookup (d.adr K) with
  | some ⟨_, _, .func fd, _⟩ => PySem.W.codeIn K fd.code d.qual && (He.dflB K fd.defaults (d.dvs K) && He.kwdB K fd.kwdefaults [])
  | _ => false) && PySem.W.keepIn K (.ref (d.adr K))
theorem DefV.funD {K : PySem.W.Frag} {d : DefV} (hv : fnV K (d.adr K) = d.val) (ho : d.ok K = true) : ∃ fd, FunD K d.name d.qual d.params d.body d.scope (d.dvs K) [] (d.adr K) fd := by
  unfold DefV.ok at ho
  rw [Bool.and_eq_true] at ho
  obtain ⟨o1, kp⟩ := ho
  unfold fnV at hv
  cases lk : K.lookup (d.adr K) with
  | none => rw [lk] at o1; cases o1
  | some ob =>
    obtain ⟨oc, od, dt, osl⟩ := ob
    rw [lk] at o1 hv
    cases dt with
    | func fd =>
      obtain ⟨m1, m2, m3, m4, m5, m6, m7, m8, m9, m10, m11, m12, m13, m14, m15⟩ := fd
      have ev : (some (m1, m2, m3, m4, m5, m6, m7, m15) : He.FnW) = some (d.name, d.qual, d.params, .stmts d.body, d.scope, mainGlobals, [], builtinsNs) := hv
      simp only [Option.some.injEq, Prod.mk.injEq] at ev
      obtain ⟨q1, q2, q3, q4, q5, q6, q7, q8⟩ := ev
      subst q1 q2 q3 q4 q5 q6 q7 q8
      have oo : (PySem.W.codeIn K m13 d.qual && (He.dflB K m8 (d.dvs K) && He.kwdB K m9 [])) = true := o1
      simp only [Bool.and_eq_true] at oo
      exact ⟨_, ⟨oc, od, m8, m9, m10, m11, m12, m13, m14, osl, rfl, lk, oo.1, He.dflB_ok oo.2.1, He.kwdB_ok oo.2.2⟩, kp⟩
    | _ => cases o1
abbrev AlV : Type := Bool × List He.FnW
def obsV (fa : List He.Fa) (fn : List DefV) (ex : PySem.W.Frag → Bool) (K : PySem.W.Frag) : AlV := ((fa.all fun f => f.ok K) && ((fn.all fun d => d.ok K) && (ex K && seerB K)), fn.map fun d => fnV K (d.adr K))
def valV (fn : List DefV) : AlV := (true, fn.map DefV.val)
def SaysV (fa : List He.Fa) (fn : List DefV) (ex : PySem.W.Frag → Bool) (K : PySem.W.Frag) : Prop := obsV fa fn ex K = valV fn
def obsVG (n : Nat) (fa : List He.Fa) (fn : List DefV) (ex : PySem.W.Frag → Bool) (g : Addr → Option Obj) : AlV := obsV fa fn ex (He.frG g (asV g n))
def hookV (n : Nat) (fa : List He.Fa) (fn : List DefV) (ex : PySem.W.Frag → Bool) : PySem.W.Hook where
  α := AlV
  obs := fun s => obsVG n fa fn ex s.heap.get?
  val := fun _ => valV fn
  says := fun _ h => ∃ K : PySem.W.Frag, K.In h ∧ SaysV fa fn ex K
  of := fun _ _ e => ⟨_, He.frG_in, e⟩
  keeps := fun _ _ _ ⟨K, hK, c⟩ k => ⟨K, PySem.W.Frag.In.keeps hK k, c⟩
theorem obsVG_eq {n : Nat} {fa : List He.Fa} {fn : List DefV} {ex : PySem.W.Frag → Bool} {g : Addr → Option Obj} {s : Shared} (h : ∀ a, g a = s.heap.get? a) : obsVG n fa fn ex g = (hookV n fa fn ex).obs s := by
  have e : g = s.heap.get? := funext h
  rw [e] <;> rfl
section
variable {fa : List He.Fa} {fn : List DefV} {ex : PySem.W.Frag → Bool} {K : PySem.W.Frag}
theorem SaysV.b (c : SaysV fa fn ex K) : (fa.all fun f => f.ok K) = true ∧ (fn.all fun d => d.ok K) = true ∧ ex K = true ∧ seerB K = true := by
  have h : ((fa.all fun f => f.ok K) && ((fn.all fun d => d.ok K) && (ex K && seerB K))) = true := congrArg (fun z : AlV => z.1) c
  simp only [Bool.and_eq_true] at h
  exact ⟨h.1, h.2.1, h.2.2.1, h.2.2.2⟩
theorem SaysV.fact (c : SaysV fa fn ex K) (i : Nat) {f : He.Fa} (h : fa[i]? = some f := by rfl) : f.ok K = true := List.all_eq_true.mp c.b.1 f (List.mem_of_getElem? h)
theorem SaysV.def_ (c : SaysV fa fn ex K) (i : Nat) {d : DefV} (h : fn[i]? = some d := by rfl) : ∃ fd, FunD K d.name d.qual d.params d.body d.scope (d.dvs K) [] (d.adr K) fd := by
  have e : fn.map (fun d => fnV K (d.adr K)) = fn.map DefV.val := congrArg (fun z : AlV => z.2) c
  have e2 : (fn.map fun d => fnV K (d.adr K))[i]? = (fn.map DefV.val)[i]? := by rw [e]
  rw [List.getElem?_map, List.getElem?_map, h] at e2
  exact DefV.funD (Option.some.inj e2) (List.all_eq_true.mp c.b.2.1 d (List.mem_of_getElem? h))
end
/-- how the law's end is reached, facts and all over one fragment -/
theorem walk_ofV {l : PySem.W.OpenLaw} {n k : Nat} {q : Program} {loose : List Str} {XP : (Str → Option Value) → Heap → Prop} {YP : World → Heap → Prop} {d : DefRec} {x : Str}
    (hn : l.most = some n) (hn2 : n ≤ sizeLine) (hdf : d.params.defaults = []) (hr : Room k callerA) (hq : importsNone q = true)
    (F : ∀ (w : World) (mg : Str → Option Value) (fa : Addr) (h : Heap), YP w h → h.Ns mainGlobals mg → mg d.name = some (.ref fa) →
      ∃ (K : PySem.W.Frag) (fd : FuncData), K.In h ∧ seerB K = true ∧ (∀ (s : Shared) (u : Value), BindsTo s fd ⟨[u], []⟩ [(x, u)]) ∧ ∃ sp : Sp,
        (∀ (H : Hp) (a : Addr) (ns : List Int), ns.length ≤ n → SqL K H a (ns.map V.int) → sp [.ref a] H (fun v _ => v = .bl true) fun _ _ _ => False) ∧
        ∀ base : Heap, K.In base → base.Ns mainGlobals mg → base.NoSeer → FnOk l.prog w K mg base CX0 k fa fd [x] sp) :
    PySem.W.WalkO q loose XP YP l.row.toRowW d [] (fun f vs => PySem.call f vs) := by
  refine Att.attach_call hn hdf ?_
  intro w t0 t1 mg mb fa o pm cd doc a vs ns Gr Yh ho hd hcd hmg hobj hints hlen hg
  obtain ⟨K, fd, KX, sb, hb, sp, hsp, hF⟩ := F w mg fa _ Yh Gr.T.g hmg
  have sr := seer_of KX (Gr.T.seer hq) sb
  exact law_call (CX := CX0) KX Gr.T.g Gr.T.b Gr.T.builtins Gr.T.nolimit hg hobj hints (Nat.le_trans hlen hn2) hr (fun base h1 h2 => hF base h1 h2 (sr base h1)) hb (fun H _ hS => hsp H a ns hlen hS) fun _ _ _ z => z
def eqV (a b : Option (Option Value)) : Bool := decide (a = b)
def ciB (K : PySem.W.Frag) (c : Nat) : Bool := (He.Fa.cls (cn c)).ok K && (eqV (PySem.W.findIn K (.ref (cA K c)) "__class__") (some (some (.builtin "object.__class__"))) && (eqV (PySem.W.specialIn K (.builtin "object.__class__") "__get__") (some (some (.builtin "getset_descriptor.__get__"))) &&
  (decide (PySem.W.takesIn K (.builtin "object.__class__") = some true) && (decide (PySem.W.mroIn K (cA K c) (.type "object") = some true) && PySem.W.selfFirst K (cA K c)))))
theorem ciB_ok {K : PySem.W.Frag} {c : Nat} (h : ciB K c = true) : CI K c := by
  unfold ciB eqV at h
  simp only [Bool.and_eq_true, decide_eq_true_eq] at h
  exact ⟨He.cls_ok h.1, h.2.1, h.2.2.1, h.2.2.2.1, h.2.2.2.2.1, h.2.2.2.2.2⟩
def fldB (K : PySem.W.Frag) (ft : List Nat) (n : Nat) : Bool := ft.all fun c => (He.Fa.cls (cn c)).ok K && decide (PySem.W.findIn K (.ref (cA K c)) (an n) = some none)
theorem fldB_ok {K : PySem.W.Frag} {ft : List Nat} {n : Nat} (h : fldB K ft n = true) : FldT K ft n := fun c hc => by
  have := List.all_eq_true.mp h c (by simpa using hc)
  simp only [Bool.and_eq_true, decide_eq_true_eq] at this
  exact ⟨He.cls_ok this.1, this.2⟩
def methB (K : PySem.W.Frag) (c : Nat) (m : Str) : Bool := (He.Fa.cls (cn c)).ok K && (He.Fa.meth (cn c) m).ok K
theorem methB_ok {K : PySem.W.Frag} {c : Nat} {m : Str} (h : methB K c m = true) : Cls K (cA K c) ∧ Meth K (cA K c) m (mA K c m) := by
  unfold methB at h
  simp only [Bool.and_eq_true] at h
  exact ⟨He.cls_ok h.1, He.meth_ok h.2⟩
def propB (K : PySem.W.Frag) (c : Nat) (m : Str) : Bool := (He.Fa.cls (cn c)).ok K && (eqV (PySem.W.findIn K (.ref (cA K c)) m) (some (some (.ref (pA K c m)))) && (eqV (PySem.W.specialIn K (.ref (pA K c m)) "__get__") (some (some (.builtin "property.__get__"))) && (decide (PySem.W.takesIn K (.ref (pA K c m)) = some true) &&
  (match PySem.W.recIn K (pA K c m) "property" with
    | some (.ref g :: _) => true
    | _ => false))))
theorem propB_ok {K : PySem.W.Frag} {c : Nat} {m : Str} (h : propB K c m = true) : Cls K (cA K c) ∧ PropOf K (cA K c) m (pA K c m) (gA K c m) := by
  unfold propB eqV at h
  simp only [Bool.and_eq_true, decide_eq_true_eq] at h
  obtain ⟨h1, h2, h3, h4, h5⟩ := h
  refine ⟨He.cls_ok h1, h2, h3, h4, ?_⟩
  unfold gA
  cases e : PySem.W.recIn K (pA K c m) "property" with
  | none => rw [e] at h5; cases h5
  | some l =>
    rw [e] at h5
    cases l with
    | nil => cases h5
    | cons a r =>
      cases a <;> first | (cases h5; done) | exact ⟨r, rfl⟩
def binB (K : PySem.W.Frag) (c : Nat) (op : Operator) : Bool := ciB K c && ((He.Fa.meth (cn c) (PySem.dunder op.info.2)).ok K && ((match PySem.W.findIn K (.ref (cA K c)) (dunderR op.info.2) with
    | some none => true
    | some (some (.ref _)) => true
    | _ => false) && ((PySem.W.findIn K (.type "int") (PySem.dunder op.info.2)).isSome && ((PySem.W.findIn K (.type "int") (dunderR op.info.2)).isSome && decide (PySem.W.subIn K (.type "int") (.ref (cA K c)) = some false)))))
def refB (K : PySem.W.Frag) (c : Nat) (op : Operator) : Bool := ciB K c && ((He.Fa.meth (cn c) (PySem.dunder op.info.2)).ok K && ((He.Fa.meth (cn c) (dunderR op.info.2)).ok K && decide (PySem.W.subIn K (.ref (cA K c)) (.type "int") = some false)))
def eqB (K : PySem.W.Frag) (c : Nat) : Bool := ciB K c && ((He.Fa.meth (cn c) "__eq__").ok K && (eqV (PySem.W.findIn K (.ref (cA K c)) "__ne__") (some (some (.builtin "object.__ne__"))) && (["NoneType", "bool", "int", "str"].all fun T => PySem.W.notFirst K (cA K c) (.type T))))
def isiB (K : PySem.W.Frag) (C : Addr) (cl sup : List Nat) : Bool := (["NoneType", "bool", "int", "str", "list", "tuple", "dict"].all fun T => decide (PySem.W.kitOne K (.type T) (.ref C) = some false)) && cl.all fun c => ciB K c && decide (PySem.W.kitOne K (.ref (cA K c)) (.ref C) = some (sup.contains c))
theorem isiB_ok {K : PySem.W.Frag} {C : Addr} {cl sup : List Nat} (h : isiB K C cl sup = true) : IsiT K C cl sup := by
  unfold isiB at h
  simp only [Bool.and_eq_true] at h
  refine ⟨fun T hT => by simpa using List.all_eq_true.mp h.1 T hT, fun c hc => ?_⟩
  have := List.all_eq_true.mp h.2 c hc
  simp only [Bool.and_eq_true, decide_eq_true_eq] at this
  exact ⟨ciB_ok this.1, this.2⟩
section
variable {P : Program} {w : World} {K : PySem.W.Frag} {mg : Str → Option Value} {base : Heap} {cs : VM.CS} {k : Nat}
theorem methT_nil {m : Str} : MethT P w K mg base cs k [] m := fun _ _ h => by cases h
theorem methT_cons {t : VM.Tab} {c i : Nat} {m : Str} (h : methB K c m = true) (C : FC P w K mg base cs k i (mA K c m)) (r : MethT P w K mg base cs k t m) : MethT P w K mg base cs k ((c, i) :: t) m := fun c' i' e => by
  unfold VM.tget at e
  by_cases q : c = c'
  · rw [if_pos q] at e
    cases e
    subst q
    exact ⟨_, (methB_ok h).1, (methB_ok h).2, C⟩
  · rw [if_neg q] at e
    exact r c' i' e
theorem propT_nil {m : Str} : PropT P w K mg base cs k [] m := fun _ _ h => by cases h
theorem propT_cons {t : VM.Tab} {c i : Nat} {m : Str} (h : propB K c m = true) (C : FC P w K mg base cs k i (gA K c m)) (r : PropT P w K mg base cs k t m) : PropT P w K mg base cs k ((c, i) :: t) m := fun c' i' e => by
  unfold VM.tget at e
  by_cases q : c = c'
  · rw [if_pos q] at e
    cases e
    subst q
    exact ⟨_, _, (propB_ok h).1, (propB_ok h).2, C⟩
  · rw [if_neg q] at e
    exact r c' i' e
theorem dunT_nil {m : Str} : DunT P w K mg base cs k [] m := fun _ _ h => by cases h
theorem dunT_cons {t : VM.Tab} {c i : Nat} {m : Str} (h : ciB K c = true) (h2 : methB K c m = true) (C : FC P w K mg base cs k i (mA K c m)) (r : DunT P w K mg base cs k t m) : DunT P w K mg base cs k ((c, i) :: t) m := fun c' i' e => by
  unfold VM.tget at e
  by_cases q : c = c'
  · rw [if_pos q] at e
    cases e
    subst q
    exact ⟨_, ciB_ok h, (methB_ok h2).2.at_, (methB_ok h2).2.fn, C⟩
  · rw [if_neg q] at e
    exact r c' i' e
theorem binT_nil {op : Operator} : BinT P w K mg base cs k [] op := fun _ _ h => by cases h
theorem binT_cons {t : VM.Tab} {c i : Nat} {op : Operator} (h : binB K c op = true) (C : FC P w K mg base cs k i (mA K c (PySem.dunder op.info.2))) (r : BinT P w K mg base cs k t op) : BinT P w K mg base cs k ((c, i) :: t) op := fun c' i' e => by
  unfold VM.tget at e
  by_cases q : c = c'
  · rw [if_pos q] at e
    cases e
    subst q
    unfold binB at h
    simp only [Bool.and_eq_true, decide_eq_true_eq] at h
    obtain ⟨h1, h2, h3, h4, h5, h6⟩ := h
    have m2 := He.meth_ok h2
    obtain ⟨fo, e4⟩ := Option.isSome_iff_exists.mp h4
    obtain ⟨ro, e5⟩ := Option.isSome_iff_exists.mp h5
    cases e3 : PySem.W.findIn K (.ref (cA K c)) (dunderR op.info.2) with
    | none => rw [e3] at h3; cases h3
    | some rc =>
      refine ⟨_, rc, ciB_ok h1, m2.at_, m2.fn, rfl, ?_, ⟨fo, ro, e4, e5⟩, h6, C⟩
      rw [e3] at h3
      cases rc with
      | none => exact .inl rfl
      | some v => cases v <;> first | (cases h3; done) | exact .inr ⟨_, rfl⟩
  · rw [if_neg q] at e
    exact r c' i' e
theorem refT_nil {op : Operator} : RefT P w K mg base cs k [] op := fun _ _ h => by cases h
theorem refT_cons {t : VM.Tab} {c i : Nat} {op : Operator} (h : refB K c op = true) (C : FC P w K mg base cs k i (mA K c (dunderR op.info.2))) (r : RefT P w K mg base cs k t op) : RefT P w K mg base cs k ((c, i) :: t) op := fun c' i' e => by
  unfold VM.tget at e
  by_cases q : c = c'
  · rw [if_pos q] at e
    cases e
    subst q
    unfold refB at h
    simp only [Bool.and_eq_true, decide_eq_true_eq] at h
    obtain ⟨h1, h2, h3, h4⟩ := h
    exact ⟨_, _, ciB_ok h1, (He.meth_ok h2).at_, (He.meth_ok h3).at_, (He.meth_ok h3).fn, h4, C⟩
  · rw [if_neg q] at e
    exact r c' i' e
theorem eqT_nil : EqT P w K mg base cs k [] := fun _ _ h => by cases h
theorem eqT_cons {t : VM.Tab} {c i : Nat} (h : eqB K c = true) (C : FC P w K mg base cs k i (mA K c "__eq__")) (r : EqT P w K mg base cs k t) : EqT P w K mg base cs k ((c, i) :: t) := fun c' i' e => by
  unfold VM.tget at e
  by_cases q : c = c'
  · rw [if_pos q] at e
    cases e
    subst q
    unfold eqB eqV at h
    simp only [Bool.and_eq_true, decide_eq_true_eq] at h
    obtain ⟨h1, h2, h3, h4⟩ := h
    exact ⟨_, ciB_ok h1, (He.meth_ok h2).at_, (He.meth_ok h2).fn, h3, fun T hT => List.all_eq_true.mp h4 T hT, C⟩
  · rw [if_neg q] at e
    exact r c' i' e
end
end VS
end
section
namespace VM
def asStrs : List PV → Option (List (List Nat))
  | [] => some []
  | .str s :: xs => match asStrs xs with | some ss => some (s :: ss) | none => none
  | _ :: _ => none
def joinS (s : List Nat) : List (List Nat) → List Nat
  | [] => []
  | [x] => x
  | x :: y :: r => x ++ s ++ joinS s (y :: r)
def isStr : PV → Bool
  | .str _ => true
  | _ => false
/-- s.join(xs) -/
def eJoin (a b : TE) : TE := fun ρ st k x => a ρ st (fun u st => isStr u = true ∧ b ρ st (fun v st => match u, seqOf st v with
  | .str s, some xs => match asStrs xs with
    | some ss => (ss.map List.length).sum + ss.length * s.length ≤ SZ ∧ k (.str (joinS s ss)) st
    | none => False
  | _, _ => False) x) x
/-- how many different ones -/
def dcnt : List (List Nat) → Nat
  | [] => 0
  | x :: xs => if xs.contains x then dcnt xs else dcnt xs + 1
/-- len(set(xs)) of texts -/
def eLenSet (a : TE) : TE := fun ρ st k x => a ρ st (fun v st => match asL st v with
  | some xs => match asStrs xs with
    | some ss => ss.length < 4000 ∧ k (.int (dcnt ss.reverse)) st
    | none => False
  | none => False) x
end VM
end
section
namespace VS
open PySem PySem.Spec PyProof.Rows L2
open VM (PV SO Store)
def dn (ys : List Str) : Nat → Nat
  | 0 => 0
  | i + 1 => if (ys.take i).any (· == ys.getD i Str.empty) then dn ys i else dn ys i + 1
theorem dn_le (ys : List Str) : ∀ i, dn ys i ≤ i
  | 0 => Nat.le_refl _
  | i + 1 => by
    have h := dn_le ys i
    unfold dn
    split <;> omega
theorem any_next (ys : List Str) {i : Nat} (h : i < ys.length) (z : Str) : (ys.take (i + 1)).any (· == z) = ((ys.take i).any (· == z) || decide (z = ys.getD i Str.empty)) := by
  rw [List.take_succ_eq_append_getElem h, List.any_append]
  congr 1
  have e : ys.getD i Str.empty = ys[i] := by simp [List.getD, h]
  rw [e]
  by_cases q : z = ys[i]
  · subst q; simp
  · have q2 : (ys[i] == z) = false := by simpa [beq_iff_eq] using fun w : ys[i] = z => q w.symm
    simp [q, q2]
section
variable {prog : Program} {w : World} {A : Around} {R : Result → Shared → Prop} {it : Addr} {fp wr : List Addr} {G : Array GenState → Array GenState → Prop} {n : Nat} {P : Nat → Value → Prop} {St : Nat → Shared → Prop}
theorem fill_set (Wk : WalksS prog w A.in1 it fp wr G n P St) (d : Addr) (off : d ∉ fp) (ys : List Str) (sz : ys.length = n) (room : n < 4000)
    (is : ∀ j u, P j u → ∃ t, u = .str (ys.getD j Str.empty) t) : ∀ (m j : Nat) (q : Shared), n - j = m → j ≤ n → St j q → q.heap.SetOf (PySem.strKind prog w) d (fun z => (ys.take j).any (· == z)) (dn ys j) →
      (∀ q', Moved (d :: wr) G q q' → q'.heap.SetOf (PySem.strKind prog w) d (fun z => (ys.take n).any (· == z)) (dn ys n) → R (.ok (.ret .none)) q') →
      codeAny (model prog w) A (.builtin "set.update.loop" ⟨[.ref d, .ref it], []⟩) R q := by
  have dw : d ∉ wr := fun e => off (Wk.sub _ e)
  have up : ∀ b ∈ wr, b ∈ d :: wr := fun b e => List.mem_cons_of_mem _ e
  have keep : ∀ {q q' : Shared} {S : Str → Bool} {c : Nat}, Moved wr G q q' → q.heap.SetOf (PySem.strKind prog w) d S c → q'.heap.SetOf (PySem.strKind prog w) d S c := fun mv ⟨o, es, ep, tb, ho, r⟩ => ⟨o, es, ep, tb, mv.heap d _ dw ho, r⟩
  intro m
  induction m with
  | zero =>
    intro j q hm hj hst hd hR
    obtain rfl : j = n := by omega
    refine codeAny_builtin PyProof.Rows.F.entry_set_update_loop (by
      rw [Around.under_plainId PyProof.Rows.F.plain_set_update_loop _]
      exact wpAny_bind (Wk.done q _ _ hst fun q' mv => wpAny_pure (hR q' (mv.mono up) (keep mv hd))))
  | succ m ih =>
    intro j q hm hj hst hd hR
    have lt : j < n := by omega
    have room2 : dn ys j + 1 < scanBound := by
      have := dn_le ys j
      unfold scanBound
      omega
    refine codeAny_builtin PyProof.Rows.F.entry_set_update_loop ?_
    rw [Around.under_plainId PyProof.Rows.F.plain_set_update_loop _]
    refine wpAny_bind (Wk.item j q _ _ lt hst fun u q' hP hst' mv => ?_)
    obtain ⟨t, rfl⟩ := is j u hP
    have hk := keep mv hd
    refine wpAny_bind (wpAny_holding ?_)
    unfold setAdd
    refine wpAny_holding (wpAny_bind ((PySem.strKind prog w).pyHash (k := ys.getD j Str.empty) (strKind_is _ _ _ _) ?_))
    refine wpAny_setAddHashed_of (knd := PySem.strKind prog w) (s := { q' with toks := q'.toks + 1 }) (strKind_is _ _ _ _) rfl hk room2 fun h' sb hd2 => ?_
    have hd3 : h'.SetOf (PySem.strKind prog w) d (fun z => (ys.take (j + 1)).any (· == z)) (dn ys (j + 1)) := SetOf_congr hd2 (fun z => (any_next ys (by omega) z).symm) rfl
    refine wpAny_pure ⟨plainId_quiet PyProof.Rows.F.plain_set_update_loop _, ih (j + 1) _ (by omega) lt (Wk.frame _ q' _ _ hst' (Nat.le_succ _) fun b hb o e => ?_) hd3 fun q2 mv2 hd4 => ?_⟩
    · rw [sb.2 b fun e2 : b = d => off (e2 ▸ hb)]
      exact e
    · refine hR q2 (Moved.trans Wk.gtrans ((mv.mono up).then_heap (Nat.le_succ _) fun b o hb e => ?_) mv2) hd4
      rw [sb.2 b fun e2 : b = d => hb (e2 ▸ List.mem_cons_self)]
      exact e
end
section
variable {prog : Program} {w : World} {A : Around} {E : Value → Shared → Prop} {s : Shared}
/-- the new empty set -/
abbrev setN (led : Bool) : Obj := { cls := .type "set", dict := none, data := .set #[] 0 (.fresh 0 0 led) }
/-- what the filled set says of the heap -/
def Full (prog : Program) (w : World) (s : Shared) (ys : List Str) (v : Value) (s2 : Shared) : Prop := v = .none ∧ ∃ h2 tk, s2 = { s with heap := h2, toks := tk } ∧ h2.SetOf (PySem.strKind prog w) s.heap.objs.size (fun z => (ys.take ys.length).any (· == z)) (dn ys ys.length) ∧ ∀ b o, b < s.heap.objs.size → s.heap.get? b = some o → h2.get? b = some o
set_option maxHeartbeats 3200000 in
theorem set_texts {l : Addr} {its : Array Value} {ys : List Str} {Q : Value → Shared → Prop} (calm : A.handled = none) (li : s.heap.IsList l its) (are : PyProof.Rows.StrsAre its.toList ys) (room : ys.length < 4000)
    (fin : ∀ (h2 : Heap) (tk : Nat), h2.SetOf (PySem.strKind prog w) s.heap.objs.size (fun z => (ys.take ys.length).any (· == z)) (dn ys ys.length) → (∀ b o, b < s.heap.objs.size → s.heap.get? b = some o → h2.get? b = some o) → Q (.ref s.heap.objs.size) { s with heap := h2, toks := tk }) :
    wpAny (model prog w) A (call (.type "set") [.ref l]) Q E s := by
  have ⟨c0, tl0, mro0⟩ := PySem.F.called_set.mro
  have made0 := PySem.F.called_set.made; have sub0 := PySem.F.called_set.sub
  refine wpAny_call (codeAny_of_tree (by
    show wpAny _ _ (callAny (.type "set") _) _ _ _
    refine wpAny_pure ⟨Code.quiet_builtin _ (by decide +kernel), codeAny_builtin PySem.F.entry_type_call ?_⟩
    rw [Around.under_plain (weight_type_call_type "set" [.ref l] []) rfl]
    have nt0 := PySem.F.called_set.notType; have cc0 := PySem.F.called_set.canCreate; have tc0 := PySem.F.typeCall_set_1 (.ref l)
    repeat (any_goals (first | assumption | wp_step))
    refine codeAny_mono (code_set_new_1 (.ref l) (E := E) (Q₁ := fun v s2 => ∃ led : Bool, v = .ref s.heap.objs.size ∧ s2 = { s with heap := s.heap.push (setN led) }) fun led => ⟨led, rfl, rfl⟩) fun r s2 hr => ?_
    match r, hr with
    | .error e, hr => exact hr
    | .ok (.ret v), ⟨led, e1, e2⟩ =>
      subst e1 e2
      have at0 : (s.heap.push (setN led)).get? s.heap.objs.size = some (setN led) := Heap.get?_push_size _ rfl
      have ty0 : Shared.TypeIs { s with heap := s.heap.push (setN led) } (.ref s.heap.objs.size) "set" := ⟨_, at0, rfl⟩
      have lk0 := PySem.F.called_set.init.lookup; have bi0 := PySem.F.called_set.init.bind (.ref s.heap.objs.size)
      repeat (any_goals (first | assumption | wp_step))
      refine codeAny_mono (codeAny_call_builtin (R := wants (Full prog w s ys) E) PySem.F.called_set.init.plain PySem.F.entry_set_init (check_set_init_1 ty0 ?_)) fun r2 s3 hr2 => ?_
      · have ⟨ol, gl, cl, nl, dl⟩ := li
        obtain ⟨oc, od, oda, osl⟩ := ol
        simp only at cl dl
        subst cl dl
        have gl2 : (s.heap.push (setN led)).get? l = some { cls := .type "list", dict := od, data := .seq its nl, slots := osl } := Heap.get?_push_of_some _ gl
        have ss0 := PySem.F.sub_list_set; have sf0 := PySem.F.sub_list_frozenset
        have nd0 : (Value.type "list" == Value.type "dict") = false := by decide
        have li2 : (s.heap.push (setN led)).IsList l its := ⟨_, gl2, rfl, nl, rfl⟩
        unfold Builtin.«set.__init__» noKeywords Builtin.Frozenset.updateFrom
        generalize ePI : pyIter = PI
        wp_walk
        subst ePI
        refine wpAny_pyIter_list li2 (wpAny_bind (wpAny_runValue ?_))
        have lS : l < s.heap.objs.size := Heap.lt_size gl
        have nI : l ≠ (s.heap.push (setN led)).objs.size := by
          rw [Heap.size_push]
          exact Nat.ne_of_lt (Nat.lt_succ_of_lt lS)
        have offS : s.heap.objs.size ∉ [(s.heap.push (setN led)).objs.size, l] := by
          rw [Heap.size_push]
          simp only [List.mem_cons, List.not_mem_nil, or_false, not_or]
          exact ⟨Nat.ne_of_lt (Nat.lt_succ_self _), Nat.ne_of_gt lS⟩
        have szz : ys.length = its.size := by rw [← StrsAre.len_eq are, Array.length_toList]
        refine fill_set ((Walks.list (by simp [calm]) _ l nI its).toS) s.heap.objs.size offS ys szz (szz ▸ room) (fun j u hu => SS.strs_at are j u (by rw [Array.getElem?_toList]; exact hu)) (its.size - 0) 0 _ (by omega) (Nat.zero_le _)
          ⟨⟨_, Heap.get?_push_size _ rfl, rfl, rfl⟩, (li2.push _)⟩ ?e0 ?eR
        case e0 =>
          refine PyProof.Rows.SetOf_congr ((PyProof.Rows.setObjOf_fresh (knd := PySem.strKind prog w) led).setOf (Heap.get?_push_of_some _ at0) (by unfold scanBound; omega)) (fun _ => rfl) rfl
        case eR =>
          rintro ⟨h2, g2, d2, tk2, os2⟩ mv hd
          have eg : g2 = s.gens := mv.gens
          have ed : d2 = s.drawn := mv.drawn
          have eo : os2 = s.os := mv.os
          subst eg ed eo
          show wpAny _ _ _ _ _ _
          refine wpAny_pure ?_
          show wpAny _ _ (ret Value.none) _ _ _
          refine wpAny_pure ⟨rfl, h2, tk2, rfl, by rw [szz]; exact hd, fun b o lb e => mv.heap b o ?_ (Heap.get?_push_of_some _ (Heap.get?_push_of_some _ e))⟩
          rw [Heap.size_push]
          simp only [List.mem_cons, List.not_mem_nil, or_false, not_or]
          exact ⟨Nat.ne_of_lt lb, Nat.ne_of_lt (Nat.lt_succ_of_lt lb)⟩
      · match r2, hr2 with
        | .error e, hr2 => exact hr2
        | .ok (.ret v2), ⟨e3, h2, tk, e4, hd, hk⟩ =>
          subst e3 e4
          repeat (any_goals (first | assumption | wp_step))
          exact fin _ _ hd hk
    | .ok .next, hr => exact hr.elim))
end
end VS
end
section
namespace VS
open PySem PySem.Spec PyProof.Rows L2
open VM (PV SO Store)
section
variable {X : Cx} {a : Expr} {ta : VM.TE} {p p2 q pos : Pos}
theorem strs_of : ∀ {ys : List Str} {us : List Value}, Vals (ys.map V.str) us → StrsAre us ys
  | [], _, .nil => .nil
  | y :: ys, _, .cons r t => by
    obtain ⟨k, rfl⟩ := r
    exact .cons y k (strs_of t)
def toS (s : List Nat) : Str := ⟨s.toArray⟩
theorem toS_inj {s t : List Nat} : toS s = toS t ↔ s = t := by
  unfold toS
  constructor
  · intro h
    have := congrArg (fun z : Str => z.cps.toList) h
    simpa using this
  · rintro rfl
    rfl
theorem strs_rep {K : PySem.W.Frag} {F : Hp} {μ : List Addr} : ∀ {xs : List PV} {ss : List (List Nat)} {vs : List V}, VM.asStrs xs = some ss → RepL K F μ xs vs → vs = (ss.map toS).map V.str ∧ ∀ s ∈ ss, sOk s
  | [], ss, vs, h, r => by
    unfold VM.asStrs at h
    cases h
    obtain rfl := repL_nil.mp r
    exact ⟨rfl, fun _ m => nomatch m⟩
  | x :: xs, ss, vs, h, r => by
    unfold VM.asStrs at h
    split at h
    · rename_i e
      cases e
    · rename_i s xs' e
      cases e
      split at h
      · rename_i ss' e2
        cases h
        obtain ⟨v, vs', rfl, rv, rr⟩ := repL_cons.mp r
        obtain ⟨ok, rfl⟩ := rep_str.mp rv
        obtain ⟨e3, oks⟩ := strs_rep e2 rr
        refine ⟨by rw [e3]; rfl, fun t m => ?_⟩
        rcases List.mem_cons.mp m with rfl | m
        · exact ok
        · exact oks t m
      · cases h
    · cases h
theorem dn_cnt (ss : List (List Nat)) : ∀ i, i ≤ ss.length → dn (ss.map toS) i = VM.dcnt (ss.take i).reverse
  | 0, _ => rfl
  | i + 1, h => by
    have lt : i < ss.length := h
    rw [List.take_succ_eq_append_getElem lt, List.reverse_append]
    show (if ((ss.map toS).take i).any (· == (ss.map toS).getD i Str.empty) then dn (ss.map toS) i else dn (ss.map toS) i + 1) = VM.dcnt (ss[i] :: (ss.take i).reverse)
    unfold VM.dcnt
    have e0 : (ss.map toS).getD i Str.empty = toS ss[i] := by simp [List.getD, lt]
    have e : ((ss.map toS).take i).any (· == (ss.map toS).getD i Str.empty) = (ss.take i).reverse.contains ss[i] := by
      rw [e0, Bool.eq_iff_iff, List.any_eq_true, List.contains_iff_mem, List.mem_reverse]
      constructor
      · rintro ⟨z, m, ez⟩
        rw [← List.map_take] at m
        obtain ⟨s, ms, rfl⟩ := List.mem_map.mp m
        have := toS_inj.mp (beq_iff_eq.mp ez)
        exact this ▸ ms
      · intro m
        exact ⟨toS ss[i], by rw [← List.map_take]; exact List.mem_map.mpr ⟨_, m, rfl⟩, beq_iff_eq.mpr rfl⟩
    rw [e, dn_cnt ss i (Nat.le_of_lt lt)]
theorem ve_lenSet (calm : X.calm = true) (hg : Gl X "len") (hm : X.mg "len" = none) (hg2 : Gl X "set") (hm2 : X.mg "set" = none) (ha : VE X a ta)
    (na : starEach [a] X.env = (false, eval a X.env) :: starEach [] X.env := by rfl) : VE X (.Call (.Name "len" p) [.Call (.Name "set" p2) [a] [] q] [] pos) (VM.eLenSet ta) := by
  refine ⟨fun pins s σ H Q I h => ?_⟩
  obtain ⟨G, F, μ, ρ, st, k, l, r, d, hk⟩ := h
  unfold VM.eLenSet at d
  have d2 := bind1 (W := fun v H1 => ∃ b, ∃ ys : List Str, v = .ref b ∧ H1 b = some (.lst (ys.map V.str)) ∧ ys.length < 4000 ∧ Q (.int (dn ys ys.length)) H1) l r d fun v H1 F1 μ1 px st1 e1 l1 r1 p1 q1 => by
    split at q1
    · rename_i xs ex
      split at q1
      · rename_i ss es
        obtain ⟨b, vs, rfl, hb, rl⟩ := asL_rep l1 p1 ex
        obtain ⟨rfl, _⟩ := strs_rep es rl
        refine ⟨b, ss.map toS, rfl, hb, by rw [List.length_map]; exact q1.1, ?_⟩
        rw [List.length_map, dn_cnt ss _ (Nat.le_refl _), List.take_length]
        exact hk _ _ _ _ _ _ e1 l1 (rep_int.mpr rfl) q1.2
      · exact q1.elim
    · exact q1.elim
  refine Call_ (ld_blt I hg hm boot_len (PyProof.Rows.callWith_builtin1 (PyProof.Rows.args_cons ?_ rfl) rfl rfl))
  refine Call_ (ld_blt I hg2 hm2 PyProof.Rows.boot_set ?_)
  refine PyProof.Rows.callWith_type1 (PyProof.Rows.args_cons (thn (ha.run pins s σ H _ I d2) fun v s1 ⟨x, H1, I1, r1, b, ys, ex, hb, room, q1⟩ => PyProof.Rows.args_nil ?_) na) na rfl
  subst ex
  cases r1
  obtain ⟨its, rr, pl, hz⟩ := I1.list (.inl (.inl hb))
  refine set_texts (I1.ok.hd calm) pl.isList (by simpa using strs_of rr) room fun h2 tk hd keep => ?_
  refine PyProof.Rows.args_nil ?_
  obtain ⟨o, es, ep, t, ho, hex, hdd, _, _, _, hf, hn⟩ := hd
  have I2 : Inv X pins σ H1 { s1 with heap := h2, toks := tk } := I1.kept fun b o e => keep b o (Heap.lt_size e) e
  have hle := dn_le ys ys.length
  exact call_len_set ho hex hdd hf (by rw [hn]; omega) ⟨.int (dn ys ys.length), H1, I2.tok _, ⟨_, by rw [hn]⟩, q1⟩
theorem join_toS (s : List Nat) : ∀ ss : List (List Nat), Str.join (toS s) (ss.map toS) = toS (VM.joinS s ss)
  | [] => rfl
  | [x] => rfl
  | x :: y :: r => by
    show toS x ++ toS s ++ Str.join (toS s) ((y :: r).map toS) = toS (x ++ s ++ VM.joinS s (y :: r))
    rw [join_toS s (y :: r)]
    unfold toS
    show Str.append (Str.append _ _) _ = _
    simp [Str.append]
theorem join_bound (s : List Nat) : ∀ ss : List (List Nat), (VM.joinS s ss).length ≤ (ss.map List.length).sum + ss.length * s.length
  | [] => Nat.zero_le _
  | [x] => by simp [VM.joinS]
  | x :: y :: r => by
    have h := join_bound s (y :: r)
    have e : VM.joinS s (x :: y :: r) = x ++ s ++ VM.joinS s (y :: r) := rfl
    rw [e, List.length_append, List.length_append, List.map_cons, List.sum_cons, List.length_cons, Nat.add_mul, Nat.one_mul]
    omega
theorem join_mem (s : List Nat) {c : Nat} : ∀ ss : List (List Nat), c ∈ VM.joinS s ss → c ∈ s ∨ ∃ x ∈ ss, c ∈ x
  | [], h => nomatch h
  | [x], h => .inr ⟨x, by simp, h⟩
  | x :: y :: r, h => by
    have e : VM.joinS s (x :: y :: r) = x ++ s ++ VM.joinS s (y :: r) := rfl
    rw [e] at h
    rcases List.mem_append.mp h with h | h
    · rcases List.mem_append.mp h with h | h
      · exact .inr ⟨x, by simp, h⟩
      · exact .inl h
    · rcases join_mem s (y :: r) h with h | ⟨z, m, h⟩
      · exact .inl h
      · exact .inr ⟨z, List.mem_cons_of_mem _ m, h⟩
theorem sum_map (ss : List (List Nat)) : ((ss.map toS).map (·.length)).sum = (ss.map List.length).sum := by
  rw [List.map_map]
  congr 1
variable {o e : Expr} {tb : VM.TE} {apos : Pos}
theorem seq_rep {K : PySem.W.Frag} {G F : Hp} {μ : List Addr} {H : Hp} {st : Store} {px : PV} {x : V} {xs : List PV} (l : Lay K G F μ st H) (r : Rep K F μ px x) (h : VM.seqOf st px = some xs) : ∃ a vs, x = .ref a ∧ (SqL K H a vs ∨ SqT K H a vs) ∧ RepL K F μ xs vs := by
  unfold VM.seqOf at h
  split at h
  · cases h
    obtain ⟨a, vs, rfl, h1, h2⟩ := rep_tup.mp r
    exact ⟨a, vs, rfl, .inr (SameD.seqT l.same h1), h2⟩
  · obtain ⟨a, vs, rfl, h1, h2⟩ := asL_rep l r h
    exact ⟨a, vs, rfl, .inl (.inl (.inl h1)), h2⟩
theorem ve_join (ho : VE X o ta) (he : VE X e tb) (hs : starEach [e] X.env = [(false, eval e X.env)] := by rfl) (hbase : attributeBase o "join" X.env (eval o X.env) = eval o X.env := by rfl) (hline : (apos.endLine == pos.line) = true := by rfl) :
    VE X (.Call (.Attribute o "join" apos) [e] [] pos) (VM.eJoin ta tb) := pe_imp (pe_join ho he hs hbase hline) fun σ H Q h => by
  obtain ⟨G, F, μ, ρ, st, k, l, r, d, hk⟩ := h
  unfold VM.eJoin at d
  refine bind1 l r d fun v H1 F1 μ1 px st1 e1 l1 r1 p1 q1 => ?_
  obtain ⟨iS, q1⟩ := q1
  cases px with
  | str s =>
    obtain ⟨ok, rfl⟩ := rep_str.mp p1
    refine ⟨⟨_, rfl⟩, bind1 l1 r1 q1 fun u H2 F2 μ2 py st2 e2 l2 r2 p2 q2 => ?_⟩
    split at q2
    · rename_i s' xs es ex
      cases es
      split at q2
      · rename_i ss e3
        obtain ⟨b, vs, rfl, hb, rl⟩ := seq_rep l2 p2 ex
        obtain ⟨rfl, oks⟩ := strs_rep e3 rl
        refine ⟨toS s, b, ss.map toS, rfl, rfl, hb, ?_, ?_⟩
        · rw [sum_map, List.length_map]
          exact q2.1
        · have ej : Txt.join (toS s) (ss.map toS) = toS (VM.joinS s ss) := by
            rw [← join_toS]
            exact StrLaws.glued_eq_join _ _
          rw [ej]
          refine hk _ _ _ _ _ _ (e1.trans e2) l2 (rep_str.mpr ⟨⟨Nat.le_trans (join_bound s ss) q2.1, fun c hc => ?_⟩, rfl⟩) q2.2
          rcases join_mem s ss hc with hc | ⟨x, m, hc⟩
          · exact ok.2 c hc
          · exact (oks x m).2 c hc
      · exact q2.elim
    · exact q2.elim
  | _ => cases iS
end
end VS
end
section
namespace VS
open PySem PySem.Spec PyProof.Rows L2
open VM (PV SO Store)
def keyS (e : Int × Value) : Str := match e.2 with | .str k _ => k | _ => Str.empty
def GoodS (P : Program) (w : World) (e : Int × Value) : Prop := ∃ k tk, e.2 = Value.str k tk ∧ e.1 = (PySem.strKind P w).hash k
def SetS (P : Program) (w : World) (h : Heap) (a : Addr) (S : Str → Bool) (n : Nat) : Prop :=
  ∃ o es ep t, h.get? a = some o ∧ o.ExactSet ∧ o.data = .set es ep t ∧ (∀ e ∈ es.toList, GoodS P w e) ∧ (es.toList.map keyS).Nodup ∧ (∀ k, S k = true ↔ k ∈ es.toList.map keyS) ∧
    es.size < scanBound ∧ t.fits es.size = true ∧ es.size = n ∧ Ris t.place.toList ∧ (w.params.followText "set-order" = true ∨ t.led = true)
section
variable {P : Program} {w : World} {h h' : Heap} {a : Addr} {S : Str → Bool} {n : Nat}
theorem SetS.at (R : SetS P w h a S n) (k : ∀ o, h.get? a = some o → h'.get? a = some o) : SetS P w h' a S n := by
  obtain ⟨o, es, ep, t, ho, r⟩ := R
  exact ⟨o, es, ep, t, k o ho, r⟩
theorem SetS.congr {S' : Str → Bool} {n' : Nat} (R : SetS P w h a S n) (e : ∀ k, S' k = S k) (en : n' = n) : SetS P w h a S' n' := by
  have q : S' = S := funext e
  rw [q, en]; exact R
theorem goodS_elems {l : List (Int × Value)} (g : ∀ e ∈ l, GoodS P w e) : ElemsOf (PySem.strKind P w) l := fun e he => by
  obtain ⟨k, tk, h1, h2⟩ := g e he
  exact ⟨⟨k, by rw [h1]; exact strKind_is P w k tk, h2⟩, by rw [h1] <;> rfl⟩
theorem goodS_is {e : Int × Value} (g : GoodS P w e) (k : Str) : (PySem.strKind P w).is k e.2 = true ↔ keyS e = k := by
  obtain ⟨k0, tk, h1, _⟩ := g
  unfold keyS
  rw [h1]
  show ((k0 == k) = true) ↔ k0 = k
  exact beq_iff_eq
theorem goodS_mem {l : List (Int × Value)} (g : ∀ e ∈ l, GoodS P w e) (k : Str) : k ∈ l.map keyS ↔ ∃ e ∈ l, (PySem.strKind P w).is k e.2 = true := by
  rw [List.mem_map]
  constructor
  · rintro ⟨e, he, q⟩
    exact ⟨e, he, (goodS_is (g e he) k).2 q⟩
  · rintro ⟨e, he, q⟩
    exact ⟨e, he, (goodS_is (g e he) k).1 q⟩
end
section
variable {P : Program} {w : World} {A : Around} {E : Value → Shared → Prop} {s : Shared} {a : Addr} {S : Str → Bool} {n : Nat}
theorem setS_add_tail {g : Bool → Sem Unit} (hg : ∀ (b : Bool) (s₁ : Shared) (Q' : Unit → Shared → Prop), Q' () s₁ → wpAny (model P w) A (g b) Q' E s₁)
    {o : Obj} {es : Array (Int × Value)} {ep : Nat} {t : SetTable} (ho : s.heap.get? a = some o) (hex : o.ExactSet) (hd : o.data = .set es ep t)
    {es1 : Array (Int × Value)} {t2 : SetTable} {S' : Str → Bool} (g1 : ∀ e ∈ es1.toList, GoodS P w e) (nd1 : (es1.toList.map keyS).Nodup) (m1 : ∀ k, S' k = true ↔ k ∈ es1.toList.map keyS)
    (hb1 : es1.size < scanBound) (hf2 : t2.fits es1.size = true) (hr : Ris t2.place.toList) (hl : w.params.followText "set-order" = true ∨ t2.led = true) {wasDummy : Bool} {R : Option Bool → Shared → Prop}
    (hR : ∀ h', Heap.SameBut a s.heap h' → SetS P w h' a S' es1.size → R (some true) { s with heap := h' }) :
    wpAny (model P w) A (do
        storeSet a es1 t2
        if (!wasDummy && t2.tooFull) = true then do
            g (relayAll t2 es1 (SetTable.grown es1.size)).2.2
            storeSet a (relayAll t2 es1 (SetTable.grown es1.size)).1 (relayAll t2 es1 (SetTable.grown es1.size)).2.1
            pure (some true)
          else pure (some true)) R E s := by
  refine wpAny_bind (wpAny_storeSet_of ho hd ?_ (fits_of_scanBound hb1))
  have ho1 := store_at (es' := es1) (t' := t2) ho hd
  have sb1 := Heap.SameBut.update s.heap a (Obj.putSet es1 t2)
  split
  · have pm := relayAll_perm t2 es1 (SetTable.grown es1.size)
    have hf3 := relayAll_fits t2 es1 (SetTable.grown es1.size)
    have hr3 := relayAll_ris t2 es1 (SetTable.grown es1.size)
    have hl3 := relayAll_led t2 es1 (SetTable.grown es1.size)
    generalize relayAll t2 es1 (SetTable.grown es1.size) = Z at pm hf3 hr3 hl3 ⊢
    obtain ⟨es2, t3, gave⟩ := Z
    dsimp only at pm hf3 hr3 hl3 ⊢
    have hsz : es2.size = es1.size := by rw [← Array.length_toList, pm.length_eq, Array.length_toList]
    have hb2 : es2.size < scanBound := by rw [hsz]; exact hb1
    refine wpAny_bind (hg _ _ _ ?_)
    refine wpAny_bind (wpAny_storeSet_of ho1 rfl ?_ (fits_of_scanBound hb2))
    have ho2 := store_at (es' := es2) (t' := t3) ho1 rfl
    refine wpAny_pure (hR _ (sb1.trans (Heap.SameBut.update _ a _)) ?_)
    exact ⟨_, es2, _, t3, ho2, hex, rfl, fun e he => g1 e (pm.mem_iff.mp he), (pm.map keyS).nodup_iff.mpr nd1, fun k => (m1 k).trans (pm.map keyS).mem_iff.symm, hb2, hf3, hsz, hr3,
      hl.imp id fun z => by rw [hl3]; exact z⟩
  · exact wpAny_pure (hR _ sb1 ⟨_, es1, _, t2, ho1, hex, rfl, g1, nd1, m1, hb1, hf2, rfl, hr, hl⟩)
theorem setS_add_hashed {k : Str} {tk : Tok} {Q : Bool → Shared → Prop} (R : SetS P w s.heap a S n) (room : n + 1 < scanBound)
    (hQ : ∀ h', Heap.SameBut a s.heap h' → SetS P w h' a (fun j => S j || decide (j = k)) (if S k = true then n else n + 1) → Q (!S k) { s with heap := h' }) :
    wpAny (model P w) A (setAddHashed a (.str k tk) ((PySem.strKind P w).hash k)) Q E s := by
  obtain ⟨o, es, ep, t, ho, hex, hd, g, nd, hm, hb, hf, hn, hr, hl⟩ := R
  have hkey : (PySem.strKind P w).is k (.str k tk) = true := strKind_is P w k tk
  have hsc : (Value.str k tk).scannable = true := rfl
  have hel : ElemsOf (PySem.strKind P w) es.toList := goodS_elems g
  unfold setAddHashed setAddHashedIn
  refine wpAny_holding (wpAny_bind (wpAny_setState_of ho hd hf ?_))
  dsimp only
  rw [byScan_of hsc hb hel]
  simp only [↓reduceIte]
  unfold setAddByScan
  refine wpAny_bind ?_
  refine wpAny_bind (wpAny_rule ?_)
  refine wpAny_bind (wpAny_setScan_of hkey ho hd hf hel ?_)
  cases hfi : List.findIdx? (fun e => (PySem.strKind P w).is k e.2) es.toList with
  | some j =>
    dsimp only
    obtain ⟨hj, pj, _⟩ := List.findIdx?_eq_some_iff_getElem.mp hfi
    have hSk : S k = true := (hm k).2 ((goodS_mem (P := P) (w := w) g k).2 ⟨es.toList[j], List.getElem_mem hj, pj⟩)
    refine wpAny_pure (wpAny_pure ?_)
    have q := hQ s.heap (Heap.SameBut.refl a s.heap) ⟨o, es, ep, t, ho, hex, hd, g, nd, fun i => by
      rw [Bool.or_eq_true, decide_eq_true_eq, ← hm i]
      exact ⟨fun z => z.elim id (fun e => e ▸ hSk), .inl⟩, hb, hf, by rw [if_pos hSk]; exact hn, hr, hl⟩
    rw [hSk] at q
    exact q
  | none =>
    dsimp only
    have hnk : k ∉ es.toList.map keyS := fun z => by
      obtain ⟨e, he, q⟩ := (goodS_mem (P := P) (w := w) g k).1 z
      have c := List.findIdx?_eq_none_iff.mp hfi e he
      rw [q] at c
      cases c
    have hSk : S k = false := by
      cases q : S k with
      | false => rfl
      | true => exact absurd ((hm k).1 q) hnk
    have hgw : ∀ (b : Bool) {s₁ : Shared} {Q' : Unit → Shared → Prop}, Q' () s₁ → wpAny (model P w) A (match b with | true => rule "set.scan.the-table-gave-way" | false => pure ()) Q' E s₁ :=
      fun b s₁ Q' q => by cases b <;> first | exact wpAny_pure q | exact wpAny_rule q
    have pm := layNew_perm t es ((PySem.strKind P w).hash k) (.str k tk)
    have hf1 := layNew_fits t es ((PySem.strKind P w).hash k) (.str k tk)
    have hr1 := layNew_ris t es ((PySem.strKind P w).hash k) (.str k tk) hr
    have hl1 := layNew_led t es ((PySem.strKind P w).hash k) (.str k tk)
    generalize layNew t es ((PySem.strKind P w).hash k) (.str k tk) = Z at pm hf1 hr1 hl1 ⊢
    obtain ⟨es1, t1, wasDummy, gave⟩ := Z
    dsimp only at pm hf1 hr1 hl1 ⊢
    rw [Array.toList_push] at pm
    have pc : es1.toList.Perm (((PySem.strKind P w).hash k, Value.str k tk) :: es.toList) := pm.trans (List.perm_append_singleton _ _)
    have pk : (es1.toList.map keyS).Perm (k :: es.toList.map keyS) := pc.map keyS
    have g1 : ∀ e ∈ es1.toList, GoodS P w e := fun e he => by
      rcases List.mem_cons.mp (pc.mem_iff.mp he) with z | z
      · rw [z]; exact ⟨k, tk, rfl, rfl⟩
      · exact g e z
    have nd1 : (es1.toList.map keyS).Nodup := pk.nodup_iff.mpr (List.nodup_cons.mpr ⟨hnk, nd⟩)
    have m1 : ∀ i, (S i || decide (i = k)) = true ↔ i ∈ es1.toList.map keyS := fun i => by
      rw [Bool.or_eq_true, decide_eq_true_eq, hm i, pk.mem_iff, List.mem_cons]
      exact Or.comm
    have hsz : es1.size = n + 1 := by rw [← Array.length_toList, pc.length_eq, List.length_cons, Array.length_toList, hn]
    have hb1 : es1.size < scanBound := by rw [hsz]; exact room
    have hled : w.params.followText "set-order" = true ∨ t1.led = true := hl.imp id fun z => by rw [hl1]; exact z
    have fin : ∀ h', Heap.SameBut a s.heap h' → SetS P w h' a (fun j => S j || decide (j = k)) es1.size → Q true { s with heap := h' } := fun h' sb r => by
      have q := hQ h' sb
      rw [hSk] at q
      rw [hsz] at r
      exact q r
    refine wpAny_bind (hgw _ ?_)
    split
    · refine wpAny_bind ?_
      rw [hashByValue_scannable 8 hsc]
      refine wpAny_pure ?_
      refine setS_add_tail ?_ ho hex hd g1 nd1 m1 hb1 ?_ ?_ ?_ ?_
      · intro b s₁ Q' q; cases b <;> first | exact wpAny_pure q | exact wpAny_rule q
      · first | (split <;> first | exact hf1 | exact SetTable.fits_plain_off hf1) | exact hf1
      · first | (split <;> exact hr1) | exact hr1
      · first | (split <;> exact hled) | exact hled
      · intro h' sb r; dsimp only; exact wpAny_pure (fin h' sb r)
    · refine wpAny_bind (wpAny_pure ?_)
      simp only [↓reduceIte]
      refine setS_add_tail ?_ ho hex hd g1 nd1 m1 hb1 hf1 hr1 hled ?_
      · intro b s₁ Q' q; cases b <;> first | exact wpAny_pure q | exact wpAny_rule q
      · intro h' sb r; dsimp only; exact wpAny_pure (fin h' sb r)
end
section
variable {prog : Program} {w : World} {A : Around} {R : Result → Shared → Prop} {it : Addr} {fp wr : List Addr} {G : Array GenState → Array GenState → Prop} {n : Nat} {P : Nat → Value → Prop} {St : Nat → Shared → Prop}
theorem fill_setS (Wk : WalksS prog w A.in1 it fp wr G n P St) (d : Addr) (off : d ∉ fp) (ys : List Str) (sz : ys.length = n) (room : n < 4000)
    (is : ∀ j u, P j u → ∃ t, u = .str (ys.getD j Str.empty) t) : ∀ (m j : Nat) (q : Shared), n - j = m → j ≤ n → St j q → SetS prog w q.heap d (fun z => (ys.take j).any (· == z)) (dn ys j) →
      (∀ q', Moved (d :: wr) G q q' → SetS prog w q'.heap d (fun z => (ys.take n).any (· == z)) (dn ys n) → R (.ok (.ret .none)) q') →
      codeAny (model prog w) A (.builtin "set.update.loop" ⟨[.ref d, .ref it], []⟩) R q := by
  have dw : d ∉ wr := fun e => off (Wk.sub _ e)
  have up : ∀ b ∈ wr, b ∈ d :: wr := fun b e => List.mem_cons_of_mem _ e
  have keep : ∀ {q q' : Shared} {S : Str → Bool} {c : Nat}, Moved wr G q q' → SetS prog w q.heap d S c → SetS prog w q'.heap d S c := fun mv ⟨o, es, ep, tb, ho, r⟩ => ⟨o, es, ep, tb, mv.heap d _ dw ho, r⟩
  intro m
  induction m with
  | zero =>
    intro j q hm hj hst hd hR
    obtain rfl : j = n := by omega
    refine codeAny_builtin PyProof.Rows.F.entry_set_update_loop (by
      rw [Around.under_plainId PyProof.Rows.F.plain_set_update_loop _]
      exact wpAny_bind (Wk.done q _ _ hst fun q' mv => wpAny_pure (hR q' (mv.mono up) (keep mv hd))))
  | succ m ih =>
    intro j q hm hj hst hd hR
    have lt : j < n := by omega
    have room2 : dn ys j + 1 < scanBound := by
      have := dn_le ys j
      unfold scanBound
      omega
    refine codeAny_builtin PyProof.Rows.F.entry_set_update_loop ?_
    rw [Around.under_plainId PyProof.Rows.F.plain_set_update_loop _]
    refine wpAny_bind (Wk.item j q _ _ lt hst fun u q' hP hst' mv => ?_)
    obtain ⟨t, rfl⟩ := is j u hP
    have hk := keep mv hd
    refine wpAny_bind (wpAny_holding ?_)
    unfold setAdd
    refine wpAny_holding (wpAny_bind ((PySem.strKind prog w).pyHash (k := ys.getD j Str.empty) (strKind_is _ _ _ _) ?_))
    refine setS_add_hashed (s := { q' with toks := q'.toks + 1 }) hk room2 fun h' sb hd2 => ?_
    have hd3 : SetS prog w h' d (fun z => (ys.take (j + 1)).any (· == z)) (dn ys (j + 1)) := hd2.congr (fun z => any_next ys (by omega) z) rfl
    refine wpAny_pure ⟨plainId_quiet PyProof.Rows.F.plain_set_update_loop _, ih (j + 1) _ (by omega) lt (Wk.frame _ q' _ _ hst' (Nat.le_succ _) fun b hb o e => ?_) hd3 fun q2 mv2 hd4 => ?_⟩
    · rw [sb.2 b fun e2 : b = d => off (e2 ▸ hb)]
      exact e
    · refine hR q2 (Moved.trans Wk.gtrans ((mv.mono up).then_heap (Nat.le_succ _) fun b o hb e => ?_) mv2) hd4
      rw [sb.2 b fun e2 : b = d => hb (e2 ▸ List.mem_cons_self)]
      exact e
end
section
variable {prog : Program} {w : World} {A : Around} {E : Value → Shared → Prop} {s : Shared}
abbrev setL (w : World) : Obj := { cls := .type "set", dict := none, data := .set #[] 0 (.fresh 0 0 (!w.params.followText "set-order")) }
theorem setS_fresh {h : Heap} : SetS prog w (h.push (setL w)) h.objs.size (fun _ => false) 0 :=
  ⟨_, #[], 0, _, Heap.get?_push_size _ rfl, ⟨rfl, rfl, rfl⟩, rfl, (fun e he => by simp at he), (by simp), (fun k => by simp), (by decide), (by rfl), rfl, List.Pairwise.nil, by
    show _ ∨ (!w.params.followText "set-order") = true
    cases w.params.followText "set-order"
    · exact .inr rfl
    · exact .inl rfl⟩
/-- what the filled set says of the heap -/
def FullS (prog : Program) (w : World) (s : Shared) (ys : List Str) (v : Value) (s2 : Shared) : Prop := v = .none ∧ ∃ h2 tk, s2 = { s with heap := h2, toks := tk } ∧ SetS prog w h2 s.heap.objs.size (fun z => (ys.take ys.length).any (· == z)) (dn ys ys.length) ∧ ∀ b o, b < s.heap.objs.size → s.heap.get? b = some o → h2.get? b = some o
set_option maxHeartbeats 3200000 in
theorem set_textsS {l : Addr} {its : Array Value} {ys : List Str} {Q : Value → Shared → Prop} (calm : A.handled = none) (li : s.heap.IsList l its) (are : PyProof.Rows.StrsAre its.toList ys) (room : ys.length < 4000)
    (fin : ∀ (h2 : Heap) (tk : Nat), SetS prog w h2 s.heap.objs.size (fun z => (ys.take ys.length).any (· == z)) (dn ys ys.length) → (∀ b o, b < s.heap.objs.size → s.heap.get? b = some o → h2.get? b = some o) → Q (.ref s.heap.objs.size) { s with heap := h2, toks := tk }) :
    wpAny (model prog w) A (call (.type "set") [.ref l]) Q E s := by
  have ⟨c0, tl0, mro0⟩ := PySem.F.called_set.mro
  have made0 := PySem.F.called_set.made; have sub0 := PySem.F.called_set.sub
  refine wpAny_call (codeAny_of_tree (by
    show wpAny _ _ (callAny (.type "set") _) _ _ _
    refine wpAny_pure ⟨Code.quiet_builtin _ (by decide +kernel), codeAny_builtin PySem.F.entry_type_call ?_⟩
    rw [Around.under_plain (weight_type_call_type "set" [.ref l] []) rfl]
    have nt0 := PySem.F.called_set.notType; have cc0 := PySem.F.called_set.canCreate; have tc0 := PySem.F.typeCall_set_1 (.ref l)
    repeat (any_goals (first | assumption | wp_step))
    refine codeAny_mono (code_set_led1 (.ref l) (E := E) (Q₁ := fun v s2 => v = .ref s.heap.objs.size ∧ s2 = { s with heap := s.heap.push (setL w) }) ⟨rfl, rfl⟩) fun r s2 hr => ?_
    match r, hr with
    | .error e, hr => exact hr
    | .ok (.ret v), ⟨e1, e2⟩ =>
      subst e1 e2
      have at0 : (s.heap.push (setL w)).get? s.heap.objs.size = some (setL w) := Heap.get?_push_size _ rfl
      have ty0 : Shared.TypeIs { s with heap := s.heap.push (setL w) } (.ref s.heap.objs.size) "set" := ⟨_, at0, rfl⟩
      have lk0 := PySem.F.called_set.init.lookup; have bi0 := PySem.F.called_set.init.bind (.ref s.heap.objs.size)
      repeat (any_goals (first | assumption | wp_step))
      refine codeAny_mono (codeAny_call_builtin (R := wants (FullS prog w s ys) E) PySem.F.called_set.init.plain PySem.F.entry_set_init (check_set_init_1 ty0 ?_)) fun r2 s3 hr2 => ?_
      · have ⟨ol, gl, cl, nl, dl⟩ := li
        obtain ⟨oc, od, oda, osl⟩ := ol
        simp only at cl dl
        subst cl dl
        have gl2 : (s.heap.push (setL w)).get? l = some { cls := .type "list", dict := od, data := .seq its nl, slots := osl } := Heap.get?_push_of_some _ gl
        have ss0 := PySem.F.sub_list_set; have sf0 := PySem.F.sub_list_frozenset
        have nd0 : (Value.type "list" == Value.type "dict") = false := by decide
        have li2 : (s.heap.push (setL w)).IsList l its := ⟨_, gl2, rfl, nl, rfl⟩
        unfold Builtin.«set.__init__» noKeywords Builtin.Frozenset.updateFrom
        generalize ePI : pyIter = PI
        wp_walk
        subst ePI
        refine wpAny_pyIter_list li2 (wpAny_bind (wpAny_runValue ?_))
        have lS : l < s.heap.objs.size := Heap.lt_size gl
        have nI : l ≠ (s.heap.push (setL w)).objs.size := by
          rw [Heap.size_push]
          exact Nat.ne_of_lt (Nat.lt_succ_of_lt lS)
        have offS : s.heap.objs.size ∉ [(s.heap.push (setL w)).objs.size, l] := by
          rw [Heap.size_push]
          simp only [List.mem_cons, List.not_mem_nil, or_false, not_or]
          exact ⟨Nat.ne_of_lt (Nat.lt_succ_self _), Nat.ne_of_gt lS⟩
        have szz : ys.length = its.size := by rw [← StrsAre.len_eq are, Array.length_toList]
        refine fill_setS ((Walks.list (by simp [calm]) _ l nI its).toS) s.heap.objs.size offS ys szz (szz ▸ room) (fun j u hu => SS.strs_at are j u (by rw [Array.getElem?_toList]; exact hu)) (its.size - 0) 0 _ (by omega) (Nat.zero_le _)
          ⟨⟨_, Heap.get?_push_size _ rfl, rfl, rfl⟩, (li2.push _)⟩ ?e0 ?eR
        case e0 =>
          exact ((setS_fresh (prog := prog) (w := w) (h := s.heap)).at (h' := (s.heap.push (setL w)).push _) fun o e => Heap.get?_push_of_some _ e).congr (fun _ => rfl) rfl
        case eR =>
          rintro ⟨h2, g2, d2, tk2, os2⟩ mv hd
          have eg : g2 = s.gens := mv.gens
          have ed : d2 = s.drawn := mv.drawn
          have eo : os2 = s.os := mv.os
          subst eg ed eo
          show wpAny _ _ _ _ _ _
          refine wpAny_pure ?_
          show wpAny _ _ (ret Value.none) _ _ _
          refine wpAny_pure ⟨rfl, h2, tk2, rfl, by rw [szz]; exact hd, fun b o lb e => mv.heap b o ?_ (Heap.get?_push_of_some _ (Heap.get?_push_of_some _ e))⟩
          rw [Heap.size_push]
          simp only [List.mem_cons, List.not_mem_nil, or_false, not_or]
          exact ⟨Nat.ne_of_lt lb, Nat.ne_of_lt (Nat.lt_succ_of_lt lb)⟩
      · match r2, hr2 with
        | .error e, hr2 => exact hr2
        | .ok (.ret v2), ⟨e3, h2, tk, e4, hd, hk⟩ =>
          subst e3 e4
          repeat (any_goals (first | assumption | wp_step))
          exact fin _ _ hd hk
    | .ok .next, hr => exact hr.elim))
theorem strs_of_good : ∀ (l : List Value), (∀ v ∈ l, ∃ k tk, v = Value.str k tk) → StrsAre l (l.map fun v => keyS (0, v))
  | [], _ => .nil
  | v :: l, h => by
    obtain ⟨k, tk, rfl⟩ := h v List.mem_cons_self
    exact .cons k tk (strs_of_good l fun u hu => h u (List.mem_cons_of_mem _ hu))
end
end VS
end
section
namespace VM
/-- s stands at the head of l -/
def pre (S l : List Nat) : Bool := l.take S.length == S
def spl (S : List Nat) : Nat → List Nat → List Nat → List (List Nat)
  | _, acc, [] => [acc]
  | 0, acc, c :: r => if pre S (c :: r) = true then acc :: spl S (S.length - 1) [] r else spl S 0 (acc ++ [c]) r
  | k + 1, acc, _ :: r => spl S k acc r
def par (S : List Nat) : List Nat → List Nat → Option (List Nat × List Nat)
  | _, [] => none
  | acc, c :: r => if pre S (c :: r) = true then some (acc, (c :: r).drop S.length) else par S (acc ++ [c]) r
def plain (s : List Nat) : Bool := !s.isEmpty && s.all fun c => Nat.blt c 256
def eSplit (a b : TE) : TE := fun ρ st k x => a ρ st (fun u st => isStr u = true ∧ b ρ st (fun v st => match u, v with
  | .str s, .str t => plain t = true ∧ s.length + 2 ≤ SZ ∧ k (.lst ((spl t 0 [] s).map .str)) st
  | _, _ => False) x) x
def parT (t s : List Nat) : List PV := match par t [] s with
  | some (a, b) => [.str a, .str t, .str b]
  | none => [.str s, .str [], .str []]
def ePartition (a b : TE) : TE := fun ρ st k x => a ρ st (fun u st => isStr u = true ∧ b ρ st (fun v st => match u, v with
  | .str s, .str t => t ≠ [] ∧ k (.tup (parT t s)) st
  | _, _ => False) x) x
def eStarts (a b : TE) : TE := fun ρ st k x => a ρ st (fun u st => isStr u = true ∧ b ρ st (fun v st => match u, v with
  | .str s, .str t => k (.bl (pre t s)) st
  | _, _ => False) x) x
/-- the text of a whole number -/
def digs (i : Int) : List Nat := (toString i).toList.map Char.toNat
/-- {e}, a part of an f-text -/
def eFmt (a : TE) : TE := fun ρ st k x => a ρ st (fun u st => match u with
  | .str s => k (.str s) st
  | .int i => i.natAbs.log2 < 1920 ∧ (digs i).length ≤ SZ ∧ k (.str (digs i)) st
  | _ => False) x
/-- the parts one behind the other -/
def fJs : List TE → List Nat → Env → Store → KV → KV → Prop
  | [], acc, _, st, k, _ => k (.str acc) st
  | t :: ts, acc, ρ, st, k, x => t ρ st (fun u st => match u with
    | .str s => (acc ++ s).length ≤ SZ ∧ fJs ts (acc ++ s) ρ st k x
    | _ => False) x
def eJs (ts : List TE) : TE := fun ρ st k x => fJs ts [] ρ st k x
/-- int(text), of the text of a whole number -/
def fIntT (u : PV) (st : Store) (k : KV) : Prop := match u with
  | .str s => ∃ i : Int, s = digs i ∧ s.length ≤ 600 ∧ k (.int i) st
  | _ => False
/-- every second one -/
def evens {α : Type} : List α → List α
  | [] => []
  | [a] => [a]
  | a :: _ :: r => a :: evens r
/-- xs[::2], a list of one or three -/
def eSl2 (a : TE) : TE := fun ρ st k x => a ρ st (fun u st => match asL st u with
  | some xs => (xs.length = 1 ∨ xs.length = 3) ∧ k (.lst (evens xs)) st
  | none => False) x
end VM
end
section
namespace VM
/-- x comes ahead of y, sign by sign -/
def ltS : List Nat → List Nat → Bool
  | [], y :: ys => true
  | _, [] => false
  | x :: xs, y :: ys => if x < y then true else if x = y then ltS xs ys else false
def insS (x : List Nat) : List (List Nat) → List (List Nat)
  | [] => [x]
  | y :: ys => if ltS y x then y :: insS x ys else x :: y :: ys
def sortS : List (List Nat) → List (List Nat)
  | [] => []
  | x :: xs => insS x (sortS xs)
def dedup : List (List Nat) → List (List Nat)
  | [] => []
  | x :: xs => if xs.contains x then dedup xs else x :: dedup xs
/-- sorted(xs) of texts -/
def eSorted (a : TE) : TE := fun ρ st k x => a ρ st (fun v st => match asL st v with
  | some xs => match asStrs xs with
    | some ss => ss.length < 64 ∧ k (.lst ((sortS ss).map .str)) st
    | none => False
  | none => False) x
/-- sorted(set(xs)) of texts -/
def eSortSet (a : TE) : TE := fun ρ st k x => a ρ st (fun v st => match asL st v with
  | some xs => match asStrs xs with
    | some ss => ss.length < 4000 ∧ (dedup ss).length < 64 ∧ k (.lst ((sortS (dedup ss)).map .str)) st
    | none => False
  | none => False) x
/-- len(set(xs)), xs a tuple of texts -/
def eLenSetT (a : TE) : TE := fun ρ st k x => a ρ st (fun v st => match v with
  | .tup xs => match asStrs xs with
    | some ss => ss.length < 4000 ∧ k (.int (dcnt ss.reverse)) st
    | none => False
  | _ => False) x
/-- list(range(n)) -/
def eRangeL (a : TE) : TE := fun ρ st k x => a ρ st (fun u st => match u with
  | .int n => i62 n ∧ n.toNat ≤ SZ ∧ k (.lst ((List.range n.toNat).map fun (i : Nat) => .int (i : Int))) st
  | _ => False) x
def eMin2 (a b : TE) : TE := fun ρ st k x => a ρ st (fun u st => b ρ st (fun v st => match u, v with | .int i, .int j => k (.int (if j < i then j else i)) st | _, _ => False) x) x
/-- xs.pop() -/
def ePop (a : TE) : TE := fun ρ st k x => a ρ st (fun u st => match u with
  | .ref r => (match st[r]? with | some (.lst xs) => (match xs.getLast? with | some y => k y (st.set r (.lst xs.dropLast)) | none => False) | _ => False)
  | _ => False) x
/-- a slice that goes on to change -/
def getSlM (u : PV) (lo hi : Option Int) (st : Store) (k : KV) : Prop := match asL st u with
  | some xs => k (.ref st.length) (st ++ [.lst (slc xs lo hi)])
  | none => False
def eSlM (a : TE) (lo hi : Option TE) : TE := fun ρ st k x => a ρ st (fun u st =>
  (match lo with | none => fun (k : Option Int → Store → Prop) => k none st | some e => fun k => e ρ st (fun v st => match v with | .int i => k (some i) st | _ => False) x) fun lo st =>
  (match hi with | none => fun (k : Option Int → Store → Prop) => k none st | some e => fun k => e ρ st (fun v st => match v with | .int i => k (some i) st | _ => False) x) fun hi st =>
  getSlM u lo hi st k) x
/-- two generators -/
def compGo2 (g : TG) (t : TT) (i1 : TI) (g1 : TG) (t1 : TT) (e : TE) (own vs1 : List Nat) (stay : Store → Prop) : List PV → List PV → Env → Store → (List PV → Store → Prop) → Prop
  | [], acc, _, st, k => stay st ∧ k acc st
  | v :: r, acc, ρ, st, k => stay st ∧ g v ρ st fun ρ' st => t ρ' st (fun b st => if b = true
      then i1 ρ' st (fun xs stay1 st => compGo g1 t1 e vs1 stay1 xs acc (wipe ρ' vs1) st fun acc st => compGo2 g t i1 g1 t1 e own vs1 stay r acc ρ st k) (fun _ _ => False)
      else compGo2 g t i1 g1 t1 e own vs1 stay r acc ρ st k) (fun _ _ => False)
def eComp2 (i : TI) (g : TG) (t : TT) (i1 : TI) (g1 : TG) (t1 : TT) (e : TE) (own vs1 : List Nat) : TE := fun ρ st k x => i ρ st (fun xs stay st => compGo2 g t i1 g1 t1 e own vs1 stay xs [] (wipe ρ own) st fun ys st => k (.lst ys) st) x
def keyEq : PV → PV → Bool
  | .int i, y => match y with | .int j => i == j | _ => false
  | .str a, y => match y with | .str b => a == b | _ => false
  | _, _ => false
def isKey : PV → Bool
  | .int _ => true
  | .str _ => true
  | _ => false
def dfind : List PV → List PV → PV → Option PV
  | k :: ks, v :: vs, y => if keyEq k y then some v else dfind ks vs y
  | _, _, _ => none
def dhas (ks : List PV) (y : PV) : Bool := ks.any fun k => keyEq k y
def dputK (ks : List PV) (y : PV) : List PV := if dhas ks y = true then ks else ks ++ [y]
def dputV (ks vs : List PV) (y z : PV) : List PV := if dhas ks y = true then List.zipWith (fun k v => if keyEq k y = true then z else v) ks vs else vs ++ [z]
/-- a dict as it stands -/
def asD (st : Store) : PV → Option (List PV × List PV)
  | .dct ks vs => some (ks, vs)
  | .ref i => match st[i]? with | some (.dct ks vs) => some (ks, vs) | _ => none
  | _ => none
/-- {a: b} -/
def eDict1M (a b : TE) : TE := fun ρ st k x => a ρ st (fun u st => b ρ st (fun v st => isKey u = true ∧ k (.ref st.length) (st ++ [.dct [u] [v]])) x) x
/-- d[k] -/
def eDGet (a b : TE) : TE := fun ρ st k x => a ρ st (fun u st => b ρ st (fun v st => match asD st u with
  | some (ks, vs) => isKey v = true ∧ (match dfind ks vs v with | some y => k y st | none => False)
  | none => False) x) x
/-- k in d; k not in d -/
def tDIn (neg : Bool) (a b : TE) : TT := fun ρ st k x => a ρ st (fun v st => b ρ st (fun u st => match asD st u with
  | some (ks, vs) => isKey v = true ∧ k ((dfind ks vs v).isSome != neg) st
  | none => False) x) x
def eDIn (neg : Bool) (a b : TE) : TE := fun ρ st k x => a ρ st (fun v st => b ρ st (fun u st => match asD st u with
  | some (ks, vs) => isKey v = true ∧ k (.bl ((dfind ks vs v).isSome != neg)) st
  | none => False) x) x
/-- d[k] = v -/
def sDPut (a b e : TE) : TS := fun D ρ st => e ρ st (fun w st => a ρ st (fun u st => b ρ st (fun v st => match u with
  | .ref i => match st[i]? with
    | some (.dct ks vs) => isKey v = true ∧ ks.length < SZ ∧ D.nx ρ (st.set i (.dct (dputK ks v) (dputV ks vs v w)))
    | _ => False
  | _ => False) D.xk) D.xk) D.xk
end VM
end
section
namespace VS
open PySem PySem.Spec PyProof.Rows L2
open VM (PV SO Store)
theorem ltS_iff : ∀ a b : List Nat, VM.ltS a b = true ↔ a < b
  | [], [] => by simp [VM.ltS]
  | [], y :: ys => by simp [VM.ltS]
  | x :: xs, [] => by simp [VM.ltS]
  | x :: xs, y :: ys => by
    unfold VM.ltS
    rw [List.cons_lt_cons_iff]
    by_cases h : x < y
    · simp [h]
    · by_cases e : x = y
      · subst e
        simp [ltS_iff xs ys]
      · simp [h, e]
def asc (l : List (List Nat)) : Prop := l.Pairwise fun a b => VM.ltS b a = false
theorem ltS_irrefl (a : List Nat) : VM.ltS a a = false := by
  cases h : VM.ltS a a with
  | false => rfl
  | true => exact absurd ((ltS_iff a a).mp h) (List.lt_irrefl a)
theorem ltS_trans {a b c : List Nat} (h : VM.ltS a b = true) (h' : VM.ltS b c = true) : VM.ltS a c = true := (ltS_iff a c).mpr (List.lt_trans ((ltS_iff a b).mp h) ((ltS_iff b c).mp h'))
theorem ltS_tri {a b : List Nat} (h : VM.ltS a b = false) (h' : VM.ltS b a = false) : a = b := by
  have h1 : ¬ a < b := fun z => by rw [(ltS_iff a b).mpr z] at h; cases h
  have h2 : ¬ b < a := fun z => by rw [(ltS_iff b a).mpr z] at h'; cases h'
  exact List.le_antisymm (List.not_lt.mp h2) (List.not_lt.mp h1)
theorem ltS_asym {a b : List Nat} (h : VM.ltS a b = true) : VM.ltS b a = false := by
  cases q : VM.ltS b a with
  | false => rfl
  | true => exact absurd (ltS_trans h q) (by rw [ltS_irrefl]; decide)
theorem le_trans' {a b c : List Nat} (h : VM.ltS b a = false) (h' : VM.ltS c b = false) : VM.ltS c a = false := by
  cases q : VM.ltS c a with
  | false => rfl
  | true =>
    by_cases e : VM.ltS a b = true
    · rw [ltS_trans q e] at h'
      cases h'
    · have e : VM.ltS a b = false := by simpa using e
      have := ltS_tri h e
      subst this
      rw [q] at h'
      cases h'
theorem insS_perm (x : List Nat) : ∀ l, (VM.insS x l).Perm (x :: l)
  | [] => List.Perm.refl _
  | y :: ys => by
    unfold VM.insS
    split
    · exact ((insS_perm x ys).cons y).trans (List.Perm.swap x y ys)
    · exact List.Perm.refl _
theorem sortS_perm : ∀ l, (VM.sortS l).Perm l
  | [] => List.Perm.refl _
  | x :: xs => by
    unfold VM.sortS
    exact (insS_perm x _).trans ((sortS_perm xs).cons x)
theorem insS_asc (x : List Nat) : ∀ l, asc l → asc (VM.insS x l)
  | [], _ => List.pairwise_singleton _ _
  | y :: ys, h => by
    obtain ⟨h1, h2⟩ := List.pairwise_cons.mp h
    unfold VM.insS
    split
    · rename_i q
      refine List.pairwise_cons.mpr ⟨fun z hz => ?_, insS_asc x ys h2⟩
      rcases List.mem_cons.mp ((insS_perm x ys).mem_iff.mp hz) with rfl | hz
      · exact ltS_asym q
      · exact h1 z hz
    · rename_i q
      have q : VM.ltS y x = false := by simpa using q
      refine List.pairwise_cons.mpr ⟨fun z hz => ?_, h⟩
      rcases List.mem_cons.mp hz with rfl | hz
      · exact q
      · exact le_trans' q (h1 z hz)
theorem sortS_asc : ∀ l, asc (VM.sortS l)
  | [] => List.Pairwise.nil
  | x :: xs => insS_asc x _ (sortS_asc xs)
theorem asc_uniq : ∀ {l l' : List (List Nat)}, asc l → asc l' → l.Perm l' → l = l'
  | [], l', _, _, p => p.nil_eq
  | x :: xs, l', h, h', p => by
    cases l' with
    | nil => exact absurd p.length_eq (by simp)
    | cons y ys =>
      obtain ⟨h1, h2⟩ := List.pairwise_cons.mp h
      obtain ⟨h3, h4⟩ := List.pairwise_cons.mp h'
      have e : x = y := by
        rcases List.mem_cons.mp (p.mem_iff.mp (List.mem_cons_self ..)) with e | m
        · exact e
        · rcases List.mem_cons.mp (p.symm.mem_iff.mp (List.mem_cons_self ..)) with e | m'
          · exact e.symm
          · exact ltS_tri (h3 x m) (h1 y m') |>.symm ▸ rfl
      subst e
      rw [asc_uniq h2 h4 (List.Perm.cons_inv p)]
theorem toS_toList (s : List Nat) : (toS s).cps.toList = s := by simp [toS]
theorem rising_asc : ∀ (p : List Nat) (l : List (List Nat)), risingS (toS p) (l.map toS) = true → asc (p :: l)
  | p, [], _ => List.pairwise_singleton _ _
  | p, x :: r, h => by
    have h : (!ltCps (toS x).cps.toList (toS p).cps.toList && risingS (toS x) (r.map toS)) = true := h
    rw [Bool.and_eq_true, toS_toList, toS_toList] at h
    obtain ⟨h1, h2⟩ := h
    have a := rising_asc x r h2
    have q : VM.ltS x p = false := by
      cases e : VM.ltS x p with
      | false => rfl
      | true =>
        have : ltCps x p = true := by rw [ltCps_eq]; exact decide_eq_true ((ltS_iff x p).mp e)
        rw [this] at h1
        cases h1
    refine List.pairwise_cons.mpr ⟨fun z hz => ?_, a⟩
    rcases List.mem_cons.mp hz with rfl | hz
    · exact q
    · exact le_trans' q ((List.pairwise_cons.mp a).1 z hz)
theorem sortedS_asc : ∀ (l : List (List Nat)), sortedS (l.map toS) = true → asc l
  | [], _ => List.Pairwise.nil
  | x :: r, h => rising_asc x r h
theorem perm_toS {ys : List Str} {ss : List (List Nat)} (h : ys.Perm (ss.map toS)) : ∃ zs : List (List Nat), ys = zs.map toS ∧ zs.Perm ss := by
  refine ⟨ys.map fun y => y.cps.toList, ?_, ?_⟩
  · rw [List.map_map]
    have : ∀ y ∈ ys, (toS ∘ fun y : Str => y.cps.toList) y = y := fun y hy => by
      obtain ⟨s, _, rfl⟩ := List.mem_map.mp (h.mem_iff.mp hy)
      show toS (toS s).cps.toList = toS s
      rw [toS_toList]
    conv => lhs; rw [← List.map_id ys]
    exact (List.map_congr_left fun y hy => (this y hy)).symm
  · have := h.map fun y : Str => y.cps.toList
    rw [List.map_map] at this
    have e : ss.map ((fun y : Str => y.cps.toList) ∘ toS) = ss := by
      conv => rhs; rw [← List.map_id ss]
      exact List.map_congr_left fun s _ => toS_toList s
    rw [e] at this
    exact this
/-- the sorted texts are the machine's -/
theorem sorted_same {ys : List Str} {ss : List (List Nat)} (p : ys.Perm (ss.map toS)) (h : sortedS ys = true) : ys = (VM.sortS ss).map toS := by
  obtain ⟨zs, rfl, pz⟩ := perm_toS p
  rw [asc_uniq (sortedS_asc zs h) (sortS_asc ss) (pz.trans (sortS_perm ss).symm)]
theorem repL_strs {K : PySem.W.Frag} {F : Hp} {μ : List Addr} : ∀ {ss : List (List Nat)}, (∀ s ∈ ss, sOk s) → RepL K F μ (ss.map PV.str) ((ss.map toS).map V.str)
  | [], _ => repL_nil.mpr rfl
  | s :: ss, h => repL_cons.mpr ⟨_, _, rfl, rep_str.mpr ⟨h s (List.mem_cons_self ..), rfl⟩, repL_strs fun t m => h t (List.mem_cons_of_mem _ m)⟩
theorem dedup_mem {x : List Nat} : ∀ {l : List (List Nat)}, x ∈ VM.dedup l ↔ x ∈ l
  | [] => Iff.rfl
  | y :: ys => by
    unfold VM.dedup
    split
    · rename_i h
      rw [dedup_mem, List.mem_cons]
      exact ⟨.inr, fun z => z.elim (fun e => e ▸ List.contains_iff_mem.mp h) id⟩
    · rw [List.mem_cons, List.mem_cons, dedup_mem]
theorem dedup_nd : ∀ l : List (List Nat), (VM.dedup l).Nodup
  | [] => List.nodup_nil
  | y :: ys => by
    unfold VM.dedup
    split
    · exact dedup_nd ys
    · rename_i h
      exact List.nodup_cons.mpr ⟨fun z => h (List.contains_iff_mem.mpr (dedup_mem.mp z)), dedup_nd ys⟩
section
variable {X : Cx} {a b c e : Expr} {ta tb te : VM.TE} {p p2 q pos : Pos}
theorem ve_sorted (ha : VE X a ta) (hg : Gl X "sorted") (hm : X.mg "sorted" = none) (he : starEach [a] X.env = (false, eval a X.env) :: starEach [] X.env := by rfl) : VE X (.Call (.Name "sorted" p) [a] [] pos) (VM.eSorted ta) :=
  pe_imp (pe_callB cr_sortedS hg hm (by decide +kernel) (pa_cons ha pa_nil he) (he := he) (hpl := rfl)) fun σ H Q h => by
    obtain ⟨G, F, μ, ρ, st, k, l, r, d, hk⟩ := h
    refine bind1 l r d fun x H1 F1 μ1 px st1 e1 l1 r1 p1 q1 => ?_
    split at q1
    · rename_i xs ex
      split at q1
      · rename_i ss es
        obtain ⟨a', vs, rfl, hb, rl⟩ := asL_rep l1 p1 ex
        obtain ⟨rfl, oks⟩ := strs_rep es rl
        refine ⟨a', ss.map toS, rfl, .inl (.inl hb), by rw [List.length_map]; exact q1.1, fun ys pp hp hs hn => ?_⟩
        rw [sorted_same hp hs]
        exact (hk.mono e1).lst l1 (repL_strs fun s m => oks s ((sortS_perm ss).mem_iff.mp m)) q1.2 pp hn
      · exact q1.elim
    · exact q1.elim
theorem ve_rangeL (hc : X.calm = true) (ha : VE X a ta) (hg : Gl X "list") (hm : X.mg "list" = none) (hg2 : Gl X "range") (hm2 : X.mg "range" = none) (na : starEach [a] X.env = (false, eval a X.env) :: starEach [] X.env := by rfl)
    (na2 : starEach [.Call (.Name "range" p2) [a] [] q] X.env = (false, eval (.Call (.Name "range" p2) [a] [] q) X.env) :: starEach [] X.env := by rfl) :
    VE X (.Call (.Name "list" p) [.Call (.Name "range" p2) [a] [] q] [] pos) (VM.eRangeL ta) :=
  pe_imp (pe_listRg hc hg hm (prg_1 hg2 hm2 ha na) na2) fun σ H Q h => by
    obtain ⟨G, F, μ, ρ, st, k, l, r, d, hk⟩ := h
    refine bind1 l r d fun x H1 F1 μ1 px st1 e1 l1 r1 p1 q1 => ?_
    cases px with
    | int n =>
      obtain rfl := rep_int.mp p1
      obtain ⟨⟨h1, h2⟩, h3, q1⟩ := q1
      refine ⟨n, rfl, ⟨by decide, by decide, h1, h2, by rw [Int.sub_zero]; exact h3⟩, fun pp hn => ?_⟩
      have e : rgV 0 n = ((List.range n.toNat).map fun (i : Nat) => (i : Int)).map V.int := by
        unfold rgV
        rw [Int.sub_zero, List.map_map]
        exact List.map_congr_left fun i _ => by simp
      rw [e]
      have r2 : RepL X.K F1 μ1 ((List.range n.toNat).map fun (i : Nat) => PV.int (i : Int)) (((List.range n.toNat).map fun (i : Nat) => (i : Int)).map V.int) := by
        have := repL_ints (K := X.K) (F := F1) (μ := μ1) ((List.range n.toNat).map fun (i : Nat) => (i : Int))
        rw [List.map_map] at this
        exact this
      exact (hk.mono e1).lst l1 r2 q1 pp hn
    | _ => exact q1.elim
theorem ve_min2 (hc : X.calm = true) (ha : VE X a ta) (hb : VE X b tb) (hg : Gl X "min") (hm : X.mg "min" = none) (hv : bootBuiltins "min" = some (.builtin "min") := by decide +kernel) (hs : starEach [a, b] X.env = (false, eval a X.env) :: starEach [b] X.env := by rfl) (hs2 : starEach [b] X.env = (false, eval b X.env) :: starEach [] X.env := by rfl) (hpl : (backTo pos (starEach [b] X.env)).any (·.1) = false := by rfl) :
    VE X (.Call (.Name "min" p) [a, b] [] pos) (VM.eMin2 ta tb) := pe_imp (pe_callB (call_min2 hc) hg hm hv (pa_cons ha (pa_cons hb pa_nil hs2) hs) (he := hs) (hpl := hpl)) fun σ H Q h => by
  obtain ⟨G, F, μ, ρ, st, k, l, r, d, hk⟩ := h
  refine bind1 l r d fun x H1 F1 μ1 px st1 e1 l1 r1 p1 q1 => bind1 l1 r1 q1 fun y H2 F2 μ2 py st2 e2 l2 r2 p2 q2 => ?_
  split at q2
  · rename_i i j
    obtain rfl := rep_int.mp (p1.mono e2)
    obtain rfl := rep_int.mp p2
    exact ⟨i, j, rfl, (hk.mono (e1.trans e2)).same l2 (rep_int.mpr rfl) q2⟩
  · exact q2.elim
theorem RepL.dropLast {K : PySem.W.Frag} {F : Hp} {μ : List Addr} {xs : List PV} {vs : List V} (h : RepL K F μ xs vs) : RepL K F μ xs.dropLast vs.dropLast := by
  rw [List.dropLast_eq_take, List.dropLast_eq_take, h.length]
  exact h.take _
theorem ve_pop {o : Expr} {apos cpos : Pos} (ho : VE X o ta) (hbase : attributeBase o "pop" X.env (eval o X.env) = eval o X.env := by rfl) (hline : (apos.endLine == cpos.line) = true := by rfl) :
    VE X (.Call (.Attribute o "pop" apos) [] [] cpos) (VM.ePop ta) := pe_imp (pe_bm0 PySem.F.plainAttrs_list PySem.F.slot_list_pop PySem.F.type_list_pop mt_pop ho hbase hline) fun σ H Q h => by
  obtain ⟨G, F, μ, ρ, st, k, l, r, d, hk⟩ := h
  refine bind1 l r d fun x H1 F1 μ1 px st1 e1 l1 r1 p1 q1 => ?_
  split at q1
  · rename_i j
    split at q1
    · rename_i xs ex
      split at q1
      · rename_i y ey
        obtain ⟨a, ea, rfl⟩ := rep_ref.mp p1
        obtain ⟨hf, vs, hh, rl⟩ := l1.obj j a _ ea ex
        rw [List.getLast?_eq_getElem?] at ey
        obtain ⟨v, ev, rv⟩ := rl.get ey
        refine ⟨.inl ⟨rfl, vs, .inl (.inl hh)⟩, a, vs, v, rfl, rfl, hh, by rw [rl.length]; exact ev, (hk.mono e1) v _ F1 μ1 y _ Ext.refl (l1.put ea ?_ hf) rv q1⟩
        exact ⟨hf, _, upd_same, RepL.dropLast rl⟩
      · exact q1.elim
    · exact q1.elim
  · exact q1.elim
def SlOfM (K : PySem.W.Frag) : V → Option Int → Option Int → Hp → VK → Prop := fun x lo hi H Q => ∃ G F μ st px k, Lay K G F μ st H ∧ Rep K F μ px x ∧ VM.getSlM px lo hi st k ∧ Kon K G F μ k Q
theorem sl_dynM : SlR X (SlOfM X.K) := by
  intro pins s σ H x v vl vu lo hi sl Q I rx hs pl pu h
  obtain ⟨G, F, μ, st, px, k, l, p1, d, hk⟩ := h
  unfold VM.getSlM at d
  split at d
  · rename_i xs ea
    obtain ⟨a, vs, rfl, e, q⟩ := asL_rep l p1 ea
    exact sl_list pins s σ H _ v vl vu lo hi sl Q I rx hs pl pu ⟨a, vs, rfl, .inl (.inl e), hk.lstM l (q.slc lo hi) d⟩
  · exact d.elim
theorem ve_slM {lo hi : Option Expr} {tl th : Option VM.TE} (he : VE X e te) (hl : PO X lo (rO X.K (partOf tl))) (hh : PO X hi (rO X.K (partOf th))) : VE X (.Subscript e (.Slice lo hi none p2) pos) (VM.eSlM te tl th) := pe_imp (pe_slice sl_dynM he hl hh) fun σ H Q h => by
  obtain ⟨G, F, μ, ρ, st, k, l, r, d, hk⟩ := h
  refine bind1 l r d fun x H1 F1 μ1 px st1 e1 l1 r1 p1 q1 => ?_
  refine ⟨G, F1, μ1, ρ, st1, fun lo st2 => partOf th ρ st2 (fun hi st3 => VM.getSlM px lo hi st3 k) nox, l1, r1, ?_, ?_⟩
  · cases tl <;> cases th <;> exact q1
  · intro lo' H2 F2 μ2 st2 e2 l2 q2
    refine ⟨G, F2, μ2, ρ, st2, _, l2, r1.mono e2, q2, ?_⟩
    intro hi' H3 F3 μ3 st3 e3 l3 q3
    exact ⟨G, F3, μ3, st3, px, k, l3, p1.mono (e2.trans e3), q3, hk.mono (e1.trans (e2.trans e3))⟩
end
theorem lc2_gen {i i1 : VM.TI} {g g1 : VM.TG} {t t1 : VM.TT} {te : VM.TE} {vs sl vs1 sl1 : List Nat} (hsl : ∀ j ∈ sl, j ∈ vs) (hsl1 : ∀ j ∈ sl1, j ∈ vs1) (h1v : ∀ j ∈ vs1, j ∈ vs) {K : PySem.W.Frag} {σ : L2.St} {H : Hp} {Q : VK}
    (h : rE K (VM.eComp2 i g t i1 g1 t1 te vs vs1) σ H Q) :
    tLc2 (VS.rI K i) (rG K g sl) (rT K t) (VS.rI K i1) (rG K g1 sl1) (rT K t1) (rE K te) vs vs1 σ H Q := by
  obtain ⟨G, F, μ, ρ, st, k, l, r, d, hk⟩ := h
  refine ⟨G, F, μ, ρ, st, _, l, r, d, fun J H1 F1 μ1 xs stay st1 e1 l1 w q => ?_⟩
  intro D hD
  have hG : G D = none := by
    cases ge : G D with
    | none => rfl
    | some o =>
      have := (l1.gd D o ge).1
      rw [hD] at this
      cases this
  refine ⟨fun i' m H => m = xs.length - i' ∧ i' ≤ xs.length ∧ ∃ F' μ' acc ws st', Ext F1 μ1 F' μ' ∧ Lay K (upd G D (.lst ws)) F' μ' st' H ∧ RepL K F' μ' acc ws ∧ VM.compGo2 g t i1 g1 t1 te vs vs1 stay (xs.drop i') acc (VM.wipe ρ vs) st' fun ys st => k (.lst ys) st,
    ⟨xs.length, by simp, Nat.zero_le _, F1, μ1, [], [], st1, Ext.refl, l1.guard hD, repL_nil.mpr rfl, q⟩, ?_⟩
  rintro i' m H ⟨rfl, hi, F', μ', acc, ws, st', e2, l2, ra, q2⟩
  have rr : ∀ {F2 : Hp} {μ2 : List Addr}, Ext F μ F2 μ2 → EnvR K F2 μ2 (L2.wipe σ vs) (VM.wipe ρ vs) := fun x => (r.mono x).wipe vs
  by_cases hlt : i' < xs.length
  · rw [List.drop_eq_getElem_cons hlt] at q2
    obtain ⟨hstay, q2⟩ := q2
    refine .inr ⟨w.goes _ H F' μ' st' i' e2 l2 hstay hlt, fun H' => xs.length - (i' + 1) = xs.length - (i' + 1) ∧ i' + 1 ≤ xs.length ∧ ∃ F' μ' acc ws st', Ext F1 μ1 F' μ' ∧ Lay K (upd G D (.lst ws)) F' μ' st' H' ∧ RepL K F' μ' acc ws ∧ VM.compGo2 g t i1 g1 t1 te vs vs1 stay (xs.drop (i' + 1)) acc (VM.wipe ρ vs) st' fun ys st => k (.lst ys) st, fun H' p' => ⟨xs.length - (i' + 1), by omega, p'⟩, fun x H' hy => ?_⟩
    obtain ⟨F3, e3, l3, rx⟩ := w.yields _ H F' μ' st' i' xs[i'] x H' e2 l2 hstay (by simp [hlt]) hy
    refine ⟨_, F3, μ', _, st', _, xs[i'], l3, rr ((e1.trans e2).trans e3), rx, q2, fun σ4 ρ4 st4 l4 r4 len4 out4 q4 => ?_⟩
    refine ⟨wipe_eq (len4.trans (L2.wipe_length _ _)) fun j hj => out4 j fun z => hj (hsl j z), ?_⟩
    refine bindT l4 r4 q4 fun b H5 F5 μ5 st5 e5 l5 r5 q5 => ?_
    cases b with
    | true =>
      rw [if_pos rfl] at q5 ⊢
      refine ⟨upd G D (.lst ws), F5, μ5, ρ4, st5, _, l5, r5, q5, fun J1 H6 F6 μ6 xs1 stay1 st6 e6 l6 w1 q6 => ?_⟩
      refine ⟨fun j m1 H => m1 = xs1.length - j ∧ j ≤ xs1.length ∧ ∃ F' μ' acc ws st', Ext F6 μ6 F' μ' ∧ Lay K (upd G D (.lst ws)) F' μ' st' H ∧ RepL K F' μ' acc ws ∧ VM.compGo g1 t1 te vs1 stay1 (xs1.drop j) acc (VM.wipe ρ4 vs1) st' fun acc st => VM.compGo2 g t i1 g1 t1 te vs vs1 stay (xs.drop (i' + 1)) acc (VM.wipe ρ vs) st fun ys st => k (.lst ys) st,
        ⟨xs1.length, by simp, Nat.zero_le _, F6, μ6, acc, ws, st6, Ext.refl, l6, ((ra.mono e3).mono e5).mono e6, q6⟩, ?_⟩
      rintro j m1 H7 ⟨rfl, hj, F7, μ7, acc7, ws7, st7, e7, l7, ra7, q7⟩
      by_cases hlt1 : j < xs1.length
      · rw [List.drop_eq_getElem_cons hlt1] at q7
        obtain ⟨hstay1, q7⟩ := q7
        refine .inr ⟨w1.goes _ H7 F7 μ7 st7 j e7 l7 hstay1 hlt1, fun H' => xs1.length - (j + 1) = xs1.length - (j + 1) ∧ j + 1 ≤ xs1.length ∧ ∃ F' μ' acc ws st', Ext F6 μ6 F' μ' ∧ Lay K (upd G D (.lst ws)) F' μ' st' H' ∧ RepL K F' μ' acc ws ∧ VM.compGo g1 t1 te vs1 stay1 (xs1.drop (j + 1)) acc (VM.wipe ρ4 vs1) st' fun acc st => VM.compGo2 g t i1 g1 t1 te vs vs1 stay (xs.drop (i' + 1)) acc (VM.wipe ρ vs) st fun ys st => k (.lst ys) st, fun H' p' => ⟨xs1.length - (j + 1), by omega, p'⟩, fun x1 H8 hy1 => ?_⟩
        obtain ⟨F8, e8, l8, rx8⟩ := w1.yields _ H7 F7 μ7 st7 j xs1[j] x1 H8 e7 l7 hstay1 (by simp [hlt1]) hy1
        refine ⟨_, F8, μ7, _, st7, _, xs1[j], l8, (r5.mono ((e6.trans e7).trans e8)).wipe vs1, rx8, q7, fun σ9 ρ9 st9 l9 r9 len9 out9 q9 => ?_⟩
        refine ⟨wipe_eq (len9.trans (L2.wipe_length _ _)) fun j' hj' => out9 j' fun z => hj' (hsl1 j' z), ?_⟩
        refine bindT l9 r9 q9 fun b H10 F10 μ10 st10 e10 l10 r10 q10 => ?_
        cases b with
        | true =>
          rw [if_pos rfl] at q10 ⊢
          refine bind1 l10 r10 q10 fun y H11 F11 μ11 py st11 e11 l11 r11 p11 q11 => ?_
          obtain ⟨hz, q11⟩ := q11
          have ra' := ((ra7.mono e8).mono e10).mono e11
          refine ⟨ws7, (l11.gd D _ upd_same).1, by rw [ra7.length, sizeLine_eq]; exact hz, rfl, by omega, F11, μ11, acc7 ++ [py], ws7 ++ [y], st11, ((e7.trans e8).trans e10).trans e11, ?_, ra'.append (repL_cons.mpr ⟨y, [], rfl, p11, repL_nil.mpr rfl⟩), q11⟩
          exact l11.gset
        | false =>
          rw [if_neg Bool.false_ne_true] at q10 ⊢
          exact ⟨rfl, by omega, F10, μ10, acc7, ws7, st10, (e7.trans e8).trans e10, l10, (ra7.mono e8).mono e10, q10⟩
      · have e : j = xs1.length := by omega
        subst e
        rw [List.drop_length] at q7
        refine .inl ⟨w1.stops _ H7 F7 μ7 st7 e7 l7 q7.1, rfl, by omega, F7, μ7, acc7, ws7, st7, (((e2.trans e3).trans e5).trans e6).trans e7, l7, ra7, q7.2⟩
    | false =>
      rw [if_neg Bool.false_ne_true] at q5 ⊢
      exact ⟨rfl, by omega, F5, μ5, acc, ws, st5, (e2.trans e3).trans e5, l5, (ra.mono e3).mono e5, q5⟩
  · have e : i' = xs.length := by omega
    subst e
    rw [List.drop_length] at q2
    refine .inl ⟨w.stops _ H F' μ' st' e2 l2 q2.1, ?_⟩
    obtain ⟨e3, l3⟩ := l2.unguard hG
    exact hk (.ref D) H _ μ' (.lst acc) st' ((e1.trans e2).trans e3) l3 (rep_lst.mpr ⟨D, ws, rfl, upd_same, ra.mono e3⟩) q2.2
section
variable {X : Cx} {a b c e : Expr} {ta tb te : VM.TE} {p p2 q pos : Pos} {tg tg1 : Expr}
theorem ve_comp2 {elt iter iter1 : Expr} {ifs ifs1 : List Expr} {scope : Scope} {own : List (Str × Nat)} {i i1 : VM.TI} {g g1 : VM.TG} {t t1 : VM.TT} {sl sl1 vs1 : List Nat} (hc : X.calm = true) (hN : X.N.Nodup) (ok : BlkOk X.N X.env.scope scope own) (hv : ∀ j ∈ vs1, j ∈ own.map (·.2)) (hi : VI X tg iter i) (hsl : ∀ j ∈ sl, j ∈ own.map (·.2)) (hsl1 : ∀ j ∈ sl1, j ∈ vs1)
    (hg : ∀ s H C cl fp, VG (BX X scope s H C cl fp) tg g sl) (ht : ∀ s H C cl fp, PTs (BX X scope s H C cl fp) ifs (rT X.K t)) (hi1 : ∀ s H C cl fp, VI (BX X scope s H C cl fp) tg1 iter1 i1)
    (hg1 : ∀ s H C cl fp, VG (BX X scope s H C cl fp) tg1 g1 sl1) (ht1 : ∀ s H C cl fp, PTs (BX X scope s H C cl fp) ifs1 (rT X.K t1)) (he : ∀ s H C cl fp, VE (BX X scope s H C cl fp) elt te)
    (hs : ∀ x, foldedSetIterable iter X.env x = pure x := by intro _; rfl) (hs1 : ∀ env x, foldedSetIterable iter1 env x = pure x := by intro _ _; rfl) :
    VE X (.ListComp elt [⟨tg, iter, ifs, 0⟩, ⟨tg1, iter1, ifs1, 0⟩] scope pos) (VM.eComp2 i g t i1 g1 t1 te (own.map (·.2)) vs1) :=
  pe_imp (pe_lc2 hc hN hi ok hv hg ht hi1 hg1 ht1 he hs hs1) fun σ H Q h => lc2_gen hsl hsl1 hv h
theorem vs_setc2 {i0 : Nat} {y : Str} {py spos : Pos} {elt iter iter1 : Expr} {ifs ifs1 : List Expr} {scope : Scope} {own : List (Str × Nat)} {i i1 : VM.TI} {g g1 : VM.TG} {t t1 : VM.TT} {sl sl1 vs1 : List Nat} (hc : X.calm = true) (hN : X.N.Nodup) (hy : X.N[i0]? = some y) (hyl : X.env.scope.names.lookup y = some .local)
    (hsw : swapsWith (.ListComp elt [⟨tg, iter, ifs, 0⟩, ⟨tg1, iter1, ifs1, 0⟩] scope pos) (some (.Name y py)) spos.line X.env = pure true) (ok : BlkOk X.N X.env.scope scope own) (hv : ∀ j ∈ vs1, j ∈ own.map (·.2)) (hi : VI X tg iter i) (hsl : ∀ j ∈ sl, j ∈ own.map (·.2)) (hsl1 : ∀ j ∈ sl1, j ∈ vs1)
    (hg : ∀ s H C cl fp, VG (BX X scope s H C cl fp) tg g sl) (ht : ∀ s H C cl fp, PTs (BX X scope s H C cl fp) ifs (rT X.K t)) (hi1 : ∀ s H C cl fp, VI (BX X scope s H C cl fp) tg1 iter1 i1)
    (hg1 : ∀ s H C cl fp, VG (BX X scope s H C cl fp) tg1 g1 sl1) (ht1 : ∀ s H C cl fp, PTs (BX X scope s H C cl fp) ifs1 (rT X.K t1)) (he : ∀ s H C cl fp, VE (BX X scope s H C cl fp) elt te)
    (hs : ∀ x, foldedSetIterable iter X.env x = pure x := by intro _; rfl) (hs1 : ∀ env x, foldedSetIterable iter1 env x = pure x := by intro _ _; rfl) :
    VSt X (.Assign [.Name y py] (.ListComp elt [⟨tg, iter, ifs, 0⟩, ⟨tg1, iter1, ifs1, 0⟩] scope pos) spos) (VM.sSet (VM.gName i0) (VM.eComp2 i g t i1 g1 t1 te (own.map (·.2)) vs1)) :=
  ps_imp (ps_setLc2 hc hN hy hyl hsw hi ok hv hg ht hi1 hg1 ht1 he hs hs1) fun D σ H h => lc2_gen hsl hsl1 hv (show rE X.K _ σ H (fun x H1 => gName i0 x σ H1 D.nx) from set_imp h)
end
theorem key_rep {K : PySem.W.Frag} {F : Hp} {μ : List Addr} {px : PV} {v : V} (r : Rep K F μ px v) (h : VM.isKey px = true) : ∃ k : Key, v = kV k ∧ px = kP k := by
  cases px with
  | int i => exact ⟨.inl i, rep_int.mp r, rfl⟩
  | str s =>
    obtain ⟨_, rfl⟩ := rep_str.mp r
    exact ⟨.inr ⟨s.toArray⟩, rfl, by simp [kP]⟩
  | _ => cases h
theorem keyEq_kP (a b : Key) : VM.keyEq (kP a) (kP b) = decide (a = b) := by
  cases a with
  | inl i =>
    cases b with
    | inl j =>
      show (i == j) = _
      by_cases h : i = j
      · subst h; simp
      · simp [h]
    | inr y => simp [kP, VM.keyEq]
  | inr x =>
    cases b with
    | inl j => simp [kP, VM.keyEq]
    | inr y =>
      show (x.cps.toList == y.cps.toList) = _
      by_cases h : x = y
      · subst h; simp
      · have : x.cps.toList ≠ y.cps.toList := fun z => h (by
          cases x; cases y
          simp only at z
          rw [Array.toList_inj.mp z])
        have d1 : decide ((Sum.inr x : Key) = Sum.inr y) = false := decide_eq_false fun z => h (Sum.inr.inj z)
        rw [d1]
        simpa using this
theorem dfind_rep {K : PySem.W.Frag} {F : Hp} {μ : List Addr} {k : Key} : ∀ {kvs : List (Key × V)} {xs : List PV}, RepL K F μ xs (kvs.map (·.2)) → (VM.dfind (kvs.map fun q => kP q.1) xs (kP k) = none ∧ L2.valV kvs k = none) ∨ ∃ y v, VM.dfind (kvs.map fun q => kP q.1) xs (kP k) = some y ∧ L2.valV kvs k = some v ∧ Rep K F μ y v
  | [], xs, r => .inl ⟨by cases xs <;> rfl, rfl⟩
  | q :: kvs, [], r => by
    rw [List.map_cons] at r
    exact absurd (repL_nil.mp r) (by simp)
  | q :: kvs, x :: xs, r => by
    obtain ⟨v, vs, e, r1, r2⟩ := repL_cons.mp r
    rw [List.map_cons] at e
    injection e with e1 e2
    subst e1 e2
    rw [List.map_cons]
    unfold VM.dfind
    rw [keyEq_kP]
    by_cases h : q.1 = k
    · rw [if_pos (by simpa using h), L2.valV_pos h]
      exact .inr ⟨x, q.2, rfl, rfl, r1⟩
    · rw [if_neg (by simpa using h), L2.valV_neg h]
      exact dfind_rep r2
theorem dhas_kP (k : Key) (kvs : List (Key × V)) : VM.dhas (kvs.map fun q => kP q.1) (kP k) = kvs.any fun q => decide (q.1 = k) := by
  unfold VM.dhas
  rw [List.any_map]
  congr 1
  funext q
  exact keyEq_kP q.1 k
theorem zipW_rep {K : PySem.W.Frag} {F : Hp} {μ : List Addr} {k : Key} {y : PV} {v : V} (ry : Rep K F μ y v) : ∀ {kvs : List (Key × V)} {xs : List PV}, RepL K F μ xs (kvs.map (·.2)) →
    RepL K F μ (List.zipWith (fun a b => if VM.keyEq a (kP k) = true then y else b) (kvs.map fun q => kP q.1) xs) ((kvs.map fun q => if q.1 = k then (q.1, v) else q).map (·.2))
  | [], xs, r => by
    rw [List.map_nil, List.zipWith_nil_left]
    exact repL_nil.mpr rfl
  | q :: kvs, [], r => by
    rw [List.map_cons] at r
    exact absurd (repL_nil.mp r) (by simp)
  | q :: kvs, x :: xs, r => by
    obtain ⟨w, vs, e, r1, r2⟩ := repL_cons.mp r
    rw [List.map_cons] at e
    injection e with e1 e2
    subst e1 e2
    rw [List.map_cons, List.zipWith_cons_cons, List.map_cons, List.map_cons, keyEq_kP]
    refine repL_cons.mpr ⟨_, _, rfl, ?_, zipW_rep ry r2⟩
    by_cases h : q.1 = k
    · rw [if_pos (by simpa using h), if_pos h]
      exact ry
    · rw [if_neg (by simpa using h), if_neg h]
      exact r1
theorem put_rep {K : PySem.W.Frag} {F : Hp} {μ : List Addr} {k : Key} {y : PV} {v : V} (ry : Rep K F μ y v) {kvs : List (Key × V)} {xs : List PV} (r : RepL K F μ xs (kvs.map (·.2))) :
    VM.dputK (kvs.map fun q => kP q.1) (kP k) = (putK kvs k v).map (fun q => kP q.1) ∧ RepL K F μ (VM.dputV (kvs.map fun q => kP q.1) xs (kP k) y) ((putK kvs k v).map (·.2)) := by
  unfold VM.dputK VM.dputV putK
  rw [dhas_kP]
  split
  · refine ⟨?_, zipW_rep ry r⟩
    rw [List.map_map]
    refine List.map_congr_left fun q _ => ?_
    show _ = kP (if q.1 = k then (q.1, v) else q).1
    split <;> rfl
  · refine ⟨by rw [List.map_append]; rfl, ?_⟩
    rw [List.map_append]
    exact r.append (repL_cons.mpr ⟨v, [], rfl, ry, repL_nil.mpr rfl⟩)
theorem asD_rep {K : PySem.W.Frag} {G F : Hp} {μ : List Addr} {H : Hp} {st : Store} {px : PV} {x : V} {ks xs : List PV} (l : Lay K G F μ st H) (r : Rep K F μ px x) (h : VM.asD st px = some (ks, xs)) : ∃ a kvs, x = .ref a ∧ H a = some (.dK kvs) ∧ ks = kvs.map (fun q => kP q.1) ∧ RepL K F μ xs (kvs.map (·.2)) := by
  unfold VM.asD at h
  split at h
  · cases h
    unfold Rep at r
    obtain ⟨a, kvs, h1, h2, h3, h4⟩ := r
    exact ⟨a, kvs, h1, l.same a _ h2, h3, h4⟩
  · rename_i i
    split at h
    · rename_i k1 v1 e
      cases h
      obtain ⟨a, h1, h2⟩ := rep_ref.mp r
      obtain ⟨_, kvs, h3, h4, h5⟩ := l.obj i a _ h1 e
      exact ⟨a, kvs, h2, h3, h4, h5⟩
    · cases h
  · cases h
/-- a guarded thing becomes an object of the store -/
theorem Lay.ungO {K : PySem.W.Frag} {G F : Hp} {μ : List Addr} {st : Store} {H : Hp} {D : Addr} {o : HO} {u : SO} (l : Lay K (upd G D o) F μ st H) (hG : G D = none) (ro : RO K F (μ ++ [D]) H D u) : Lay K G F (μ ++ [D]) (st ++ [u]) H := by
  obtain ⟨h1, h2, h3⟩ := l.gd D _ upd_same
  exact {
    gd := fun a u e => by
      have q : a ≠ D := ne_of_none e hG
      obtain ⟨k1, k2, k3⟩ := l.gd a u (by rw [upd_ne q]; exact e)
      exact ⟨k1, k2, fun z => (List.mem_append.mp z).elim k3 fun z => q (by simpa using z)⟩
    same := l.same
    len := by simp [l.len]
    nd := List.nodup_append.mpr ⟨l.nd, by simp, fun a ha b hb => by
      have e : b = D := by simpa using hb
      subst e
      exact fun z => h3 (z ▸ ha)⟩
    there := fun a ha => by
      rcases List.mem_append.mp ha with ha | ha
      · exact l.there a ha
      · have e : a = D := by simpa using ha
        exact ⟨_, by rw [e]; exact h1⟩
    obj := fun i a v e1 e2 => by
      by_cases hi : i < μ.length
      · rw [List.getElem?_append_left hi] at e1
        rw [List.getElem?_append_left (by rw [← l.len]; exact hi)] at e2
        exact (l.obj i a v e1 e2).mono (ext_alloc D) rfl rfl
      · have e : i = μ.length := by
          have := (List.getElem?_eq_some_iff.mp e1).1
          simp at this
          omega
        subst e
        rw [List.getElem?_append_right (Nat.le_refl _)] at e1
        rw [l.len, List.getElem?_append_right (Nat.le_refl _)] at e2
        simp at e1 e2
        subst e1 e2
        exact ro }
section
variable {X : Cx} {a b c e o i : Expr} {ta tb te : VM.TE} {p p2 p3 q pos : Pos}
theorem noG {G : Hp} {K : PySem.W.Frag} {F : Hp} {μ : List Addr} {st : Store} {H : Hp} {D : Addr} (l : Lay K G F μ st H) (h : H D = none) : G D = none := by
  cases ge : G D with
  | none => rfl
  | some o =>
    have := (l.gd D o ge).1
    rw [h] at this
    cases this
theorem ve_dict1M (ha : VE X a ta) (hb : VE X b tb) : VE X (.Dict [some a] [b] pos) (VM.eDict1M ta tb) :=
  pe_imp (pe_disp (pps_cons ha hb pps_nil) rfl rfl (by simp) (by simp)) fun σ H Q h => by
    obtain ⟨G, F, μ, ρ, st, k, l, r, d, hk⟩ := h
    intro D hD
    have hG := noG l hD
    have l0 := l.guard (o := .dK []) hD
    unfold tPairs tPairs
    refine bind1 l0 r d fun x H1 F1 μ1 px st1 e1 l1 r1 p1 q1 => bind1 l1 r1 q1 fun y H2 F2 μ2 py st2 e2 l2 r2 p2 q2 => ?_
    obtain ⟨hkey, q2⟩ := q2
    obtain ⟨kk, rfl, rfl⟩ := key_rep (p1.mono e2) hkey
    refine ⟨(l2.gd D _ upd_same).1, [(kk, y)], rfl, by simp, ?_⟩
    have em : mergeK [] [(kk, y)] = [(kk, y)] := by simp [mergeK, putK]
    rw [em]
    have l3 := l2.gset (o' := .dK [(kk, y)])
    refine (hk.mono (e1.trans e2)) (.ref D) _ F2 (μ2 ++ [D]) (.ref st2.length) _ (ext_alloc D) (l3.ungO (u := SO.dct [kP kk] [py]) hG ⟨(l2.gd D _ upd_same).2.1, [(kk, y)], upd_same, rfl, ?_⟩) (rep_ref.mpr ⟨D, ?_, rfl⟩) q2
    · exact repL_cons.mpr ⟨y, [], rfl, p2.mono (ext_alloc D), repL_nil.mpr rfl⟩
    · rw [← l2.len, List.getElem?_append_right (Nat.le_refl _)]
      simp
theorem ve_dget (hu : X.A.units + 1 < cLine) (ho : VE X o ta) (hi : VE X i tb) (hs : NoSl i) : VE X (.Subscript o i pos) (VM.eDGet ta tb) := pe_imp (pe_dget hu ho hi hs) fun σ H Q h => by
  obtain ⟨G, F, μ, ρ, st, k, l, r, d, hk⟩ := h
  refine bind1 l r d fun x H1 F1 μ1 px st1 e1 l1 r1 p1 q1 => bind1 l1 r1 q1 fun y H2 F2 μ2 py st2 e2 l2 r2 p2 q2 => ?_
  split at q2
  · rename_i ks vs ed
    obtain ⟨hkey, q2⟩ := q2
    obtain ⟨kk, rfl, rfl⟩ := key_rep p2 hkey
    obtain ⟨a, kvs, rfl, hH, rfl, rl⟩ := asD_rep l2 (p1.mono e2) ed
    rcases dfind_rep (k := kk) rl with ⟨h1, _⟩ | ⟨z, v, h1, h2, h3⟩
    · rw [h1] at q2
      exact q2.elim
    · rw [h1] at q2
      refine ⟨a, v, rfl, ?_, (hk.mono (e1.trans e2)).same l2 h3 q2⟩
      rw [← h2]
      exact DGet.k hH
  · exact q2.elim
theorem eDIn_imp {K : PySem.W.Frag} {neg : Bool} {σ : L2.St} {H : Hp} {Q : VK} {W : V → V → Hp → Prop} (h : rE K (VM.eDIn neg ta tb) σ H Q)
    (hW : ∀ a y o H', DGet H' a y o → Q (.bl (o.isSome != neg)) H' → W y (.ref a) H') : rE K ta σ H fun y H1 => rE K tb σ H1 fun x H2 => W y x H2 := by
  obtain ⟨G, F, μ, ρ, st, k, l, r, d, hk⟩ := h
  refine bind1 l r d fun x H1 F1 μ1 px st1 e1 l1 r1 p1 q1 => bind1 l1 r1 q1 fun y H2 F2 μ2 py st2 e2 l2 r2 p2 q2 => ?_
  split at q2
  · rename_i ks vs ed
    obtain ⟨hkey, q2⟩ := q2
    obtain ⟨kk, rfl, rfl⟩ := key_rep (p1.mono e2) hkey
    obtain ⟨a, kvs, rfl, hH, rfl, rl⟩ := asD_rep l2 p2 ed
    refine hW a _ (L2.valV kvs kk) H2 (DGet.k hH) ?_
    rcases dfind_rep (k := kk) rl with ⟨h1, h2⟩ | ⟨z, v, h1, h2, h3⟩
    · rw [h1] at q2
      rw [h2]
      exact (hk.mono (e1.trans e2)).same l2 (rep_bl.mpr rfl) q2
    · rw [h1] at q2
      rw [h2]
      exact (hk.mono (e1.trans e2)).same l2 (rep_bl.mpr rfl) q2
  · exact q2.elim
theorem ve_din (hu : X.A.units + 1 < cLine) (hi : VE X i ta) (ho : VE X o tb) (hm : behindInMarks .In o = false := by rfl) : VE X (.Compare i [.In] [o] pos) (VM.eDIn false ta tb) := pe_imp (pe_cmp (pc_din hu hi ho) hm) fun σ H Q h =>
  eDIn_imp (W := fun y x H2 => ∃ a ov, x = .ref a ∧ DGet H2 a y ov ∧ Q (.bl ov.isSome) H2) h fun a y ov H' g q => ⟨a, ov, rfl, g, by simpa using q⟩
theorem ve_dnotin (hu : X.A.units + 1 < cLine) (hi : VE X i ta) (ho : VE X o tb) (hm : behindInMarks .NotIn o = false := by rfl) : VE X (.Compare i [.NotIn] [o] pos) (VM.eDIn true ta tb) := pe_imp (pe_cmp (pc_dnotin hu hi ho) hm) fun σ H Q h =>
  eDIn_imp (W := fun y x H2 => ∃ a ov, x = .ref a ∧ DGet H2 a y ov ∧ Q (.bl (!ov.isSome)) H2) h fun a y ov H' g q => ⟨a, ov, rfl, g, by simpa using q⟩
theorem tDIn_imp {K : PySem.W.Frag} {neg : Bool} {σ : L2.St} {H : Hp} {Q : Bool → Hp → Prop} {W : V → V → Hp → Prop} (h : rT K (VM.tDIn neg ta tb) σ H Q)
    (hW : ∀ a y o H', DGet H' a y o → Q (o.isSome != neg) H' → W y (.ref a) H') : rE K ta σ H fun y H1 => rE K tb σ H1 fun x H2 => W y x H2 := by
  obtain ⟨G, F, μ, ρ, st, k, l, r, d, hk⟩ := h
  refine bind1 l r d fun x H1 F1 μ1 px st1 e1 l1 r1 p1 q1 => bind1 l1 r1 q1 fun y H2 F2 μ2 py st2 e2 l2 r2 p2 q2 => ?_
  split at q2
  · rename_i ks vs ed
    obtain ⟨hkey, q2⟩ := q2
    obtain ⟨kk, rfl, rfl⟩ := key_rep (p1.mono e2) hkey
    obtain ⟨a, kvs, rfl, hH, rfl, rl⟩ := asD_rep l2 p2 ed
    refine hW a _ (L2.valV kvs kk) H2 (DGet.k hH) ?_
    rcases dfind_rep (k := kk) rl with ⟨h1, h2⟩ | ⟨z, v, h1, h2, h3⟩
    · rw [h1] at q2
      rw [h2]
      exact (hk.mono (e1.trans e2)).same l2 q2
    · rw [h1] at q2
      rw [h2]
      exact (hk.mono (e1.trans e2)).same l2 q2
  · exact q2.elim
theorem vt_din (hu : X.A.units + 1 < cLine) (hi : VE X i ta) (ho : VE X o tb) (hm : behindInMarks .In o = false := by rfl) : VT X (.Compare i [.In] [o] pos) (VM.tDIn false ta tb) := pt_imp (pt_cmp (pc_din hu hi ho) hm) fun σ H Q h =>
  tDIn_imp (W := fun y x H2 => ∃ a ov, x = .ref a ∧ DGet H2 a y ov ∧ ∃ c, V.bl ov.isSome = .bl c ∧ Q c H2) h fun a y ov H' g q => ⟨a, ov, rfl, g, _, rfl, by simpa using q⟩
theorem vt_dnotin (hu : X.A.units + 1 < cLine) (hi : VE X i ta) (ho : VE X o tb) (hm : behindInMarks .NotIn o = false := by rfl) : VT X (.Compare i [.NotIn] [o] pos) (VM.tDIn true ta tb) := pt_imp (pt_cmp (pc_dnotin hu hi ho) hm) fun σ H Q h =>
  tDIn_imp (W := fun y x H2 => ∃ a ov, x = .ref a ∧ DGet H2 a y ov ∧ ∃ c, V.bl (!ov.isSome) = .bl c ∧ Q c H2) h fun a y ov H' g q => ⟨a, ov, rfl, g, _, rfl, by simpa using q⟩
/-- d[i] = e -/
theorem vs_dput {p' : Pos} (hu : X.A.units + 1 < cLine) (he : VE X e te) (ho : VE X o ta) (hi : VE X i tb) (hs : swapsWith e (some (.Subscript o i p')) pos.line X.env = pure false := by rfl) : VSt X (.Assign [.Subscript o i p'] e pos) (VM.sDPut ta tb te) :=
  ps_imp (ps_dput hu ho hi he hs) fun D σ H h => by
    obtain ⟨G, F, μ, ρ, st, DV, l, r, d, hk⟩ := h
    unfold VM.sDPut at d
    rw [hk.xk] at d
    refine bind1 l r d fun w H1 F1 μ1 pw st1 e1 l1 r1 p1 q1 => bind1 l1 r1 q1 fun o H2 F2 μ2 po st2 e2 l2 r2 p2 q2 => bind1 l2 r2 q2 fun i H3 F3 μ3 pi st3 e3 l3 r3 p3 q3 => ?_
    split at q3
    · rename_i j
      obtain ⟨a, ea, rfl⟩ := rep_ref.mp (p2.mono e3)
      split at q3
      · rename_i ks vs ex
        obtain ⟨hkey, hl, q3⟩ := q3
        obtain ⟨kk, rfl, rfl⟩ := key_rep p3 hkey
        obtain ⟨hf, kvs, hH, rfl, rl⟩ := l3.obj j a _ ea ex
        have pr := put_rep (k := kk) ((p1.mono e2).mono e3) rl
        refine ⟨a, _, rfl, DPut.k (v := w) hH (by rw [List.length_map] at hl; rw [sizeLine_eq]; exact hl), hk.nx σ _ F3 μ3 ρ _ ((e1.trans e2).trans e3) (l3.put ea (u := SO.dct _ _) ?_ hf) r3 q3⟩
        exact ⟨hf, _, upd_same, pr.1, pr.2⟩
      · exact q3.elim
    · exact q3.elim
theorem prog_sortedSet {prog : Program} {w : World} {A : Around} {E : Value → Shared → Prop} {s : Shared} {a : Addr} {S : Str → Bool} {n : Nat} {Q : Value → Shared → Prop} (R : SetS prog w s.heap a S n) (hh : A.handled = none) (h64 : n < 64)
    (hQ : ∀ s' p (out : Array Value) (c : Nat) (ys : List Str), (∀ b o, s.heap.get? b = some o → s'.heap.get? b = some o) → s'.gens = s.gens → s'.os = s.os → s.heap.objs.size ≤ p →
      s'.heap.get? p = some (seqObj "list" out c) → StrsAre out.toList ys → sortedS ys = true → ys.Nodup → (∀ k, k ∈ ys ↔ S k = true) → ys.length = n → Q (.ref p) s') :
    wpAny (model prog w) A (call (.builtin "sorted") [.ref a]) Q E s := by
  obtain ⟨o, es, ep, t, ho, hex, hd, g, nd, hm, hb, hf, hn, hr, hl⟩ := R
  refine Calls.call_function_entry kind_sorted plain_sorted entry_sorted (args_sorted1 _) ?_
  unfold Builtin.«sorted»
  refine wpAny_bind (m := checkCount "sorted" 1 1 _) (wpAny_pure ?_)
  refine wpAny_bind (collect_set (A := A.in1) hh ⟨o, ho, hex.1, hd⟩ hf hb hr hl fun s1 vs k1 hz g1 o1 pm => ?_)
  have hvl : vs.length = n := by rw [pm.length_eq, List.length_map, Array.length_toList]; exact hn
  have hI : StrsAre vs (vs.map fun v => keyS (0, v)) := strs_of_good vs fun v hv => by
    obtain ⟨e, he, q⟩ := List.mem_map.mp (pm.mem_iff.mp hv)
    obtain ⟨k, tk, h1, _⟩ := g e he
    exact ⟨k, tk, by rw [← q]; exact h1⟩
  have pk : (vs.map fun v => keyS (0, v)).Perm (es.toList.map keyS) := by
    have q := pm.map fun v => keyS (0, v)
    rw [List.map_map] at q
    exact q
  refine wpAny_bind (wpAny_newList ?_ (by rw [hvl, sizeLine_eq]; omega))
  have hoL : (s1.heap.push (seqObj "list" vs.toArray 0)).get? s1.heap.objs.size = some (seqObj "list" vs.toArray 0) := Heap.get?_push_size _ rfl
  refine wpAny_bind (wpAny_holding (wpAny_call_entry slot_list_sort ⟨_, hoL, rfl⟩ entry_list_sort (list_sort_treeK strKind_oneLt hoL hI.keysOf (fun v₁ v₂ rest e => keyKind_strs (by rw [← e]; exact hI)) (by rw [hvl]; exact h64) fun st' a1 a2 => ⟨_, rfl, ?_⟩) (args_list_sort _)))
  obtain ⟨ys, b1, b2, b3⟩ := sorted_out_str hI a1 a2
  obtain ⟨c, hc⟩ := sortedHeap_at (vs := vs) (out := (arrOf st').map (·.2)) hoL
  have pn : ys.Perm (es.toList.map keyS) := b2.trans pk
  refine wpAny_pure ⟨_, rfl, hQ _ s1.heap.objs.size ((arrOf st').map (·.2)) c ys (fun b u e => ?_) g1 o1 hz hc b1 b3 (pn.nodup_iff.mpr nd) (fun k => by rw [pn.mem_iff, ← hm k]) ?_⟩
  · have q := k1 b u e
    have hlt := Heap.lt_size q
    show (sortedHeap (s1.heap.push (seqObj "list" vs.toArray 0)) s1.heap.objs.size vs ((arrOf st').map (·.2))).get? b = some u
    rw [sortedHeap_old (Nat.ne_of_lt hlt) (by rw [size_push']; exact Nat.lt_succ_of_lt hlt)]
    exact Heap.get?_push_of_some _ q
  · rw [pn.length_eq, List.length_map, Array.length_toList]; exact hn
end
section
variable {X : Cx} {a b c e o i : Expr} {ta tb te : VM.TE} {p p2 p3 q pos : Pos}
theorem nodup_len : ∀ {l l' : List (List Nat)}, l.Nodup → l'.Nodup → (∀ x, x ∈ l ↔ x ∈ l') → l.Perm l' := fun h h' e => (List.perm_ext_iff_of_nodup h h').mpr e
theorem dn_dedup (ss : List (List Nat)) : dn (ss.map toS) (ss.map toS).length = (VM.dedup ss.reverse).length := by
  rw [List.length_map, dn_cnt ss _ (Nat.le_refl _), List.take_length]
  generalize ss.reverse = l
  induction l with
  | nil => rfl
  | cons x xs ih =>
    unfold VM.dcnt VM.dedup
    split
    · exact ih
    · rw [List.length_cons, ih]
theorem boot_sorted' : bootBuiltins "sorted" = some (.builtin "sorted") := by decide +kernel
theorem ve_sortSet (calm : X.calm = true) (hg : Gl X "sorted") (hm : X.mg "sorted" = none) (hg2 : Gl X "set") (hm2 : X.mg "set" = none) (ha : VE X a ta)
    (na : starEach [a] X.env = (false, eval a X.env) :: starEach [] X.env := by rfl) : VE X (.Call (.Name "sorted" p) [.Call (.Name "set" p2) [a] [] q] [] pos) (VM.eSortSet ta) := by
  refine ⟨fun pins s σ H Q I h => ?_⟩
  obtain ⟨G, F, μ, ρ, st, k, l, r, d, hk⟩ := h
  unfold VM.eSortSet at d
  have d2 := bind1 (W := fun v H1 => ∃ b, ∃ ss : List (List Nat), v = .ref b ∧ H1 b = some (.lst ((ss.map toS).map V.str)) ∧ ss.length < 4000 ∧ (VM.dedup ss).length < 64 ∧ ∀ p, H1 p = none → Q (.ref p) (upd H1 p (.lst (((VM.sortS (VM.dedup ss)).map toS).map V.str)))) l r d fun v H1 F1 μ1 px st1 e1 l1 r1 p1 q1 => by
    split at q1
    · rename_i xs ex
      split at q1
      · rename_i ss es
        obtain ⟨b, vs, rfl, hb, rl⟩ := asL_rep l1 p1 ex
        obtain ⟨rfl, oks⟩ := strs_rep es rl
        refine ⟨b, ss, rfl, hb, q1.1, q1.2.1, fun p hp => (hk.mono e1).lst l1 (repL_strs fun s m => oks s (dedup_mem.mp ((sortS_perm _).mem_iff.mp m))) q1.2.2 p hp⟩
      · exact q1.elim
    · exact q1.elim
  refine Call_ (ld_blt I hg hm boot_sorted' (PyProof.Rows.callWith_builtin1 (PyProof.Rows.args_cons ?_ rfl) rfl rfl))
  refine Call_ (ld_blt I hg2 hm2 PyProof.Rows.boot_set ?_)
  refine PyProof.Rows.callWith_type1 (PyProof.Rows.args_cons (thn (ha.run pins s σ H _ I d2) fun v s1 ⟨x, H1, I1, r1, b, ss, ex, hb, room, few, q1⟩ => PyProof.Rows.args_nil ?_) na) na rfl
  subst ex
  cases r1
  obtain ⟨its, rr, pl, hz⟩ := I1.list (.inl (.inl hb))
  refine set_textsS (I1.ok.hd calm) pl.isList (by simpa using strs_of rr) (by rw [List.length_map]; exact room) fun h2 tk hd keep => ?_
  refine PyProof.Rows.args_nil ?_
  have I2 : Inv X pins σ H1 { s1 with heap := h2, toks := tk } := I1.kept fun b o e => keep b o (Heap.lt_size e) e
  have pd : (VM.dedup ss.reverse).Perm (VM.dedup ss) := nodup_len (dedup_nd _) (dedup_nd _) fun x => by rw [dedup_mem, dedup_mem, List.mem_reverse]
  refine prog_sortedSet (n := dn (ss.map toS) (ss.map toS).length) hd (I2.ok.hd calm) (by rw [dn_dedup, pd.length_eq]; exact few) fun s' pp out c ys kk g oo hp hgt hS hs nd hmem hlen => ?_
  have mem : ∀ k, k ∈ ys ↔ k ∈ (VM.dedup ss).map toS := fun k => by
    rw [hmem k]
    have : ((ss.map toS).take (ss.map toS).length).any (· == k) = true ↔ k ∈ ss.map toS := by
      rw [List.take_length, List.any_eq_true]
      exact ⟨fun ⟨z, m, e⟩ => beq_iff_eq.mp e ▸ m, fun m => ⟨k, m, beq_iff_eq.mpr rfl⟩⟩
    rw [this, List.mem_map, List.mem_map]
    exact ⟨fun ⟨z, m, e⟩ => ⟨z, dedup_mem.mpr m, e⟩, fun ⟨z, m, e⟩ => ⟨z, dedup_mem.mp m, e⟩⟩
  have ndm : ((VM.dedup ss).map toS).Nodup := by
    have := dedup_nd ss
    exact List.Pairwise.map toS (fun a b h z => h (toS_inj.mp z)) this
  have pm : ys.Perm ((VM.dedup ss).map toS) := (List.perm_ext_iff_of_nodup nd ndm).mpr mem
  have ey := sorted_same pm hs
  subst ey
  have hl2 : (((VM.sortS (VM.dedup ss)).map toS).map V.str).length ≤ sizeLine := by
    rw [List.length_map, List.length_map, (sortS_perm _).length_eq, sizeLine_eq]
    omega
  have hn : H1 pp = none := I2.hok.fresh hp
  have J : Inv X pins σ (upd H1 pp (.lst (((VM.sortS (VM.dedup ss)).map toS).map V.str))) { heap := s'.heap, gens := s'.gens, drawn := s'.drawn, toks := s'.toks, os := s1.os } :=
    Inv.call (s := { heap := h2, gens := s1.gens, drawn := s1.drawn, toks := tk, os := s1.os }) I2 (ch := []) (Un.laid kk hp hn) (I2.hok.laid kk hp ⟨hl2, out.toList, c, vals_of_strs hS, hgt⟩) (by rw [g]; exact I2.bare) (fun _ z => nomatch z)
  have e : s' = { heap := s'.heap, gens := s'.gens, drawn := s'.drawn, toks := s'.toks, os := s1.os } := by
    cases s'
    cases oo
    rfl
  rw [e]
  exact ⟨.ref pp, _, J, rfl, q1 pp hn⟩
end
end VS
end
section
namespace VS
open PySem PySem.Spec PyProof.Rows L2
open VM (PV SO Store)
section
variable {prog : Program} {w : World} {A : Around} {E : Value → Shared → Prop} {s : Shared}
set_option maxHeartbeats 3200000 in
theorem set_textsT {l : Addr} {its : Array Value} {ys : List Str} {Q : Value → Shared → Prop} (calm : A.handled = none) (li : s.heap.IsTuple l its) (are : PyProof.Rows.StrsAre its.toList ys) (room : ys.length < 4000)
    (fin : ∀ (h2 : Heap) (tk : Nat), SetS prog w h2 s.heap.objs.size (fun z => (ys.take ys.length).any (· == z)) (dn ys ys.length) → (∀ b o, b < s.heap.objs.size → s.heap.get? b = some o → h2.get? b = some o) → Q (.ref s.heap.objs.size) { s with heap := h2, toks := tk }) :
    wpAny (model prog w) A (call (.type "set") [.ref l]) Q E s := by
  have ⟨c0, tl0, mro0⟩ := PySem.F.called_set.mro
  have made0 := PySem.F.called_set.made; have sub0 := PySem.F.called_set.sub
  refine wpAny_call (codeAny_of_tree (by
    show wpAny _ _ (callAny (.type "set") _) _ _ _
    refine wpAny_pure ⟨Code.quiet_builtin _ (by decide +kernel), codeAny_builtin PySem.F.entry_type_call ?_⟩
    rw [Around.under_plain (weight_type_call_type "set" [.ref l] []) rfl]
    have nt0 := PySem.F.called_set.notType; have cc0 := PySem.F.called_set.canCreate; have tc0 := PySem.F.typeCall_set_1 (.ref l)
    repeat (any_goals (first | assumption | wp_step))
    refine codeAny_mono (code_set_led1 (.ref l) (E := E) (Q₁ := fun v s2 => v = .ref s.heap.objs.size ∧ s2 = { s with heap := s.heap.push (setL w) }) ⟨rfl, rfl⟩) fun r s2 hr => ?_
    match r, hr with
    | .error e, hr => exact hr
    | .ok (.ret v), ⟨e1, e2⟩ =>
      subst e1 e2
      have at0 : (s.heap.push (setL w)).get? s.heap.objs.size = some (setL w) := Heap.get?_push_size _ rfl
      have ty0 : Shared.TypeIs { s with heap := s.heap.push (setL w) } (.ref s.heap.objs.size) "set" := ⟨_, at0, rfl⟩
      have lk0 := PySem.F.called_set.init.lookup; have bi0 := PySem.F.called_set.init.bind (.ref s.heap.objs.size)
      repeat (any_goals (first | assumption | wp_step))
      refine codeAny_mono (codeAny_call_builtin (R := wants (FullS prog w s ys) E) PySem.F.called_set.init.plain PySem.F.entry_set_init (check_set_init_1 ty0 ?_)) fun r2 s3 hr2 => ?_
      · have ⟨ol, gl, cl, nl, dl⟩ := li
        obtain ⟨oc, od, oda, osl⟩ := ol
        simp only at cl dl
        subst cl dl
        have gl2 : (s.heap.push (setL w)).get? l = some { cls := .type "tuple", dict := od, data := .seq its nl, slots := osl } := Heap.get?_push_of_some _ gl
        have ss0 := PySem.F.sub_tuple_set; have sf0 := PySem.F.sub_tuple_frozenset
        have nd0 : (Value.type "tuple" == Value.type "dict") = false := by decide
        have li2 : (s.heap.push (setL w)).IsTuple l its := ⟨_, gl2, rfl, nl, rfl⟩
        unfold Builtin.«set.__init__» noKeywords Builtin.Frozenset.updateFrom
        generalize ePI : pyIter = PI
        wp_walk
        subst ePI
        refine wpAny_pyIter_tuple li2 (wpAny_bind (wpAny_runValue ?_))
        have lS : l < s.heap.objs.size := Heap.lt_size gl
        have nI : l ≠ (s.heap.push (setL w)).objs.size := by
          rw [Heap.size_push]
          exact Nat.ne_of_lt (Nat.lt_succ_of_lt lS)
        have offS : s.heap.objs.size ∉ [(s.heap.push (setL w)).objs.size, l] := by
          rw [Heap.size_push]
          simp only [List.mem_cons, List.not_mem_nil, or_false, not_or]
          exact ⟨Nat.ne_of_lt (Nat.lt_succ_self _), Nat.ne_of_gt lS⟩
        have szz : ys.length = its.size := by rw [← StrsAre.len_eq are, Array.length_toList]
        refine fill_setS ((Walks.tuple (by simp [calm]) _ l nI its).toS) s.heap.objs.size offS ys szz (szz ▸ room) (fun j u hu => SS.strs_at are j u (by rw [Array.getElem?_toList]; exact hu)) (its.size - 0) 0 _ (by omega) (Nat.zero_le _)
          ⟨⟨_, Heap.get?_push_size _ rfl, rfl, rfl⟩, (li2.push _)⟩ ?e0 ?eR
        case e0 =>
          exact ((setS_fresh (prog := prog) (w := w) (h := s.heap)).at (h' := (s.heap.push (setL w)).push _) fun o e => Heap.get?_push_of_some _ e).congr (fun _ => rfl) rfl
        case eR =>
          rintro ⟨h2, g2, d2, tk2, os2⟩ mv hd
          have eg : g2 = s.gens := mv.gens
          have ed : d2 = s.drawn := mv.drawn
          have eo : os2 = s.os := mv.os
          subst eg ed eo
          show wpAny _ _ _ _ _ _
          refine wpAny_pure ?_
          show wpAny _ _ (ret Value.none) _ _ _
          refine wpAny_pure ⟨rfl, h2, tk2, rfl, by rw [szz]; exact hd, fun b o lb e => mv.heap b o ?_ (Heap.get?_push_of_some _ (Heap.get?_push_of_some _ e))⟩
          rw [Heap.size_push]
          simp only [List.mem_cons, List.not_mem_nil, or_false, not_or]
          exact ⟨Nat.ne_of_lt lb, Nat.ne_of_lt (Nat.lt_succ_of_lt lb)⟩
      · match r2, hr2 with
        | .error e, hr2 => exact hr2
        | .ok (.ret v2), ⟨e3, h2, tk, e4, hd, hk⟩ =>
          subst e3 e4
          repeat (any_goals (first | assumption | wp_step))
          exact fin _ _ hd hk
    | .ok .next, hr => exact hr.elim))
end
section
variable {X : Cx} {a : Expr} {ta : VM.TE} {p p2 q pos : Pos}
theorem ve_lenSetT (calm : X.calm = true) (hg : Gl X "len") (hm : X.mg "len" = none) (hg2 : Gl X "set") (hm2 : X.mg "set" = none) (ha : VE X a ta)
    (na : starEach [a] X.env = (false, eval a X.env) :: starEach [] X.env := by rfl) : VE X (.Call (.Name "len" p) [.Call (.Name "set" p2) [a] [] q] [] pos) (VM.eLenSetT ta) := by
  refine ⟨fun pins s σ H Q I h => ?_⟩
  obtain ⟨G, F, μ, ρ, st, k, l, r, d, hk⟩ := h
  unfold VM.eLenSetT at d
  have d2 := bind1 (W := fun v H1 => ∃ b, ∃ ys : List Str, v = .ref b ∧ SqT X.K H1 b (ys.map V.str) ∧ ys.length < 4000 ∧ Q (.int (dn ys ys.length)) H1) l r d fun v H1 F1 μ1 px st1 e1 l1 r1 p1 q1 => by
    split at q1
    · rename_i xs
      split at q1
      · rename_i ss es
        obtain ⟨b, vs, rfl, hb, rl⟩ := rep_tup.mp p1
        obtain ⟨rfl, _⟩ := strs_rep es rl
        refine ⟨b, ss.map toS, rfl, l1.same.seqT hb, by rw [List.length_map]; exact q1.1, ?_⟩
        rw [List.length_map, dn_cnt ss _ (Nat.le_refl _), List.take_length]
        exact hk _ _ _ _ _ _ e1 l1 (rep_int.mpr rfl) q1.2
      · exact q1.elim
    · exact q1.elim
  refine Call_ (ld_blt I hg hm boot_len (PyProof.Rows.callWith_builtin1 (PyProof.Rows.args_cons ?_ rfl) rfl rfl))
  refine Call_ (ld_blt I hg2 hm2 PyProof.Rows.boot_set ?_)
  refine PyProof.Rows.callWith_type1 (PyProof.Rows.args_cons (thn (ha.run pins s σ H _ I d2) fun v s1 ⟨x, H1, I1, r1, b, ys, ex, hb, room, q1⟩ => PyProof.Rows.args_nil ?_) na) na rfl
  subst ex
  cases r1
  obtain ⟨its, rr, pl, hz⟩ := I1.tuple hb
  refine set_textsT (I1.ok.hd calm) pl (by simpa using strs_of rr) room fun h2 tk hd keep => ?_
  refine PyProof.Rows.args_nil ?_
  obtain ⟨o, es, ep, t, ho, hex, hdd, _, _, _, _, hf, hn, _⟩ := hd
  have I2 : Inv X pins σ H1 { s1 with heap := h2, toks := tk } := I1.kept fun b o e => keep b o (Heap.lt_size e) e
  have hle := dn_le ys ys.length
  exact call_len_set ho hex hdd hf (by rw [hn]; omega) ⟨.int (dn ys ys.length), H1, I2.tok _, ⟨_, by rw [hn]⟩, q1⟩
end

theorem _root_.L2.Room.units1 {k : Nat} {A : Around} (r : L2.Room k A) : A.units + 1 < cLine := by have := r.un; omega
end VS
end
section
namespace VM
def iRevR1 (a : TE) : TI := fun ρ st k x => a ρ st (fun u st => match u with
  | .int n => i62 n ∧ k (((List.range n.toNat).map fun (i : Nat) => PV.int (i : Int)).reverse) (fun _ => True) st
  | _ => False) x
def maxI : List Int → Int
  | [] => 0
  | a :: r => r.foldl (fun m x => if m < x then x else m) a
def fMaxL (u : PV) (st : Store) (k : KV) : Prop := match asL st u with
  | some xs => (match allInt xs with | some ns => 0 < ns.length ∧ k (.int (maxI ns)) st | none => False)
  | none => False
end VM
end
namespace VP
open VM
def T_law_k24 (cs : CS) : TS :=
  (sCons (sSet (gName 1) (eCall cs 0 (aCons (eVar 0) aNil)))
    (sCons (sFor (iRange1 (eC (.int 4))) (gName 2)
    (sCons (sSet (gName 3) (eCall cs 63 (aCons (eCall cs 62 (aCons (eVar 1) (aCons (eC (.int 6)) aNil))) aNil)))
    (sCons (sSet (gName 4) (eCall cs 64 (aCons (eVar 1) (aCons (eB1 fLen (eVar 3)) aNil))))
    (sCons (sPar [5, 6] (aCons (eB1 fList (eVar 3)) (aCons (eB1 fList (eVar 4)) aNil)))
    (sCons (sSet (gName 7) (eCall cs 73 (aCons (eVar 5) (aCons (eVar 6) aNil))))
    (sCons (sIf (tOr (tCmp .ne (eVar 5) (eVar 3)) (tOr (tCmp .ne (eVar 6) (eVar 4)) (tOr (tNot (tOf (eB1 (fIsi [.list]) (eVar 7)))) (tCmp .ne (eB1 fLen (eVar 7)) (eB1 fLen (eVar 3))))))
    (sRet (eC (.bl false)))
    sNil)
    (sCons (sIf (tNot (tOf (eCall cs 16 (aCons (eCall cs 73 (aCons (eB1 fTuple (eVar 3)) (aCons (eB1 fTuple (eVar 4)) aNil))) (aCons (eVar 7) aNil)))))
    (sRet (eC (.bl false)))
    sNil)
    (sCons (sFor (iRange1 (eB1 fLen (eVar 3))) (gName 8)
    (sCons (sIf (tOr (tNot (tOf (eB1 (fIsi [.tuple]) (eIx (eVar 7) (eVar 8))))) (tCmp .ne (eSl (eIx (eVar 7) (eVar 8)) none (some (eB1 fLen (eIx (eVar 3) (eVar 8))))) (eIx (eVar 3) (eVar 8))))
    (sRet (eC (.bl false)))
    sNil)
    (sCons (sSet (gName 9) (eB1 fList (eSl (eIx (eVar 7) (eVar 8)) (some (eB1 fLen (eIx (eVar 3) (eVar 8)))) none)))
    (sCons (sIf (tOr (tCmp .ne (eVar 9) (eSorted (eVar 9))) (tOr (tCmp .ne (eComp (iE (eVar 9)) (gName 10) (tCmp .isin (eVar 10) (eIx (eVar 3) (eVar 8))) (eVar 10) [10]) (eLst aNil)) (tCmp .ne (eLenSet (eVar 9)) (eB1 fLen (eVar 9)))))
    (sRet (eC (.bl false)))
    sNil)
    (sFor (iE (eVar 9)) (gName 10)
    (sCons (sSet (gName 11) (eBin .add (eBin .add (eSl (eVar 7) none (some (eVar 8))) (eLst (aCons (eB1 fTuple (eComp (iE (eIx (eVar 7) (eVar 8))) (gName 12) (tCmp .ne (eVar 12) (eVar 10)) (eVar 12) [12])) aNil))) (eSl (eVar 7) (some (eBin .add (eVar 8) (eC (.int 1)))) none)))
    (sIf (tCmp .notin (eVar 10) (eCall cs 77 (aCons (eVar 11) (aCons (eVar 4) aNil))))
    (sRet (eC (.bl false)))
    sNil)))))))
    (sCons (sIf (tOr (tNot (tOf (eCall cs 79 (aCons (eVar 7) (aCons (eVar 4) aNil))))) (tAnd (tOf (eCall cs 79 (aCons (eVar 3) (aCons (eVar 4) aNil)))) (tCmp .ne (eVar 7) (eVar 3))))
    (sRet (eC (.bl false)))
    sNil)
    (sIf (tCmp .ne (eCall cs 74 (aCons (eVar 7) aNil)) (eCall cs 74 (aCons (eVar 3) aNil)))
    (sRet (eC (.bl false)))
    sNil))))))))))
    (sRet (eC (.bl true)))))
def T__law_bag (cs : CS) : TS :=
  (sCons (sSet (gName 1) (eComp (iE (eSl (eVar 0) none (some (eC (.int 63))))) (gName 2) tYes (eB1 fInt (eVar 2)) [2]))
    (sCons (sSet (gName 3) (eBin .add (eC (.int 120170)) (eBin .mul (eC (.int 83)) (eB1 fLen (eVar 1)))))
    (sCons (sFor (iE (eVar 1)) (gName 2)
    (sSet (gName 3) (eBin .mod (eB1 fInt (eBin .add (eBin .mul (eVar 3) (eC (.int 6863))) (eVar 2))) (eC (.int 2147483549)))))
    (sRet (eLstM (aCons (eVar 1) (aCons (eC (.int 0)) (aCons (eC (.int 0)) (aCons (eVar 3) (aCons (eC (.int 0)) aNil))))))))))
def T__law_take (cs : CS) : TS :=
  (sCons (sSetIx (eVar 0) (eC (.int 4)) (eBin .add (eIx (eVar 0) (eC (.int 4))) (eC (.int 1))))
    (sCons (sIf (tAnd (tCmp .lt (eIx (eVar 0) (eC (.int 2))) (eC (.int 2))) (tCmp .lt (eIx (eVar 0) (eC (.int 1))) (eB1 fLen (eIx (eVar 0) (eC (.int 0))))))
    (sCons (sSet (gName 2) (eIx (eIx (eVar 0) (eC (.int 0))) (eIx (eVar 0) (eC (.int 1)))))
    (sCons (sSetIx (eVar 0) (eC (.int 1)) (eBin .add (eIx (eVar 0) (eC (.int 1))) (eC (.int 1))))
    (sCons (sSetIx (eVar 0) (eC (.int 3)) (eBin .mod (eB1 fInt (eBin .add (eBin .add (eBin .mul (eIx (eVar 0) (eC (.int 3))) (eC (.int 40063))) (eBin .mul (eBin .mod (eB1 fInt (eVar 2)) (eC (.int 2147483497))) (eC (.int 61)))) (eIx (eVar 0) (eC (.int 1))))) (eC (.int 2147483549))))
    (sSetIx (eVar 0) (eC (.int 2)) (eIf (tCmp .ge (eVar 2) (eBin .pow (eC (.int 10)) (eC (.int 18)))) (eVar 2) (eC (.int 0)))))))
    sNil)
    (sCons (sIf (tCmp .gt (eIx (eVar 0) (eC (.int 2))) (eC (.int 1)))
    (sCons (sSet (gName 3) (eBin .mod (eB1 fInt (eIx (eVar 0) (eC (.int 2)))) (eVar 1)))
    (sCons (sSetIx (eVar 0) (eC (.int 2)) (eBin .fdiv (eIx (eVar 0) (eC (.int 2))) (eVar 1)))
    (sRet (eVar 3))))
    sNil)
    (sCons (sSet (gName 4) (eBin .mod (eB1 fInt (eBin .add (eIx (eVar 0) (eC (.int 3))) (eBin .mul (eIx (eVar 0) (eC (.int 4))) (eC (.int 9547))))) (eC (.int 2147483549))))
    (sCons (sSetIx (eVar 0) (eC (.int 3)) (eBin .mod (eB1 fInt (eBin .add (eBin .add (eBin .mul (eVar 4) (eVar 4)) (eBin .mul (eVar 4) (eC (.int 33757)))) (eC (.int 90263)))) (eC (.int 2147483549))))
    (sRet (eBin .mod (eB1 fInt (eBin .add (eBin .fdiv (eIx (eVar 0) (eC (.int 3))) (eC (.int 71))) (eBin .mul (eBin .mod (eB1 fInt (eIx (eVar 0) (eC (.int 3)))) (eC (.int 7877))) (eC (.int 191))))) (eVar 1))))))))
def T__law_of (cs : CS) : TS :=
  (sRet (eIx (eVar 1) (eCall cs 1 (aCons (eVar 0) (aCons (eB1 fLen (eVar 1)) aNil)))))
def T__law_names (cs : CS) : TS :=
  (sCons (sSet (gName 2) (eC (.str [97, 98, 99, 100, 101, 102, 103, 104, 105, 106, 107, 108, 109, 110, 112, 113, 114, 115, 116, 117, 118, 119, 120, 121, 122])))
    (sCons (sSet (gName 3) (eJoin (eC (.str [])) (eComp (iRange1 (eCall cs 1 (aCons (eVar 0) (aCons (eC (.int 6)) aNil)))) (gName 4) tYes (eCall cs 2 (aCons (eVar 0) (aCons (eVar 2) aNil))) [4])))
    (sCons (sSet (gTup [(gName 5), (gName 6)]) (eTup (aCons (eCall cs 1 (aCons (eVar 0) (aCons (eBin .add (eB1 fLen (eVar 3)) (eC (.int 1))) aNil))) (aCons (eCall cs 1 (aCons (eVar 0) (aCons (eC (.int 25)) aNil))) aNil))))
    (sCons (sSet (gName 7) (eCall cs 2 (aCons (eVar 0) (aCons (eLst (aCons (eC (.int 1)) (aCons (eC (.int 2)) (aCons (eC (.int 3)) (aCons (eC (.int 4)) (aCons (eC (.int 6)) (aCons (eC (.int 7)) (aCons (eC (.int 8)) (aCons (eC (.int 9)) (aCons (eC (.int 11)) (aCons (eC (.int 12)) aNil))))))))))) aNil))))
    (sRet (eComp (iRange1 (eVar 1)) (gName 4) tYes (eBin .add (eBin .add (eSl (eVar 3) none (some (eVar 5))) (eIx (eVar 2) (eBin .mod (eB1 fInt (eBin .add (eVar 6) (eBin .mul (eVar 4) (eVar 7)))) (eC (.int 25))))) (eSl (eVar 3) (some (eVar 5)) none)) [4]))))))
def T__law_mixed (cs : CS) : TS :=
  (sCons (sSet (gName 2) (eLstM aNil))
    (sCons (sFor (iE (eVar 1)) (gName 3)
    (sExpr (eInsert (eVar 2) (eCall cs 1 (aCons (eVar 0) (aCons (eBin .add (eB1 fLen (eVar 2)) (eC (.int 1))) aNil))) (eVar 3))))
    (sRet (eVar 2))))
def T__law_faces (cs : CS) : TS :=
  (sCons (sPar [4, 5, 6] (aCons (eLstM aNil) (aCons (eLstM aNil) (aCons (eB1 fListM (eVar 2)) aNil))))
    (sCons (sFor (iRange1 (eVar 1)) (gName 7)
    (sCons (sSet (gName 8) (eLstM aNil))
    (sCons (sIf (tCmp .gt (eVar 7) (eC (.int 0)))
    (sCons (sSet (gName 9) (eCall cs 1 (aCons (eVar 0) (aCons (eVar 7) aNil))))
    (sCons (sExpr (eAppend (eVar 5) (eTup (aCons (eVar 9) (aCons (eVar 7) aNil)))))
    (sSet (gName 8) (eSlM (eCall cs 17 (aCons (eVar 0) (aCons (eIx (eVar 4) (eVar 9)) aNil))) none (some (eCall cs 1 (aCons (eVar 0) (aCons (eBin .add (eMin2 (eB1 fLen (eIx (eVar 4) (eVar 9))) (eVar 3)) (eC (.int 1))) aNil))))))))
    sNil)
    (sCons (sWhile (tAnd (tCmp .ne (eVar 6) (eLst aNil)) (tAnd (tCmp .lt (eB1 fLen (eVar 8)) (eVar 3)) (tCmp .lt (eCall cs 1 (aCons (eVar 0) (aCons (eC (.int 5)) aNil))) (eIf (tCmp .eq (eVar 8) (eLst aNil)) (eC (.int 4)) (eC (.int 2))))))
    (sExpr (eAppend (eVar 8) (ePop (eVar 6)))))
    (sExpr (eAppend (eVar 4) (eCall cs 17 (aCons (eVar 0) (aCons (eVar 8) aNil)))))))))
    (sRet (eTup (aCons (eVar 4) (aCons (eVar 5) aNil))))))
def T__law_family (cs : CS) : TS :=
  (sCons (sSet (gName 2) (eCall cs 17 (aCons (eVar 0) (aCons (eCall cs 46 (aCons (eVar 0) (aCons (eC (.int 8)) aNil))) aNil))))
    (sCons (sSet (gName 3) (eCall cs 1 (aCons (eVar 0) (aCons (eC (.int 5)) aNil))))
    (sCons (sIf (tCmp .lt (eVar 3) (eC (.int 2)))
    (sRet (eIx (eCall cs 61 (aCons (eVar 0) (aCons (eBin .add (eC (.int 1)) (eCall cs 1 (aCons (eVar 0) (aCons (eVar 1) aNil)))) (aCons (eVar 2) (aCons (eC (.int 5)) aNil))))) (eC (.int 0))))
    sNil)
    (sCons (sSet (gName 4) (eLstM aNil))
    (sCons (sIf (tCmp .eq (eVar 3) (eC (.int 2)))
    (sCons (sSet (gName 5) (eBin .add (eC (.int 4)) (eCall cs 1 (aCons (eVar 0) (aCons (eC (.int 3)) aNil)))))
    (sSet (gName 4) (eCompM (iRange1 (eVar 5)) (gName 6) tYes (eLst (aCons (eIx (eVar 2) (eVar 6)) (aCons (eIx (eVar 2) (eBin .mod (eB1 fInt (eBin .add (eVar 6) (eC (.int 1)))) (eVar 5))) aNil))) [6])))
    (sIf (tCmp .eq (eVar 3) (eC (.int 3)))
    (sCons (sSet (gName 5) (eBin .add (eC (.int 3)) (eCall cs 1 (aCons (eVar 0) (aCons (eC (.int 3)) aNil)))))
    (sSet (gName 4) (eCompM (iRange1 (eVar 5)) (gName 6) tYes (eBin .add (eSl (eVar 2) none (some (eVar 6))) (eSl (eVar 2) (some (eBin .add (eVar 6) (eC (.int 1)))) (some (eVar 5)))) [6])))
    (sSet (gName 4) (eCompM (iRange1 (eBin .add (eC (.int 1)) (eCall cs 1 (aCons (eVar 0) (aCons (eC (.int 6)) aNil))))) (gName 6) tYes (eSl (eCall cs 17 (aCons (eVar 0) (aCons (eSl (eVar 2) none (some (eBin .add (eC (.int 4)) (eCall cs 1 (aCons (eVar 0) (aCons (eC (.int 3)) aNil)))))) aNil))) none (some (eCall cs 1 (aCons (eVar 0) (aCons (eC (.int 4)) aNil))))) [6]))))
    (sCons (sSet (gName 7) (eSl (eVar 2) (some (eC (.int 6))) none))
    (sCons (sFor (iRange1 (eCall cs 1 (aCons (eVar 0) (aCons (eC (.int 3)) aNil)))) (gName 6)
    (sCons (sSet (gName 8) (eCall cs 1 (aCons (eVar 0) (aCons (eB1 fLen (eVar 4)) aNil))))
    (sCons (sSet (gName 9) (eCall cs 2 (aCons (eVar 0) (aCons (eVar 7) aNil))))
    (sIf (tCmp .notin (eVar 9) (eIx (eVar 4) (eVar 8)))
    (sSetIx (eVar 4) (eVar 8) (eBin .add (eIx (eVar 4) (eVar 8)) (eLst (aCons (eVar 9) aNil))))
    sNil))))
    (sCons (sIf (tCmp .eq (eCall cs 1 (aCons (eVar 0) (aCons (eC (.int 3)) aNil))) (eC (.int 0)))
    (sSet (gName 4) (eBin .add (eVar 4) (eLst (aCons (eSl (eCall cs 2 (aCons (eVar 0) (aCons (eVar 4) aNil))) none (some (eCall cs 1 (aCons (eVar 0) (aCons (eC (.int 3)) aNil))))) aNil))))
    sNil)
    (sRet (eCall cs 17 (aCons (eVar 0) (aCons (eComp (iE (eVar 4)) (gName 10) tYes (eCall cs 17 (aCons (eVar 0) (aCons (eVar 10) aNil))) [10]) aNil))))))))))))
def T__law_tuples (cs : CS) : TS :=
  (sRet (eComp (iE (eVar 0)) (gName 1) tYes (eB1 fTuple (eVar 1)) [1]))
def T__law_drawn_ties (cs : CS) : TS :=
  (sCons (sSet (gName 2) (eCall cs 17 (aCons (eVar 0) (aCons (eRangeL (eVar 1)) aNil))))
    (sCons (sSet (gName 3) (eLstM aNil))
    (sCons (sFor (iRange2 (eC (.int 1)) (eVar 1)) (gName 4)
    (sCons (sPar [5, 6] (aCons (eIx (eVar 2) (eVar 4)) (aCons (eIx (eVar 2) (eCall cs 1 (aCons (eVar 0) (aCons (eVar 4) aNil)))) aNil)))
    (sExpr (eAppend (eVar 3) (eIf (tCmp .eq (eCall cs 1 (aCons (eVar 0) (aCons (eC (.int 2)) aNil))) (eC (.int 0))) (eTup (aCons (eVar 5) (aCons (eVar 6) aNil))) (eTup (aCons (eVar 6) (aCons (eVar 5) aNil))))))))
    (sRet (eCall cs 17 (aCons (eVar 0) (aCons (eVar 3) aNil)))))))
def T_is_name (cs : CS) : TS :=
  (sCons (sIf (tOr (tNot (tOf (eB1 (fIsi [.str]) (eVar 0)))) (tNot (tChain .le .le (eC (.int 1)) (eB1 fLen (eVar 0)) (eC (.int 6)))))
    (sRet (eC (.bl false)))
    sNil)
    (sRet (eB1 fAll (eComp (iE (eVar 0)) (gName 1) tYes (eCmp .isin (eVar 1) (eC (.str [97, 98, 99, 100, 101, 102, 103, 104, 105, 106, 107, 108, 109, 110, 111, 112, 113, 114, 115, 116, 117, 118, 119, 120, 121, 122]))) [1]))))
def T_is_face (cs : CS) : TS :=
  (sCons (sIf (tOr (tNot (tOf (eB1 (fIsi [.tuple]) (eVar 0)))) (tCmp .gt (eB1 fLen (eVar 0)) (eVar 1)))
    (sRet (eC (.bl false)))
    sNil)
    (sRet (eAnd (eB1 fAll (eComp (iE (eVar 0)) (gName 2) tYes (eCall cs 41 (aCons (eVar 2) aNil)) [2])) (eCmp .eq (eLenSetT (eVar 0)) (eB1 fLen (eVar 0))))))
def T_check_family (cs : CS) : TS :=
  (sCons (sIf (tOr (tNot (tOf (eB1 (fIsi [.list, .tuple]) (eVar 0)))) (tNot (tChain .le .le (eC (.int 1)) (eB1 fLen (eVar 0)) (eC (.int 12)))))
    sNever
    sNil)
    (sFor (iRange1 (eB1 fLen (eVar 0))) (gName 1)
    (sIf (tNot (tOf (eCall cs 65 (aCons (eIx (eVar 0) (eVar 1)) (aCons (eC (.int 8)) aNil)))))
    sNever
    sNil)))
def T_is_integer (cs : CS) : TS :=
  (sRet (eAnd (eB1 (fIsi [.int]) (eVar 0)) (eAnd (eNot (eB1 (fIsi [.bool]) (eVar 0))) (eChain .le .le (eVar 1) (eVar 0) (eVar 2)))))
def T_is_tie (cs : CS) : TS :=
  (sCons (sIf (tOr (tNot (tOf (eB1 (fIsi [.tuple]) (eVar 0)))) (tCmp .ne (eB1 fLen (eVar 0)) (eC (.int 2))))
    (sRet (eC (.bl false)))
    sNil)
    (sRet (eAnd (eB1 fAll (eComp (iE (eVar 0)) (gName 2) tYes (eCall cs 45 (aCons (eVar 2) (aCons (eC (.int 0)) (aCons (eBin .sub (eVar 1) (eC (.int 1))) aNil)))) [2])) (eCmp .ne (eIx (eVar 0) (eC (.int 0))) (eIx (eVar 0) (eC (.int 1)))))))
def T_linked (cs : CS) : TS :=
  (sCons (sSet (gName 2) (eB1 fList (eSl (eVar 0) none (some (eC (.int 1))))))
    (sCons (sFor (iRange1 (eB1 fLen (eVar 0))) (gName 3)
    (sFor (iE (eVar 1)) (gTup [(gName 4), (gName 5)])
    (sIf (tAnd (tCmp .isin (eVar 4) (eVar 0)) (tCmp .isin (eVar 5) (eVar 0)))
    (sCons (sIf (tAnd (tCmp .isin (eVar 4) (eVar 2)) (tCmp .notin (eVar 5) (eVar 2)))
    (sSet (gName 2) (eBin .add (eVar 2) (eLst (aCons (eVar 5) aNil))))
    sNil)
    (sIf (tAnd (tCmp .isin (eVar 5) (eVar 2)) (tCmp .notin (eVar 4) (eVar 2)))
    (sSet (gName 2) (eBin .add (eVar 2) (eLst (aCons (eVar 4) aNil))))
    sNil))
    sNil)))
    (sRet (eVar 2))))
def T_is_one_tree (cs : CS) : TS :=
  (sRet (eAnd (eCmp .eq (eB1 fLen (eVar 1)) (eBin .sub (eVar 0) (eC (.int 1)))) (eCmp .eq (eB1 fLen (eCall cs 68 (aCons (eRangeL (eVar 0)) (aCons (eVar 1) aNil)))) (eVar 0))))
def T_all_names (cs : CS) : TS :=
  (sRet (eSortSet (eComp2 (iE (eVar 0)) (gName 1) tYes (iE (eVar 1)) (gName 2) tYes (eVar 2) [1, 2] [2])))
def T_holders (cs : CS) : TS :=
  (sRet (eComp (iRange1 (eB1 fLen (eVar 0))) (gName 2) (tCmp .isin (eVar 1) (eIx (eVar 0) (eVar 2))) (eVar 2) [2]))
def T_path (cs : CS) : TS :=
  (sCons (sSet (gName 4) (eDict1M (eVar 2) (eVar 2)))
    (sCons (sFor (iRange1 (eVar 1)) (gName 5)
    (sFor (iE (eVar 0)) (gTup [(gName 6), (gName 7)])
    (sCons (sIf (tAnd (tDIn false (eVar 6) (eVar 4)) (tDIn true (eVar 7) (eVar 4)))
    (sDPut (eVar 4) (eVar 7) (eVar 6))
    sNil)
    (sIf (tAnd (tDIn false (eVar 7) (eVar 4)) (tDIn true (eVar 6) (eVar 4)))
    (sDPut (eVar 4) (eVar 6) (eVar 7))
    sNil))))
    (sCons (sSet (gName 8) (eLst (aCons (eVar 3) aNil)))
    (sCons (sWhile (tCmp .ne (eIx (eVar 8) (eNeg (eC (.int 1)))) (eVar 2))
    (sSet (gName 8) (eBin .add (eVar 8) (eLst (aCons (eDGet (eVar 4) (eIx (eVar 8) (eNeg (eC (.int 1))))) aNil)))))
    (sRet (eVar 8))))))
def T_carried (cs : CS) : TS :=
  (sCons (sExpr (eCall cs 66 (aCons (eVar 0) aNil)))
    (sCons (sIf (tNot (tOf (eB1 (fIsi [.list, .tuple]) (eVar 1))))
    sNever
    sNil)
    (sCons (sFor (iRange1 (eB1 fLen (eVar 1))) (gName 2)
    (sIf (tNot (tOf (eCall cs 67 (aCons (eIx (eVar 1) (eVar 2)) (aCons (eB1 fLen (eVar 0)) aNil)))))
    sNever
    sNil))
    (sCons (sIf (tNot (tOf (eCall cs 69 (aCons (eB1 fLen (eVar 0)) (aCons (eVar 1) aNil)))))
    sNever
    sNil)
    (sCons (sSet (gName 3) (eCompM (iE (eVar 0)) (gName 4) tYes (eLst aNil) [4]))
    (sCons (sFor (iE (eCall cs 70 (aCons (eVar 0) aNil))) (gName 5)
    (sCons (sSet (gName 6) (eCall cs 71 (aCons (eVar 0) (aCons (eVar 5) aNil))))
    (sCons (sSet (gName 7) (eComp2 (iE (eSl (eVar 6) (some (eC (.int 1))) none)) (gName 8) tYes (iE (eCall cs 72 (aCons (eVar 1) (aCons (eB1 fLen (eVar 0)) (aCons (eIx (eVar 6) (eC (.int 0))) (aCons (eVar 8) aNil)))))) (gName 2) tYes (eVar 2) [8, 2] [2]))
    (sFor (iRange1 (eB1 fLen (eVar 0))) (gName 2)
    (sIf (tAnd (tCmp .isin (eVar 2) (eVar 7)) (tCmp .notin (eVar 5) (eIx (eVar 0) (eVar 2))))
    (sSetIx (eVar 3) (eVar 2) (eBin .add (eIx (eVar 3) (eVar 2)) (eLst (aCons (eVar 5) aNil))))
    sNil)))))
    (sRet (eComp (iZip (eVar 0) (eVar 3)) (gTup [(gName 9), (gName 10)]) tYes (eB1 fTuple (eBin .add (eB1 fList (eVar 9)) (eVar 10))) [9, 10]))))))))
def T__law_same (cs : CS) : TS :=
  (sCons (sIf (tCmp .isN (eVar 1) (eC .non))
    (sRet (eCmp .isN (eVar 0) (eC .non)))
    sNil)
    (sCons (sIf (tOr (tOf (eB1 (fIsi [.bool]) (eVar 1))) (tOf (eB1 (fIsi [.bool]) (eVar 0))))
    (sRet (eAnd (eB1 (fIsi [.bool]) (eVar 1)) (eAnd (eB1 (fIsi [.bool]) (eVar 0)) (eCmp .eq (eVar 0) (eVar 1)))))
    sNil)
    (sCons (sIf (tOf (eB1 (fIsi [.int, .str]) (eVar 1)))
    (sRet (eAnd (eB1 (fIsi [.int, .str]) (eVar 0)) (eAnd (eCmp .eq (eB1 (fIsi [.int]) (eVar 0)) (eB1 (fIsi [.int]) (eVar 1))) (eCmp .eq (eVar 0) (eVar 1)))))
    sNil)
    (sCons (sIf (tOr (tCmp .ne (eB1 (fIsi [.list]) (eVar 1)) (eB1 (fIsi [.list]) (eVar 0))) (tCmp .ne (eB1 (fIsi [.tuple]) (eVar 1)) (eB1 (fIsi [.tuple]) (eVar 0))))
    (sRet (eC (.bl false)))
    sNil)
    (sCons (sIf (tOr (tNot (tOf (eB1 (fIsi [.list, .tuple]) (eVar 0)))) (tCmp .ne (eB1 fLen (eVar 0)) (eB1 fLen (eVar 1))))
    (sRet (eC (.bl false)))
    sNil)
    (sRet (eB1 fAll (eComp (iZip (eVar 0) (eVar 1)) (gTup [(gName 2), (gName 3)]) tYes (eCall cs 16 (aCons (eVar 2) (aCons (eVar 3) aNil))) [2, 3]))))))))
def T__law_union (cs : CS) : TS :=
  (sCons (sSet (gName 1) (eLst aNil))
    (sCons (sFor (iE (eVar 0)) (gName 2)
    (sSet (gName 1) (eBin .add (eVar 1) (eB1 fList (eVar 2)))))
    (sRet (eSortSet (eVar 1)))))
def T__law_holders (cs : CS) : TS :=
  (sRet (eComp (iRange1 (eB1 fLen (eVar 0))) (gName 2) (tCmp .isin (eVar 1) (eIx (eVar 0) (eVar 2))) (eVar 2) [2]))
def T__law_reached (cs : CS) : TS :=
  (sCons (sSet (gName 2) (eSl (eVar 0) none (some (eC (.int 1)))))
    (sCons (sFor (iRange1 (eB1 fLen (eVar 0))) (gName 3)
    (sFor (iE (eVar 1)) (gTup [(gName 4), (gName 5)])
    (sIf (tAnd (tCmp .isin (eVar 4) (eVar 0)) (tAnd (tCmp .isin (eVar 5) (eVar 0)) (tCmp .ne (eCmp .isin (eVar 4) (eVar 2)) (eCmp .isin (eVar 5) (eVar 2)))))
    (sSet (gName 2) (eBin .add (eVar 2) (eLst (aCons (eIf (tCmp .isin (eVar 4) (eVar 2)) (eVar 5) (eVar 4)) aNil))))
    sNil)))
    (sRet (eVar 2))))
def T__law_scattered (cs : CS) : TS :=
  (sCons (sSet (gName 2) (eLstM aNil))
    (sCons (sFor (iE (eCall cs 74 (aCons (eVar 0) aNil))) (gName 3)
    (sCons (sSet (gName 4) (eCall cs 75 (aCons (eVar 0) (aCons (eVar 3) aNil))))
    (sIf (tCmp .lt (eB1 fLen (eCall cs 76 (aCons (eVar 4) (aCons (eVar 1) aNil)))) (eB1 fLen (eVar 4)))
    (sExpr (eAppend (eVar 2) (eVar 3)))
    sNil)))
    (sRet (eVar 2))))
def T__law_one_tree (cs : CS) : TS :=
  (sRet (eAnd (eCmp .eq (eB1 fLen (eVar 1)) (eBin .sub (eVar 0) (eC (.int 1)))) (eCmp .eq (eB1 fLen (eCall cs 76 (aCons (eRangeL (eVar 0)) (aCons (eVar 1) aNil)))) (eVar 0))))
def T__law_fits (cs : CS) : TS :=
  (sRet (eAnd (eCall cs 78 (aCons (eB1 fLen (eVar 0)) (aCons (eVar 1) aNil))) (eCmp .eq (eCall cs 77 (aCons (eVar 0) (aCons (eVar 1) aNil))) (eLst aNil))))
end VP
namespace VP
open VM
def T__law_small (cs : CS) : TS :=
  (sRet (eCall cs 2 (aCons (eVar 0) (aCons (eLst (aCons (eC (.int 1)) (aCons (eC (.int 1)) (aCons (eNeg (eC (.int 1))) (aCons (eC (.int 2)) (aCons (eNeg (eC (.int 2))) (aCons (eC (.int 3)) (aCons (eNeg (eC (.int 3))) (aCons (eC (.int 4)) (aCons (eC (.int 0)) (aCons (eC (.int 6)) (aCons (eC (.int 5)) (aCons (eC (.int 12)) aNil))))))))))))) aNil))))
def T__law_big_factor (cs : CS) : TS :=
  (sRet (eIf (tCmp .gt (eCall cs 1 (aCons (eVar 0) (aCons (eC (.int 5)) aNil))) (eC (.int 0))) (eCall cs 3 (aCons (eVar 0) aNil)) (eBin .sub (eCall cs 1 (aCons (eVar 0) (aCons (eC (.int 2001)) aNil))) (eC (.int 1000)))))
def T__law_drawn_vectors (cs : CS) : TS :=
  (sCons (sSet (gName 3) (eLstM aNil))
    (sCons (sFor (iRange1 (eVar 1)) (gName 4)
    (sCons (sSet (gName 5) (eCall cs 1 (aCons (eVar 0) (aCons (eC (.int 5)) aNil))))
    (sCons (sSet (gName 6) (eComp (iRange1 (eVar 2)) (gName 7) tYes (eCall cs 4 (aCons (eVar 0) aNil)) [7]))
    (sCons (sIf (tAnd (tCmp .eq (eVar 5) (eC (.int 0))) (tCmp .ne (eVar 3) (eLst aNil)))
    (sSet (gName 6) (eComp (iE (eCall cs 2 (aCons (eVar 0) (aCons (eVar 3) aNil)))) (gName 8) tYes (eBin .mul (eC (.int 2)) (eVar 8)) [8]))
    sNil)
    (sCons (sIf (tCmp .eq (eVar 5) (eC (.int 1)))
    (sSet (gName 6) (eComp (iRange1 (eVar 2)) (gName 7) tYes (eIf (tCmp .lt (eVar 7) (eCall cs 1 (aCons (eVar 0) (aCons (eBin .add (eVar 2) (eC (.int 1))) aNil)))) (eC (.int 0)) (eIx (eVar 6) (eVar 7))) [7]))
    sNil)
    (sExpr (eAppend (eVar 3) (eB1 fTuple (eVar 6)))))))))
    (sRet (eVar 3))))
def T_minus (cs : CS) : TS :=
  (sRet (eComp (iZip (eVar 0) (eVar 1)) (gTup [(gName 3), (gName 4)]) tYes (eBin .sub (eVar 3) (eBin .mul (eVar 4) (eVar 2))) [3, 4]))
def T_cleared (cs : CS) : TS :=
  (sCons (sSet (gName 2) (eComp (iE (eVar 0)) (gName 3) (tCmp .ne (eIx (eVar 3) (eVar 1)) (eC (.int 0))) (eVar 3) [3]))
    (sCons (sSet (gName 4) (eComp (iE (eVar 0)) (gName 3) (tCmp .eq (eIx (eVar 3) (eVar 1)) (eC (.int 0))) (eVar 3) [3]))
    (sCons (sWhile (tCmp .gt (eB1 fLen (eVar 2)) (eC (.int 1)))
    (sCons (sSet (gName 5) (eC (.int 0)))
    (sCons (sFor (iRange1 (eB1 fLen (eVar 2))) (gName 6)
    (sIf (tCmp .lt (eB1 fAbs (eIx (eIx (eVar 2) (eVar 6)) (eVar 1))) (eB1 fAbs (eIx (eIx (eVar 2) (eVar 5)) (eVar 1))))
    (sSet (gName 5) (eVar 6))
    sNil))
    (sCons (sSet (gName 7) (eIx (eVar 2) (eVar 5)))
    (sCons (sSet (gName 8) (eLst (aCons (eVar 7) aNil)))
    (sCons (sFor (iRange1 (eB1 fLen (eVar 2))) (gName 6)
    (sIf (tCmp .ne (eVar 6) (eVar 5))
    (sCons (sSet (gName 3) (eCall cs 6 (aCons (eIx (eVar 2) (eVar 6)) (aCons (eVar 7) (aCons (eBin .fdiv (eIx (eIx (eVar 2) (eVar 6)) (eVar 1)) (eIx (eVar 7) (eVar 1))) aNil)))))
    (sIf (tCmp .ne (eIx (eVar 3) (eVar 1)) (eC (.int 0)))
    (sSet (gName 8) (eBin .add (eVar 8) (eLst (aCons (eVar 3) aNil))))
    (sSet (gName 4) (eBin .add (eVar 4) (eLst (aCons (eVar 3) aNil))))))
    sNil))
    (sSet (gName 2) (eVar 8))))))))
    (sRet (eTup (aCons (eVar 2) (aCons (eVar 4) aNil)))))))
def T_times (cs : CS) : TS :=
  (sRet (eComp (iE (eVar 0)) (gName 2) tYes (eBin .mul (eVar 2) (eVar 1)) [2]))
def T_echelon (cs : CS) : TS :=
  (sCons (sSet (gName 2) (eComp (iE (eVar 0)) (gName 3) tYes (eB1 fList (eVar 3)) [3]))
    (sCons (sSet (gName 4) (eLst aNil))
    (sCons (sFor (iRange1 (eVar 1)) (gName 5)
    (sCons (sSet (gTup [(gName 6), (gName 2)]) (eCall cs 7 (aCons (eVar 2) (aCons (eVar 5) aNil))))
    (sIf (tCmp .ne (eVar 6) (eLst aNil))
    (sCons (sSet (gName 7) (eIx (eVar 6) (eC (.int 0))))
    (sCons (sIf (tCmp .lt (eIx (eVar 7) (eVar 5)) (eC (.int 0)))
    (sSet (gName 7) (eCall cs 8 (aCons (eVar 7) (aCons (eNeg (eC (.int 1))) aNil))))
    sNil)
    (sSet (gName 4) (eBin .add (eVar 4) (eLst (aCons (eTup (aCons (eVar 5) (aCons (eVar 7) aNil))) aNil))))))
    sNil)))
    (sRet (eTup (aCons (eVar 4) (aCons (eVar 2) aNil)))))))
def T_reduced (cs : CS) : TS :=
  (sCons (sIf (tCmp .eq (eB1 fLen (eVar 0)) (eC (.int 0)))
    (sRet (eLst aNil))
    sNil)
    (sCons (sSet (gTup [(gName 1), (gName 2)]) (eCall cs 9 (aCons (eVar 0) (aCons (eB1 fLen (eIx (eVar 0) (eC (.int 0)))) aNil))))
    (sCons (sSet (gName 3) (eLst aNil))
    (sCons (sFor (iRange1 (eB1 fLen (eVar 1))) (gName 4)
    (sCons (sSet (gName 5) (eIx (eIx (eVar 1) (eVar 4)) (eC (.int 1))))
    (sCons (sFor (iE (eSl (eVar 1) (some (eBin .add (eVar 4) (eC (.int 1)))) none)) (gTup [(gName 6), (gName 7)])
    (sSet (gName 5) (eCall cs 6 (aCons (eVar 5) (aCons (eVar 7) (aCons (eBin .fdiv (eIx (eVar 5) (eVar 6)) (eIx (eVar 7) (eVar 6))) aNil))))))
    (sSet (gName 3) (eBin .add (eVar 3) (eLst (aCons (eB1 fTuple (eVar 5)) aNil)))))))
    (sRet (eVar 3))))))
def T__law_modulus (cs : CS) : TS :=
  (sRet (eCall cs 2 (aCons (eVar 0) (aCons (eLst (aCons (eC (.int 0)) (aCons (eC (.int 0)) (aCons (eC (.int 0)) (aCons (eC (.int 2)) (aCons (eC (.int 3)) (aCons (eC (.int 4)) (aCons (eC (.int 6)) (aCons (eC (.int 5)) (aCons (eBin .add (eC (.int 2)) (eCall cs 1 (aCons (eVar 0) (aCons (eC (.int 40)) aNil)))) (aCons (eBin .add (eC (.int 2)) (eCall cs 1 (aCons (eVar 0) (aCons (eBin .sub (eBin .pow (eC (.int 10)) (eC (.int 6))) (eC (.int 1))) aNil)))) aNil))))))))))) aNil))))
def T__law_number (cs : CS) : TS :=
  (sRet (eCall cs 2 (aCons (eVar 0) (aCons (eLst (aCons (eC (.int 0)) (aCons (eC (.int 1)) (aCons (eNeg (eC (.int 1))) (aCons (eC (.int 2)) (aCons (eC (.int 7)) (aCons (eBin .sub (eCall cs 1 (aCons (eVar 0) (aCons (eC (.int 41)) aNil))) (eC (.int 20))) (aCons (eCall cs 1 (aCons (eVar 0) (aCons (eBin .pow (eC (.int 10)) (eC (.int 6))) aNil))) (aCons (eBin .sub (eC (.int 5)) (eCall cs 1 (aCons (eVar 0) (aCons (eBin .pow (eC (.int 10)) (eC (.int 9))) aNil)))) aNil))))))))) aNil))))
def T_is_whole_number (cs : CS) : TS :=
  (sRet (eAnd (eB1 (fIsi [.int]) (eVar 0)) (eNot (eB1 (fIsi [.bool]) (eVar 0)))))
def T_Share___init__ (cs : CS) : TS :=
  (sCons (sIf (tNot (tOf (eCall cs 27 (aCons (eVar 1) aNil))))
    sNever
    sNil)
    (sCons (sIf (tOr (tNot (tOf (eCall cs 27 (aCons (eVar 2) aNil)))) (tCmp .lt (eVar 2) (eC (.int 1))))
    sNever
    sNil)
    (sCons (sSet (gName 3) (eGcd (eVar 1) (eVar 2)))
    (sCons (sSetFld [0] 85 (eVar 0) (eBin .fdiv (eVar 1) (eVar 3)))
    (sSetFld [0] 69 (eVar 0) (eBin .fdiv (eVar 2) (eVar 3)))))))
def T_Share___add__ (cs : CS) : TS :=
  (sCons (sIf (tOf (eB1 (fIsiO [0] [0]) (eVar 1)))
    (sCons (sSet (gName 2) (eBin .add (eBin .mul (eFld cs [] [0] 85 (eVar 0)) (eFld cs [] [0] 69 (eVar 1))) (eBin .mul (eFld cs [] [0] 85 (eVar 1)) (eFld cs [] [0] 69 (eVar 0)))))
    (sRet (eNew cs 0 28 (aDfl (aCons (eVar 2) (aCons (eBin .mul (eFld cs [] [0] 69 (eVar 0)) (eFld cs [] [0] 69 (eVar 1))) aNil)) []))))
    sNil)
    (sCons (sIf (tOf (eCall cs 27 (aCons (eVar 1) aNil)))
    (sRet (eNew cs 0 28 (aDfl (aCons (eBin .add (eFld cs [] [0] 85 (eVar 0)) (eBin .mul (eVar 1) (eFld cs [] [0] 69 (eVar 0)))) (aCons (eFld cs [] [0] 69 (eVar 0)) aNil)) [])))
    sNil)
    sNever))
def T_Share___radd__ (cs : CS) : TS :=
  (sCons (sIf (tOf (eCall cs 27 (aCons (eVar 1) aNil)))
    (sRet (eNew cs 0 28 (aDfl (aCons (eBin .add (eFld cs [] [0] 85 (eVar 0)) (eBin .mul (eVar 1) (eFld cs [] [0] 69 (eVar 0)))) (aCons (eFld cs [] [0] 69 (eVar 0)) aNil)) [])))
    sNil)
    sNever)
def T_Share_bottom (cs : CS) : TS :=
  (sRet (eFld cs [] [0] 69 (eVar 0)))
def T_Share_top (cs : CS) : TS :=
  (sRet (eFld cs [] [0] 85 (eVar 0)))
def T__law_is (cs : CS) : TS :=
  (sCons (sIf (tOr (tNot (tOf (eB1 (fIsiO [0] [0]) (eVar 0)))) (tOr (tCmp .lt (eFld cs [(0, 31)] [] 17 (eVar 0)) (eC (.int 1))) (tCmp .ne (eBin .mul (eFld cs [(0, 32)] [] 113 (eVar 0)) (eVar 2)) (eBin .mul (eVar 1) (eFld cs [(0, 31)] [] 17 (eVar 0))))))
    (sRet (eC (.bl false)))
    sNil)
    (sCons (sPar [3, 4] (aCons (eFld cs [(0, 32)] [] 113 (eVar 0)) (aCons (eFld cs [(0, 31)] [] 17 (eVar 0)) aNil)))
    (sCons (sWhile (tCmp .ne (eVar 4) (eC (.int 0)))
    (sPar [3, 4] (aCons (eVar 4) (aCons (eBin .mod (eB1 fInt (eVar 3)) (eVar 4)) aNil))))
    (sRet (eCmp .eq (eB1 fAbs (eVar 3)) (eC (.int 1)))))))
def T_Share___sub__ (cs : CS) : TS :=
  (sCons (sIf (tOf (eB1 (fIsiO [0] [0]) (eVar 1)))
    (sCons (sSet (gName 2) (eBin .sub (eBin .mul (eFld cs [] [0] 85 (eVar 0)) (eFld cs [] [0] 69 (eVar 1))) (eBin .mul (eFld cs [] [0] 85 (eVar 1)) (eFld cs [] [0] 69 (eVar 0)))))
    (sRet (eNew cs 0 28 (aDfl (aCons (eVar 2) (aCons (eBin .mul (eFld cs [] [0] 69 (eVar 0)) (eFld cs [] [0] 69 (eVar 1))) aNil)) []))))
    sNil)
    (sCons (sIf (tOf (eCall cs 27 (aCons (eVar 1) aNil)))
    (sRet (eNew cs 0 28 (aDfl (aCons (eBin .sub (eFld cs [] [0] 85 (eVar 0)) (eBin .mul (eVar 1) (eFld cs [] [0] 69 (eVar 0)))) (aCons (eFld cs [] [0] 69 (eVar 0)) aNil)) [])))
    sNil)
    sNever))
def T_Share___rsub__ (cs : CS) : TS :=
  (sCons (sIf (tOf (eCall cs 27 (aCons (eVar 1) aNil)))
    (sRet (eNew cs 0 28 (aDfl (aCons (eBin .sub (eBin .mul (eVar 1) (eFld cs [] [0] 69 (eVar 0))) (eFld cs [] [0] 85 (eVar 0))) (aCons (eFld cs [] [0] 69 (eVar 0)) aNil)) [])))
    sNil)
    sNever)
def T_Share___mul__ (cs : CS) : TS :=
  (sCons (sIf (tOf (eB1 (fIsiO [0] [0]) (eVar 1)))
    (sRet (eNew cs 0 28 (aDfl (aCons (eBin .mul (eFld cs [] [0] 85 (eVar 0)) (eFld cs [] [0] 85 (eVar 1))) (aCons (eBin .mul (eFld cs [] [0] 69 (eVar 0)) (eFld cs [] [0] 69 (eVar 1))) aNil)) [])))
    sNil)
    (sCons (sIf (tOf (eCall cs 27 (aCons (eVar 1) aNil)))
    (sRet (eNew cs 0 28 (aDfl (aCons (eBin .mul (eFld cs [] [0] 85 (eVar 0)) (eVar 1)) (aCons (eFld cs [] [0] 69 (eVar 0)) aNil)) [])))
    sNil)
    sNever))
def T_Share___rmul__ (cs : CS) : TS :=
  (sCons (sIf (tOf (eCall cs 27 (aCons (eVar 1) aNil)))
    (sRet (eNew cs 0 28 (aDfl (aCons (eBin .mul (eFld cs [] [0] 85 (eVar 0)) (eVar 1)) (aCons (eFld cs [] [0] 69 (eVar 0)) aNil)) [])))
    sNil)
    sNever)
def T_Share___neg__ (cs : CS) : TS :=
  (sRet (eNew cs 0 28 (aDfl (aCons (eNeg (eFld cs [] [0] 85 (eVar 0))) (aCons (eFld cs [] [0] 69 (eVar 0)) aNil)) [])))
def T_Share___eq__ (cs : CS) : TS :=
  (sCons (sIf (tOf (eB1 (fIsiO [0] [0]) (eVar 1)))
    (sRet (eAnd (eCmp .eq (eFld cs [] [0] 85 (eVar 0)) (eFld cs [] [0] 85 (eVar 1))) (eCmp .eq (eFld cs [] [0] 69 (eVar 0)) (eFld cs [] [0] 69 (eVar 1)))))
    sNil)
    (sRet (eAnd (eCall cs 27 (aCons (eVar 1) aNil)) (eAnd (eCmp .eq (eFld cs [] [0] 69 (eVar 0)) (eC (.int 1))) (eCmp .eq (eFld cs [] [0] 85 (eVar 0)) (eVar 1))))))
def T__law_right_name (cs : CS) : TS :=
  (sCons (sIf (tOr (tNot (tOf (eB1 (fIsi [.str]) (eVar 0)))) (tNot (tChain .le .le (eC (.int 1)) (eB1 fLen (eVar 0)) (eC (.int 6)))))
    (sRet (eC (.bl false)))
    sNil)
    (sRet (eB1 fAll (eComp (iE (eVar 0)) (gName 1) tYes (eCmp .isin (eVar 1) (eC (.str [97, 98, 99, 100, 101, 102, 103, 104, 105, 106, 107, 108, 109, 110, 111, 112, 113, 114, 115, 116, 117, 118, 119, 120, 121, 122]))) [1]))))
def T__law_nest (cs : CS) : TS :=
  (sCons (sSet (gName 0) (eTup aNil))
    (sCons (sFor (iRange1 (eC (.int 5))) (gName 1)
    (sSet (gName 0) (eTup (aCons (eVar 0) aNil))))
    (sRet (eVar 0))))
def T__law_odd (cs : CS) : TS :=
  (sRet (eCall cs 2 (aCons (eVar 0) (aCons (eLst (aCons (eC .non) (aCons (eC (.str [])) (aCons (eC (.int 3)) (aCons (eC (.bl true)) (aCons (eC (.str [65])) (aCons (eC (.str [115, 101, 118, 101, 110, 101, 111])) (aCons (eC (.str [97, 32, 98])) (aCons (eC (.str [97, 49])) (aCons (eTup (aCons (eC (.str [97])) aNil)) (aCons (eLst (aCons (eC (.str [97])) aNil)) (aCons (eNeg (eC (.int 1))) (aCons (eC (.str [122, 111, 10])) (aCons (eCall cs 43 aNil) aNil)))))))))))))) aNil))))
def T_is_term (cs : CS) : TS :=
  (sCons (sIf (tOr (tNot (tOf (eB1 (fIsi [.tuple]) (eVar 0)))) (tCmp .ne (eB1 fLen (eVar 0)) (eC (.int 2))))
    (sRet (eC (.bl false)))
    sNil)
    (sRet (eAnd (eCall cs 41 (aCons (eIx (eVar 0) (eC (.int 0))) aNil)) (eCall cs 45 (aCons (eIx (eVar 0) (eC (.int 1))) (aCons (eNeg (eC (.int 1000))) (aCons (eC (.int 1000)) aNil)))))))
def T_is_terms (cs : CS) : TS :=
  (sCons (sIf (tOr (tNot (tOf (eB1 (fIsi [.tuple]) (eVar 0)))) (tCmp .gt (eB1 fLen (eVar 0)) (eC (.int 12))))
    (sRet (eC (.bl false)))
    sNil)
    (sCons (sIf (tNot (tOf (eB1 fAll (eComp (iE (eVar 0)) (gName 1) tYes (eCall cs 47 (aCons (eVar 1) aNil)) [1]))))
    (sRet (eC (.bl false)))
    sNil)
    (sCons (sSet (gName 2) (eComp (iE (eVar 0)) (gName 1) tYes (eIx (eVar 1) (eC (.int 0))) [1]))
    (sRet (eCmp .eq (eLenSet (eVar 2)) (eB1 fLen (eVar 2)))))))
def T_is_row (cs : CS) : TS :=
  (sCons (sIf (tOr (tNot (tOf (eB1 (fIsi [.tuple]) (eVar 0)))) (tOr (tCmp .ne (eB1 fLen (eVar 0)) (eC (.int 3))) (tNot (tOf (eCall cs 48 (aCons (eIx (eVar 0) (eC (.int 0))) aNil))))))
    (sRet (eC (.bl false)))
    sNil)
    (sCons (sIf (tNot (tOf (eCall cs 45 (aCons (eIx (eVar 0) (eC (.int 1))) (aCons (eNeg (eC (.int 1000000000000))) (aCons (eC (.int 1000000000000)) aNil))))))
    (sRet (eC (.bl false)))
    sNil)
    (sRet (eAnd (eCall cs 45 (aCons (eIx (eVar 0) (eC (.int 2))) (aCons (eC (.int 0)) (aCons (eC (.int 1000000)) aNil)))) (eCmp .ne (eIx (eVar 0) (eC (.int 2))) (eC (.int 1)))))))
end VP
section
namespace VM
abbrev pvis (v : List Int) : List PV := v.map PV.int
abbrev ilst (v : List Int) : PV := .lst (v.map PV.int)
abbrev itup (v : List Int) : PV := .tup (v.map PV.int)
def D0 (k x : KV) : Ends := { nx := fun _ st => k .non st, rt := k, bk := fun _ _ => False, ct := fun _ _ => False, xk := x }
theorem call_of {FT : Nat → Option FD} {n f np ns : Nat} {body : CS → TS} {vs : List PV} {st : Store} {k x : KV} (hF : FT f = some ⟨np, ns, body⟩) (hl : vs.length = np)
    (h : body (callN FT n) (D0 k x) (vs.map some ++ List.replicate (ns - np) none) st) : callN FT (n + 1) f vs st k x := by
  unfold callN
  rw [hF]
  exact ⟨hl, h⟩
/-- what holds from some depth on -/
def At (FT : Nat → Option FD) (d : Nat) (S : CS → Prop) : Prop := ∀ n, d ≤ n → S (callN FT n)
theorem At.mono {FT : Nat → Option FD} {d d' : Nat} {S : CS → Prop} (h : At FT d S) (hd : d ≤ d') : At FT d' S := fun n hn => h n (Nat.le_trans hd hn)
theorem At.imp {FT : Nat → Option FD} {d : Nat} {S S' : CS → Prop} (h : At FT d S) (hi : ∀ cs, S cs → S' cs) : At FT d S' := fun n hn => hi _ (h n hn)
theorem at_of {FT : Nat → Option FD} {d f np ns : Nat} {body : CS → TS} {S : CS → Prop} {C : CS → Prop} (hF : FT f = some ⟨np, ns, body⟩) (hC : At FT d C)
    (h : ∀ cs cs' : CS, C cs → (∀ vs st k x, vs.length = np → body cs (D0 k x) (vs.map some ++ List.replicate (ns - np) none) st → cs' f vs st k x) → S cs') : At FT (d + 1) S := fun n hn => by
  obtain ⟨m, rfl⟩ : ∃ m, n = m + 1 := ⟨n - 1, by omega⟩
  exact h (callN FT m) _ (hC m (by omega)) fun vs st k x hl hb => call_of hF hl hb
/-- one turn of a comprehension: what it gives -/
def turn (g : TG) (t : TT) (e : TE) (ρ : Env) (st : Store) (v : PV) (k : Option PV → Store → Prop) : Prop :=
  g v ρ st fun ρ' st => t ρ' st (fun b st => if b = true then e ρ' st (fun y st => k (some y) st) (fun _ _ => False) else k none st) (fun _ _ => False)
/-- a comprehension that leaves the store -/
theorem comp_pure {g : TG} {t : TT} {e : TE} {own : List Nat} {stay : Store → Prop} {ρ : Env} {k : List PV → Store → Prop} {st : Store} (f : PV → Option PV) (hst : stay st) : ∀ (xs acc : List PV),
    (∀ v ∈ xs, ∀ k' : Option PV → Store → Prop, k' (f v) st → turn g t e ρ st v k') → acc.length + xs.length ≤ SZ → k (acc ++ xs.filterMap f) st → compGo g t e own stay xs acc ρ st k
  | [], acc, h, hl, hk => by
    unfold compGo
    rw [List.filterMap_nil, List.append_nil] at hk
    exact ⟨hst, hk⟩
  | v :: r, acc, h, hl, hk => by
    unfold compGo
    rw [List.length_cons] at hl
    refine ⟨hst, ?_⟩
    refine h v (List.mem_cons_self ..) (fun o st => match o with | some y => acc.length < SZ ∧ compGo g t e own stay r (acc ++ [y]) ρ st k | none => compGo g t e own stay r acc ρ st k) ?_
    have hr : ∀ v ∈ r, ∀ k' : Option PV → Store → Prop, k' (f v) st → turn g t e ρ st v k' := fun x m => h x (List.mem_cons_of_mem _ m)
    cases e1 : f v with
    | none =>
      rw [List.filterMap_cons_none e1] at hk
      exact comp_pure f hst r acc hr (by omega) hk
    | some y =>
      rw [List.filterMap_cons_some e1] at hk
      refine ⟨by omega, comp_pure f hst r (acc ++ [y]) hr (by rw [List.length_append, List.length_singleton]; omega) ?_⟩
      rw [List.append_assoc]
      exact hk
theorem comp_map {g : TG} {t : TT} {e : TE} {own : List Nat} {stay : Store → Prop} {ρ : Env} {k : List PV → Store → Prop} {st : Store} (f : PV → PV) (hst : stay st) (xs : List PV)
    (h : ∀ v ∈ xs, ∀ k' : Option PV → Store → Prop, k' (some (f v)) st → turn g t e ρ st v k') (hl : xs.length ≤ SZ) (hk : k (xs.map f) st) : compGo g t e own stay xs [] ρ st k :=
  comp_pure (fun v => some (f v)) hst xs [] h (by simpa using hl) (by
    have e : xs.filterMap (fun v => some (f v)) = xs.map f := by rw [← List.filterMap_eq_map]; rfl
    rw [List.nil_append, e]
    exact hk)
/-- the invariant version: each turn ends in whatever continuation -/
theorem comp_inv {g : TG} {t : TT} {e : TE} {own : List Nat} {stay : Store → Prop} {ρ : Env} {k : List PV → Store → Prop} (J : List PV → List PV → Store → Prop)
    (hs : ∀ v r acc st, J (v :: r) acc st → stay st ∧ ∀ k' : Option PV → Store → Prop, (∀ o st', (match o with | some y => acc.length < SZ ∧ J r (acc ++ [y]) st' | none => J r acc st') → k' o st') → turn g t e ρ st v k')
    (hn : ∀ acc st, J [] acc st → stay st ∧ k acc st) : ∀ xs acc st, J xs acc st → compGo g t e own stay xs acc ρ st k
  | [], acc, st, j => by
    unfold compGo
    exact hn acc st j
  | v :: r, acc, st, j => by
    unfold compGo
    obtain ⟨h1, h2⟩ := hs v r acc st j
    refine ⟨h1, ?_⟩
    refine h2 (fun o st => match o with | some y => acc.length < SZ ∧ compGo g t e own stay r (acc ++ [y]) ρ st k | none => compGo g t e own stay r acc ρ st k) fun o st' ho => ?_
    cases o with
    | some y => exact ⟨ho.1, comp_inv J hs hn r _ st' ho.2⟩
    | none => exact comp_inv J hs hn r acc st' ho
/-- a for by an invariant -/
theorem for_inv {g : TG} {b : TS} {stay : Store → Prop} {D : Ends} (J : List PV → Env → Store → Prop)
    (hs : ∀ v r ρ st, J (v :: r) ρ st → stay st ∧ ∀ D' : Ends, D'.rt = D.rt → D'.xk = D.xk → D'.bk = D.nx → (∀ ρ' st', J r ρ' st' → D'.nx ρ' st') → (∀ ρ' st', J r ρ' st' → D'.ct ρ' st') → g v ρ st fun ρ st => b D' ρ st)
    (hn : ∀ ρ st, J [] ρ st → stay st ∧ D.nx ρ st) : ∀ xs ρ st, J xs ρ st → forGo g b stay xs D ρ st
  | [], ρ, st, j => by
    unfold forGo
    exact hn ρ st j
  | v :: r, ρ, st, j => by
    unfold forGo
    obtain ⟨h1, h2⟩ := hs v r ρ st j
    exact ⟨h1, h2 { D with nx := forGo g b stay r D, ct := forGo g b stay r D, bk := D.nx } rfl rfl rfl (fun ρ' st' j' => for_inv J hs hn r ρ' st' j') fun ρ' st' j' => for_inv J hs hn r ρ' st' j'⟩
/-- without monotonicity: the bound by the measure -/
theorem while_meas {t : TT} {b : TS} {D : Ends} (J : Nat → Env → Store → Prop)
    (hs : ∀ m ρ st, J m ρ st → ∀ D' : Ends, D'.rt = D.rt → D'.xk = D.xk → D'.bk = D.nx → (∀ m' ρ' st', m' < m → J m' ρ' st' → D'.nx ρ' st') → (∀ m' ρ' st', m' < m → J m' ρ' st' → D'.ct ρ' st') → t ρ st (fun r st => if r = true then b D' ρ st else D.nx ρ st) D.xk)
    (m0 : Nat) (ρ : Env) (st : Store) (j : J m0 ρ st) : sWhile t b D ρ st := by
  have key : ∀ n m ρ st, m < n → J m ρ st → whileGo t b n D ρ st := by
    intro n
    induction n with
    | zero => intro m ρ st hm; omega
    | succ n ih =>
      intro m ρ st hm j
      unfold whileGo
      exact hs m ρ st j { D with nx := whileGo t b n D, ct := whileGo t b n D, bk := D.nx } rfl rfl rfl (fun m' ρ' st' h1 h2 => ih m' ρ' st' (by omega) h2) fun m' ρ' st' h1 h2 => ih m' ρ' st' (by omega) h2
  exact ⟨m0 + 1, key _ m0 ρ st (by omega) j⟩
theorem log_lt {a : Nat} {e : Nat} (h : a < 2 ^ e) (he : 0 < e) : a.log2 < e := by
  by_cases h0 : a = 0
  · subst h0
    simpa using he
  · exact (Nat.log2_lt h0).mpr h
theorem mulOk_of {i j : Int} {a b : Nat} (hi : i.natAbs < 2 ^ a) (hj : j.natAbs < 2 ^ b) (ha : 0 < a) (hb : 0 < b) (h : a + b ≤ 100000000) : MulOk i j := by
  have h1 := log_lt hi ha
  have h2 := log_lt hj hb
  unfold MulOk
  omega
theorem mulOk64 {i j : Int} (hi : i.natAbs < 2 ^ 64) (hj : j.natAbs < 2 ^ 64) : MulOk i j := mulOk_of hi hj (by decide) (by decide) (by decide)
end VM
end
section
namespace VP
open VM
abbrev M0 : Int := 2147483549
/-- the five things of a bag -/
def bagL (cells : List Int) (i dig mixed turn : Int) : List PV := [ilst cells, .int i, .int dig, .int mixed, .int turn]
/-- a bag that still bears b draws -/
def Bag (st : Store) (r b : Nat) : Prop := ∃ (cells : List Int) (i : Nat) (dig mixed : Int) (turn : Nat), st[r]? = some (.lst (bagL cells i dig mixed turn)) ∧ cells.length ≤ 63 ∧ i ≤ 63 ∧ 0 ≤ mixed ∧ mixed < M0 ∧ turn + b < 2 ^ 60
/-- what a drawing def leaves: the bag changed, all else as it was; new objects at the end -/
def Keep (r : Nat) (st st' : Store) : Prop := st.length ≤ st'.length ∧ ∀ i, i ≠ r → i < st.length → st'[i]? = st[i]?
theorem Keep.refl {r : Nat} {st : Store} : Keep r st st := ⟨Nat.le_refl _, fun _ _ _ => rfl⟩
theorem Keep.trans {r : Nat} {st st1 st2 : Store} (h : Keep r st st1) (h' : Keep r st1 st2) : Keep r st st2 := ⟨Nat.le_trans h.1 h'.1, fun i hi hl => (h'.2 i hi (Nat.lt_of_lt_of_le hl h.1)).trans (h.2 i hi hl)⟩
theorem Keep.set {r : Nat} {st : Store} {o : SO} : Keep r st (st.set r o) := ⟨by simp, fun i hi _ => List.getElem?_set_ne (Ne.symm hi)⟩
theorem Keep.app {r : Nat} {st : Store} {o : SO} : Keep r st (st ++ [o]) := ⟨by simp, fun i _ hl => List.getElem?_append_left hl⟩
theorem Bag.le {st : Store} {r b b' : Nat} (h : Bag st r b) (hb : b' ≤ b) : Bag st r b' := by
  obtain ⟨c, i, d, m, t, h1, h2, h3, h4, h5, h6⟩ := h
  exact ⟨c, i, d, m, t, h1, h2, h3, h4, h5, by omega⟩
theorem Bag.lt {st : Store} {r b : Nat} (h : Bag st r b) : r < st.length := by
  obtain ⟨c, i, d, m, t, h1, _⟩ := h
  exact (List.getElem?_eq_some_iff.mp h1).1
theorem Bag.app {st : Store} {r b : Nat} {o : SO} (h : Bag st r b) : Bag (st ++ [o]) r b := by
  have hl := h.lt
  obtain ⟨c, i, d, m, t, h1, h2⟩ := h
  exact ⟨c, i, d, m, t, by rw [List.getElem?_append_left hl]; exact h1, h2⟩
/-- f draws: at most c draws, the value as R says -/
def Draws (cs : CS) (f : Nat) (args : List PV) (r c : Nat) (R : PV → Prop) : Prop := ∀ (st : Store) (b : Nat) (k x : KV), Bag st r (b + c) → (∀ v st', R v → Bag st' r b → Keep r st st' → k v st') → cs f (.ref r :: args) st k x
def SpTake (cs : CS) : Prop := ∀ (r : Nat) (many : Int), 0 < many → Draws cs 1 [.int many] r 1 fun v => ∃ d : Int, v = .int d ∧ 0 ≤ d ∧ d < many
theorem ix5 (j : Nat) (h : j < 5) : ix 5 (j : Int) = some j := by
  unfold ix
  rw [if_pos (by omega), if_pos (by omega)]
  simp
theorem fmodM (a : Int) : 0 ≤ a.fmod M0 ∧ a.fmod M0 < M0 := ⟨Int.fmod_nonneg_of_pos a (by decide), Int.fmod_lt_of_pos a (by decide)⟩
theorem nat_lt_pow {a : Int} (h0 : 0 ≤ a) (h : a < M0) : a.natAbs < 2 ^ 64 := by
  have : (M0 : Int) = 2147483549 := rfl
  omega
theorem set_self {st : Store} {r : Nat} {o o' : SO} (h : st[r]? = some o) : (st.set r o')[r]? = some o' := List.getElem?_set_self (List.getElem?_eq_some_iff.mp h).1
def takeTail : TS := (sCons (sIf (tCmp .gt (eIx (eVar 0) (eC (.int 2))) (eC (.int 1))) (sCons (sSet (gName 3) (eBin .mod (eB1 fInt (eIx (eVar 0) (eC (.int 2)))) (eVar 1))) (sCons (sSetIx (eVar 0) (eC (.int 2)) (eBin .fdiv (eIx (eVar 0) (eC (.int 2))) (eVar 1))) (sRet (eVar 3)))) sNil)
        (sCons (sSet (gName 4) (eBin .mod (eB1 fInt (eBin .add (eIx (eVar 0) (eC (.int 3))) (eBin .mul (eIx (eVar 0) (eC (.int 4))) (eC (.int 9547))))) (eC (.int 2147483549))))
        (sCons (sSetIx (eVar 0) (eC (.int 3)) (eBin .mod (eB1 fInt (eBin .add (eBin .add (eBin .mul (eVar 4) (eVar 4)) (eBin .mul (eVar 4) (eC (.int 33757)))) (eC (.int 90263)))) (eC (.int 2147483549))))
        (sRet (eBin .mod (eB1 fInt (eBin .add (eBin .fdiv (eIx (eVar 0) (eC (.int 3))) (eC (.int 71))) (eBin .mul (eBin .mod (eB1 fInt (eIx (eVar 0) (eC (.int 3)))) (eC (.int 7877))) (eC (.int 191))))) (eVar 1))))))
theorem natAbs_lt {a : Int} {n : Nat} (h0 : 0 ≤ a) (h : a < (n : Int)) : a.natAbs < n := by omega
theorem take_tail {st : Store} {r b : Nat} {many : Int} {a2 a3 a4 : Option PV} {D : Ends} (hm : 0 < many) (hb : Bag st r b)
    (hk : ∀ d st', 0 ≤ d → d < many → Bag st' r b → Keep r st st' → D.rt (.int d) st') : takeTail D [some (.ref r), some (.int many), a2, a3, a4] st := by
  obtain ⟨cells, i, dig, mixed, turn, h1, h2, h3, h4, h5, h6⟩ := hb
  have e2 : ix 5 2 = some 2 := rfl
  have e3 : ix 5 3 = some 3 := rfl
  have e4 : ix 5 4 = some 4 := rfl
  unfold bagL at h1
  by_cases hd : 1 < dig
  · simp only [takeTail, VM.sNil, VM.sCons, VM.sSet, VM.sPar, VM.sSetIx, VM.setIx, VM.sExpr, VM.sRet, VM.sRetN, VM.sIf, VM.sBreak, VM.sCont, VM.sFor, VM.gName, VM.gTup, VM.gEach, VM.eVar, VM.eC, VM.eBin, VM.eNeg, VM.eCmp, VM.eChain, VM.tOf, VM.tCmp, VM.tChain, VM.tAnd, VM.tOr, VM.tNot, VM.tYes, VM.eTest, VM.eAnd, VM.eOr, VM.eNot, VM.eIf, VM.aNil, VM.aCons, VM.eLst, VM.eLstM, VM.eTup, VM.eCall, VM.eIx, VM.getIx, VM.eSl, VM.getSl, VM.iE, VM.iRange1, VM.iRange2, VM.iZip, VM.iRev, VM.eComp, VM.eCompM, VM.eAppend, VM.eInsert, VM.eB1, VM.fLen, VM.fAbs, VM.fInt, VM.fList, VM.fListM, VM.fTuple, VM.fSum, VM.fAll, VM.fAny, VM.fIsi, VM.bLen, VM.seqOf, VM.sq, VM.asL, VM.items, VM.isSeq, VM.truth, VM.opBin, VM.opAdd, VM.opSub, VM.opMul, VM.opFdiv, VM.opMod, VM.opPow, VM.opCm, VM.opEq, VM.frz, VM.isD, VM.eqv, VM.isNon, VM.kdOf, VM.D0, VM.turn, List.map_cons, List.map_nil, List.replicate_succ, List.replicate_zero, List.cons_append, List.nil_append, List.getElem?_cons_zero, List.getElem?_cons_succ, List.set_cons_zero, List.set_cons_succ, Nat.reduceSub, VM.wipe, List.length_cons, List.length_nil, Nat.reduceAdd, h1, e2, hd, decide_true, if_true]
    refine ⟨by omega, by unfold DivOk; omega, ?_⟩
    exact hk _ _ (Int.fmod_nonneg_of_pos _ hm) (Int.fmod_lt_of_pos _ hm) ⟨cells, i, _, mixed, turn, set_self h1, h2, h3, h4, h5, h6⟩ Keep.set
  · simp only [takeTail, VM.sNil, VM.sCons, VM.sSet, VM.sPar, VM.sSetIx, VM.setIx, VM.sExpr, VM.sRet, VM.sRetN, VM.sIf, VM.sBreak, VM.sCont, VM.sFor, VM.gName, VM.gTup, VM.gEach, VM.eVar, VM.eC, VM.eBin, VM.eNeg, VM.eCmp, VM.eChain, VM.tOf, VM.tCmp, VM.tChain, VM.tAnd, VM.tOr, VM.tNot, VM.tYes, VM.eTest, VM.eAnd, VM.eOr, VM.eNot, VM.eIf, VM.aNil, VM.aCons, VM.eLst, VM.eLstM, VM.eTup, VM.eCall, VM.eIx, VM.getIx, VM.eSl, VM.getSl, VM.iE, VM.iRange1, VM.iRange2, VM.iZip, VM.iRev, VM.eComp, VM.eCompM, VM.eAppend, VM.eInsert, VM.eB1, VM.fLen, VM.fAbs, VM.fInt, VM.fList, VM.fListM, VM.fTuple, VM.fSum, VM.fAll, VM.fAny, VM.fIsi, VM.bLen, VM.seqOf, VM.sq, VM.asL, VM.items, VM.isSeq, VM.truth, VM.opBin, VM.opAdd, VM.opSub, VM.opMul, VM.opFdiv, VM.opMod, VM.opPow, VM.opCm, VM.opEq, VM.frz, VM.isD, VM.eqv, VM.isNon, VM.kdOf, VM.D0, VM.turn, List.map_cons, List.map_nil, List.replicate_succ, List.replicate_zero, List.cons_append, List.nil_append, List.getElem?_cons_zero, List.getElem?_cons_succ, List.set_cons_zero, List.set_cons_succ, Nat.reduceSub, VM.wipe, List.length_cons, List.length_nil, Nat.reduceAdd, h1, e2, e3, e4, hd, decide_false, Bool.false_eq_true, if_false]
    have f1 := fmodM (mixed + (turn : Int) * 9547)
    have f2 := fmodM ((mixed + (turn : Int) * 9547).fmod 2147483549 * (mixed + (turn : Int) * 9547).fmod 2147483549 + (mixed + (turn : Int) * 9547).fmod 2147483549 * 33757 + 90263)
    have g1 := nat_lt_pow f1.1 f1.2
    have g2 := nat_lt_pow f2.1 f2.2
    refine ⟨mulOk64 (by omega) (by decide), by decide, mulOk64 g1 g1, mulOk64 g1 (by decide), by decide, ?_⟩
    simp only [set_self h1, VM.sNil, VM.sCons, VM.sSet, VM.sPar, VM.sSetIx, VM.setIx, VM.sExpr, VM.sRet, VM.sRetN, VM.sIf, VM.sBreak, VM.sCont, VM.sFor, VM.gName, VM.gTup, VM.gEach, VM.eVar, VM.eC, VM.eBin, VM.eNeg, VM.eCmp, VM.eChain, VM.tOf, VM.tCmp, VM.tChain, VM.tAnd, VM.tOr, VM.tNot, VM.tYes, VM.eTest, VM.eAnd, VM.eOr, VM.eNot, VM.eIf, VM.aNil, VM.aCons, VM.eLst, VM.eLstM, VM.eTup, VM.eCall, VM.eIx, VM.getIx, VM.eSl, VM.getSl, VM.iE, VM.iRange1, VM.iRange2, VM.iZip, VM.iRev, VM.eComp, VM.eCompM, VM.eAppend, VM.eInsert, VM.eB1, VM.fLen, VM.fAbs, VM.fInt, VM.fList, VM.fListM, VM.fTuple, VM.fSum, VM.fAll, VM.fAny, VM.fIsi, VM.bLen, VM.seqOf, VM.sq, VM.asL, VM.items, VM.isSeq, VM.truth, VM.opBin, VM.opAdd, VM.opSub, VM.opMul, VM.opFdiv, VM.opMod, VM.opPow, VM.opCm, VM.opEq, VM.frz, VM.isD, VM.eqv, VM.isNon, VM.kdOf, VM.D0, VM.turn, List.map_cons, List.map_nil, List.replicate_succ, List.replicate_zero, List.cons_append, List.nil_append, List.getElem?_cons_zero, List.getElem?_cons_succ, List.set_cons_zero, List.set_cons_succ, Nat.reduceSub, VM.wipe, List.length_cons, List.length_nil, Nat.reduceAdd, e3]
    refine ⟨by unfold DivOk; decide, by decide, mulOk64 ?_ (by decide), by omega, ?_⟩
    · have q1 := Int.fmod_nonneg_of_pos (((mixed + (turn : Int) * 9547).fmod 2147483549 * (mixed + (turn : Int) * 9547).fmod 2147483549 + (mixed + (turn : Int) * 9547).fmod 2147483549 * 33757 + 90263).fmod 2147483549) (show (0 : Int) < 7877 by decide)
      have q2 := Int.fmod_lt_of_pos (((mixed + (turn : Int) * 9547).fmod 2147483549 * (mixed + (turn : Int) * 9547).fmod 2147483549 + (mixed + (turn : Int) * 9547).fmod 2147483549 * 33757 + 90263).fmod 2147483549) (show (0 : Int) < 7877 by decide)
      omega
    · exact hk _ _ (Int.fmod_nonneg_of_pos _ hm) (Int.fmod_lt_of_pos _ hm) ⟨cells, i, dig, _, turn, set_self h1, h2, h3, f2.1, f2.2, h6⟩ Keep.set
set_option maxHeartbeats 2000000 in
theorem take_at {FT : Nat → Option FD} (hF : FT 1 = some ⟨2, 5, T__law_take⟩) : At FT 1 SpTake := at_of (C := fun _ => True) hF (fun _ _ => trivial) fun cs cs' _ go => by
  intro r many hm st b k x hb hk
  obtain ⟨cells, i, dig, mixed, turn, h1, h2, h3, h4, h5, h6⟩ := hb
  refine go _ _ _ _ rfl ?_
  have e0 : ix 5 0 = some 0 := rfl
  have e1 : ix 5 1 = some 1 := rfl
  have e2 : ix 5 2 = some 2 := rfl
  have e3 : ix 5 3 = some 3 := rfl
  have e4 : ix 5 4 = some 4 := rfl
  unfold bagL at h1
  have s1 := set_self (o' := .lst [ilst cells, .int i, .int dig, .int mixed, .int ((turn : Int) + 1)]) h1
  have hB : ∀ (i' : Nat) (dig' mixed' : Int) (st' : Store), st'[r]? = some (.lst (bagL cells i' dig' mixed' ((turn : Int) + 1))) → i' ≤ 63 → 0 ≤ mixed' → mixed' < M0 → Bag st' r b := fun i' dig' mixed' st' q1 q2 q3 q4 => ⟨cells, i', dig', mixed', turn + 1, by rw [q1]; rfl, h2, q2, q3, q4, by omega⟩
  have fin : ∀ (st1 : Store) (a2 a3 a4 : Option PV), Bag st1 r b → Keep r st st1 → takeTail (D0 k x) [some (.ref r), some (.int many), a2, a3, a4] st1 := fun st1 a2 a3 a4 hb1 kp => take_tail hm hb1 fun d st' d0 d1 b' kp' => hk _ _ ⟨d, rfl, d0, d1⟩ b' (kp.trans kp')
  show sCons _ (sCons _ takeTail) _ _ _
  by_cases hc : dig < 2 ∧ (i : Int) < (cells.length : Int)
  · obtain ⟨hc1, hc2⟩ := hc
    have hi : i < cells.length := by omega
    have ei : ix cells.length (i : Int) = some i := by unfold ix; rw [if_pos (by omega), if_pos hc2]; simp
    obtain ⟨cell, ec⟩ : ∃ cell, cells[i]? = some cell := ⟨cells[i], by simp [hi]⟩
    have hs : ∀ o, (st.set r o)[r]? = some o := fun o => set_self h1
    have p0 : PowOk 10 18 := ⟨by decide, by decide, by decide⟩
    have q1 := Int.fmod_nonneg_of_pos cell (show (0 : Int) < 2147483497 by decide)
    have q2 := Int.fmod_lt_of_pos cell (show (0 : Int) < 2147483497 by decide)
    simp only [VM.sNil, VM.sCons, VM.sSet, VM.sPar, VM.sSetIx, VM.setIx, VM.sExpr, VM.sRet, VM.sRetN, VM.sIf, VM.sBreak, VM.sCont, VM.sFor, VM.gName, VM.gTup, VM.gEach, VM.eVar, VM.eC, VM.eBin, VM.eNeg, VM.eCmp, VM.eChain, VM.tOf, VM.tCmp, VM.tChain, VM.tAnd, VM.tOr, VM.tNot, VM.tYes, VM.eTest, VM.eAnd, VM.eOr, VM.eNot, VM.eIf, VM.aNil, VM.aCons, VM.eLst, VM.eLstM, VM.eTup, VM.eCall, VM.eIx, VM.getIx, VM.eSl, VM.getSl, VM.iE, VM.iRange1, VM.iRange2, VM.iZip, VM.iRev, VM.eComp, VM.eCompM, VM.eAppend, VM.eInsert, VM.eB1, VM.fLen, VM.fAbs, VM.fInt, VM.fList, VM.fListM, VM.fTuple, VM.fSum, VM.fAll, VM.fAny, VM.fIsi, VM.bLen, VM.seqOf, VM.sq, VM.asL, VM.items, VM.isSeq, VM.truth, VM.opBin, VM.opAdd, VM.opSub, VM.opMul, VM.opFdiv, VM.opMod, VM.opPow, VM.opCm, VM.opEq, VM.frz, VM.isD, VM.eqv, VM.isNon, VM.kdOf, VM.D0, VM.turn, List.map_cons, List.map_nil, List.replicate_succ, List.replicate_zero, List.cons_append, List.nil_append, List.getElem?_cons_zero, List.getElem?_cons_succ, List.set_cons_zero, List.set_cons_succ, Nat.reduceSub, VM.wipe, List.length_cons, List.length_nil, Nat.reduceAdd, h1, hs, e0, e1, e2, e3, e4, hc1, hc2, decide_true, if_true, List.length_map, ei, List.getElem?_map, ec, Option.map_some, List.set_set]
    have f := fmodM (mixed * 40063 + cell.fmod 2147483497 * 61 + ((i : Int) + 1))
    refine ⟨mulOk64 (nat_lt_pow h4 h5) (by decide), by decide, mulOk64 (by omega) (by decide), by decide, p0, ?_⟩
    by_cases hd : (10 : Int) ^ Int.toNat 18 ≤ cell
    · simp only [hd, decide_true, if_true]
      exact fin _ _ _ _ (hB (i + 1) _ _ _ (hs _) (by omega) f.1 f.2) Keep.set
    · simp only [hd, decide_false, Bool.false_eq_true, if_false]
      exact fin _ _ _ _ (hB (i + 1) _ _ _ (hs _) (by omega) f.1 f.2) Keep.set
  · have hs : ∀ o, (st.set r o)[r]? = some o := fun o => set_self h1
    have key := fin _ none none none (hB i dig mixed _ (hs _) h3 h4 h5) Keep.set
    by_cases hc1 : dig < 2
    · have hc2 : ¬ (i : Int) < (cells.length : Int) := fun z => hc ⟨hc1, z⟩
      simp only [VM.sNil, VM.sCons, VM.sSet, VM.sPar, VM.sSetIx, VM.setIx, VM.sExpr, VM.sRet, VM.sRetN, VM.sIf, VM.sBreak, VM.sCont, VM.sFor, VM.gName, VM.gTup, VM.gEach, VM.eVar, VM.eC, VM.eBin, VM.eNeg, VM.eCmp, VM.eChain, VM.tOf, VM.tCmp, VM.tChain, VM.tAnd, VM.tOr, VM.tNot, VM.tYes, VM.eTest, VM.eAnd, VM.eOr, VM.eNot, VM.eIf, VM.aNil, VM.aCons, VM.eLst, VM.eLstM, VM.eTup, VM.eCall, VM.eIx, VM.getIx, VM.eSl, VM.getSl, VM.iE, VM.iRange1, VM.iRange2, VM.iZip, VM.iRev, VM.eComp, VM.eCompM, VM.eAppend, VM.eInsert, VM.eB1, VM.fLen, VM.fAbs, VM.fInt, VM.fList, VM.fListM, VM.fTuple, VM.fSum, VM.fAll, VM.fAny, VM.fIsi, VM.bLen, VM.seqOf, VM.sq, VM.asL, VM.items, VM.isSeq, VM.truth, VM.opBin, VM.opAdd, VM.opSub, VM.opMul, VM.opFdiv, VM.opMod, VM.opPow, VM.opCm, VM.opEq, VM.frz, VM.isD, VM.eqv, VM.isNon, VM.kdOf, VM.D0, VM.turn, List.map_cons, List.map_nil, List.replicate_succ, List.replicate_zero, List.cons_append, List.nil_append, List.getElem?_cons_zero, List.getElem?_cons_succ, List.set_cons_zero, List.set_cons_succ, Nat.reduceSub, VM.wipe, List.length_cons, List.length_nil, Nat.reduceAdd, h1, hs, e0, e1, e2, e3, e4, hc1, hc2, decide_true, decide_false, Bool.false_eq_true, if_true, if_false, List.length_map]
      exact key
    · simp only [VM.sNil, VM.sCons, VM.sSet, VM.sPar, VM.sSetIx, VM.setIx, VM.sExpr, VM.sRet, VM.sRetN, VM.sIf, VM.sBreak, VM.sCont, VM.sFor, VM.gName, VM.gTup, VM.gEach, VM.eVar, VM.eC, VM.eBin, VM.eNeg, VM.eCmp, VM.eChain, VM.tOf, VM.tCmp, VM.tChain, VM.tAnd, VM.tOr, VM.tNot, VM.tYes, VM.eTest, VM.eAnd, VM.eOr, VM.eNot, VM.eIf, VM.aNil, VM.aCons, VM.eLst, VM.eLstM, VM.eTup, VM.eCall, VM.eIx, VM.getIx, VM.eSl, VM.getSl, VM.iE, VM.iRange1, VM.iRange2, VM.iZip, VM.iRev, VM.eComp, VM.eCompM, VM.eAppend, VM.eInsert, VM.eB1, VM.fLen, VM.fAbs, VM.fInt, VM.fList, VM.fListM, VM.fTuple, VM.fSum, VM.fAll, VM.fAny, VM.fIsi, VM.bLen, VM.seqOf, VM.sq, VM.asL, VM.items, VM.isSeq, VM.truth, VM.opBin, VM.opAdd, VM.opSub, VM.opMul, VM.opFdiv, VM.opMod, VM.opPow, VM.opCm, VM.opEq, VM.frz, VM.isD, VM.eqv, VM.isNon, VM.kdOf, VM.D0, VM.turn, List.map_cons, List.map_nil, List.replicate_succ, List.replicate_zero, List.cons_append, List.nil_append, List.getElem?_cons_zero, List.getElem?_cons_succ, List.set_cons_zero, List.set_cons_succ, Nat.reduceSub, VM.wipe, List.length_cons, List.length_nil, Nat.reduceAdd, h1, hs, e0, e1, e2, e3, e4, hc1, decide_false, Bool.false_eq_true, if_false, List.length_map]
      exact key
end VP
end
section
namespace VP
open VM
/-- draws at most c, then R -/
def Dr (cs : CS) (f : Nat) (args : List PV) (r c : Nat) (st : Store) (R : PV → Store → Prop) : Prop := ∀ (b : Nat) (k x : KV), Bag st r (b + c) → (∀ v st', R v st' → Bag st' r b → Keep r st st' → k v st') → cs f (.ref r :: args) st k x
def SpOf (cs : CS) : Prop := ∀ (r : Nat) (things : PV) (xs : List PV) (st : Store), asL st things = some xs → xs ≠ [] → things ≠ .ref r → (∀ j, things = .ref j → j < st.length) → Dr cs 2 [things] r 1 st fun v _ => v ∈ xs
theorem asL_keep {r : Nat} {st st' : Store} {u : PV} {xs : List PV} (h : asL st u = some xs) (hr : u ≠ .ref r) (k : Keep r st st') : asL st' u = some xs := by
  cases u <;> simp only [asL] at h ⊢ <;> try exact h
  rename_i i
  have hi : i < st.length := by
    cases e : st[i]? with
    | none => rw [e] at h; cases h
    | some o => exact (List.getElem?_eq_some_iff.mp e).1
  rw [k.2 i (fun z => hr (by rw [z])) hi]
  exact h
theorem bLen_asL {st : Store} {u : PV} {xs : List PV} (h : asL st u = some xs) : bLen u st = some xs.length := by
  cases u <;> simp only [asL] at h <;> first | (cases h; done) | skip
  · cases h; rfl
  · simp only [bLen, asL, h]
theorem getIx_asL {st : Store} {u : PV} {xs : List PV} {i : Int} {n : Nat} {y : PV} {k : KV} (h : asL st u = some xs) (hi : ix xs.length i = some n) (hy : xs[n]? = some y) (hk : k y st) : getIx u (.int i) st k := by
  have e : getIx u (.int i) st k = match asL st u with | some xs => (match ix xs.length i with | some n => (match xs[n]? with | some y => k y st | none => False) | none => False) | none => False := by
    cases u <;> simp only [asL] at h <;> first | (cases h; done) | rfl
  rw [e, h]
  simp only [hi, hy]
  exact hk
theorem ixN {n : Nat} {i : Int} (h0 : 0 ≤ i) (h : i < n) : ix n i = some i.toNat := by
  unfold ix
  rw [if_pos h0, if_pos h]
theorem of_at {FT : Nat → Option FD} {d : Nat} (hF : FT 2 = some ⟨2, 2, T__law_of⟩) (h1 : At FT d SpTake) : At FT (d + 1) SpOf := at_of hF h1 fun cs cs' tk go => by
  intro r things xs st hx hne hr hlt b k x hb hk
  refine go _ _ _ _ rfl ?_
  have hl : (0 : Int) < (xs.length : Int) := by
    cases xs with
    | nil => exact (hne rfl).elim
    | cons => simp
  simp only [T__law_of, VM.sRet, VM.eIx, VM.eCall, VM.aCons, VM.aNil, VM.eVar, VM.eB1, VM.fLen, List.map_cons, List.map_nil, List.cons_append, List.nil_append, List.getElem?_cons_zero, List.getElem?_cons_succ, bLen_asL hx]
  refine tk r _ hl st b _ _ hb fun v st' hv hb' kp => ?_
  obtain ⟨dd, rfl, d0, d1⟩ := hv
  have hi := ixN d0 (by simpa using d1)
  have hn : dd.toNat < xs.length := by omega
  exact getIx_asL (asL_keep hx hr kp) hi (List.getElem?_eq_getElem hn) (hk _ _ (List.getElem_mem hn) hb' kp)
def SpSmall (cs : CS) : Prop := ∀ (r : Nat) (st : Store), Dr cs 3 [] r 1 st fun v _ => ∃ c : Int, v = .int c ∧ c.natAbs ≤ 12
theorem small_at {FT : Nat → Option FD} {d : Nat} (hF : FT 3 = some ⟨1, 1, T__law_small⟩) (h1 : At FT d SpOf) : At FT (d + 1) SpSmall := at_of hF h1 fun cs cs' of go => by
  intro r st b k x hb hk
  refine go _ _ _ _ rfl ?_
  simp only [T__law_small, VM.sNil, VM.sCons, VM.sSet, VM.sPar, VM.sSetIx, VM.setIx, VM.sExpr, VM.sRet, VM.sRetN, VM.sIf, VM.sBreak, VM.sCont, VM.sFor, VM.gName, VM.gTup, VM.gEach, VM.eVar, VM.eC, VM.eBin, VM.eNeg, VM.eCmp, VM.eChain, VM.tOf, VM.tCmp, VM.tChain, VM.tAnd, VM.tOr, VM.tNot, VM.tYes, VM.eTest, VM.eAnd, VM.eOr, VM.eNot, VM.eIf, VM.aNil, VM.aCons, VM.eLst, VM.eLstM, VM.eTup, VM.eCall, VM.eIx, VM.getIx, VM.eSl, VM.getSl, VM.iE, VM.iRange1, VM.iRange2, VM.iZip, VM.iRev, VM.eComp, VM.eCompM, VM.eAppend, VM.eInsert, VM.eB1, VM.fLen, VM.fAbs, VM.fInt, VM.fList, VM.fListM, VM.fTuple, VM.fSum, VM.fAll, VM.fAny, VM.fIsi, VM.bLen, VM.seqOf, VM.sq, VM.asL, VM.items, VM.isSeq, VM.truth, VM.opBin, VM.opAdd, VM.opSub, VM.opMul, VM.opFdiv, VM.opMod, VM.opPow, VM.opCm, VM.opEq, VM.frz, VM.isD, VM.eqv, VM.isNon, VM.kdOf, VM.D0, VM.turn, List.map_cons, List.map_nil, List.replicate_succ, List.replicate_zero, List.cons_append, List.nil_append, List.getElem?_cons_zero, List.getElem?_cons_succ, List.set_cons_zero, List.set_cons_succ, Nat.reduceSub, VM.wipe, List.length_cons, List.length_nil, Nat.reduceAdd]
  refine ⟨by decide, ?_⟩
  refine of r (.lst _) _ st rfl (by simp) (by simp) (fun _ e => by cases e) b _ _ hb fun v st' hv hb' kp => ?_
  refine hk _ _ ?_ hb' kp
  simp only [List.mem_cons, List.not_mem_nil, or_false] at hv
  rcases hv with h | h | h | h | h | h | h | h | h | h | h | h <;> exact ⟨_, h, by decide⟩
def SpBig (cs : CS) : Prop := ∀ (r : Nat) (st : Store), Dr cs 4 [] r 2 st fun v _ => ∃ c : Int, v = .int c ∧ c.natAbs ≤ 1000
theorem big_at {FT : Nat → Option FD} {d : Nat} (hF : FT 4 = some ⟨1, 1, T__law_big_factor⟩) (h1 : At FT d SpTake) (h2 : At FT d SpSmall) : At FT (d + 1) SpBig := at_of (C := fun cs => SpTake cs ∧ SpSmall cs) hF (fun n hn => ⟨h1 n hn, h2 n hn⟩) fun cs cs' C go => by
  obtain ⟨tk, sm⟩ := C
  intro r st b k x hb hk
  refine go _ _ _ _ rfl ?_
  simp only [T__law_big_factor, VM.sNil, VM.sCons, VM.sSet, VM.sPar, VM.sSetIx, VM.setIx, VM.sExpr, VM.sRet, VM.sRetN, VM.sIf, VM.sBreak, VM.sCont, VM.sFor, VM.gName, VM.gTup, VM.gEach, VM.eVar, VM.eC, VM.eBin, VM.eNeg, VM.eCmp, VM.eChain, VM.tOf, VM.tCmp, VM.tChain, VM.tAnd, VM.tOr, VM.tNot, VM.tYes, VM.eTest, VM.eAnd, VM.eOr, VM.eNot, VM.eIf, VM.aNil, VM.aCons, VM.eLst, VM.eLstM, VM.eTup, VM.eCall, VM.eIx, VM.getIx, VM.eSl, VM.getSl, VM.iE, VM.iRange1, VM.iRange2, VM.iZip, VM.iRev, VM.eComp, VM.eCompM, VM.eAppend, VM.eInsert, VM.eB1, VM.fLen, VM.fAbs, VM.fInt, VM.fList, VM.fListM, VM.fTuple, VM.fSum, VM.fAll, VM.fAny, VM.fIsi, VM.bLen, VM.seqOf, VM.sq, VM.asL, VM.items, VM.isSeq, VM.truth, VM.opBin, VM.opAdd, VM.opSub, VM.opMul, VM.opFdiv, VM.opMod, VM.opPow, VM.opCm, VM.opEq, VM.frz, VM.isD, VM.eqv, VM.isNon, VM.kdOf, VM.D0, VM.turn, List.map_cons, List.map_nil, List.replicate_succ, List.replicate_zero, List.cons_append, List.nil_append, List.getElem?_cons_zero, List.getElem?_cons_succ, List.set_cons_zero, List.set_cons_succ, Nat.reduceSub, VM.wipe, List.length_cons, List.length_nil, Nat.reduceAdd]
  refine tk r 5 (by decide) st (b + 1) _ _ hb fun v st1 hv hb1 k1 => ?_
  obtain ⟨dd, rfl, d0, d1⟩ := hv
  simp only []
  by_cases h : (0 : Int) < dd
  · simp only [h, decide_true, if_true]
    exact sm r st1 b _ _ hb1 fun v st2 hv hb2 k2 => hk _ _ (by obtain ⟨c, rfl, hc⟩ := hv; exact ⟨c, rfl, by omega⟩) hb2 (k1.trans k2)
  · simp only [h, decide_false, Bool.false_eq_true, if_false]
    refine tk r 2001 (by decide) st1 b _ _ hb1 fun v st2 hv hb2 k2 => ?_
    obtain ⟨ee, rfl, e0, e1⟩ := hv
    simp only []
    exact hk _ _ ⟨_, rfl, by omega⟩ hb2 (k1.trans k2)
/-- rows of one length, no entry over B -/
def Rows (w : Nat) (B : Nat) (vs : List (List Int)) : Prop := ∀ v ∈ vs, v.length = w ∧ ∀ a ∈ v, a.natAbs ≤ B
theorem Rows.mono {w B B' : Nat} {vs : List (List Int)} (h : Rows w B vs) (hb : B ≤ B') : Rows w B' vs := fun v m => ⟨(h v m).1, fun a ha => Nat.le_trans ((h v m).2 a ha) hb⟩
/-- a list of draws -/
theorem comp_draw {cs : CS} {f r c B : Nat} {i : Nat} {own : List Nat} {ρ : Env} {st : Store} {b : Nat} {k : List PV → Store → Prop} (hf : ∀ st, Dr cs f [] r c st fun v _ => ∃ a : Int, v = .int a ∧ a.natAbs ≤ B) (xs : List PV) (hi : i ≠ 0) (hρ : ρ[0]? = some (some (.ref r)))
    (hl : xs.length ≤ SZ) (hb : Bag st r (b + xs.length * c)) (hk : ∀ (v : List Int) st', v.length = xs.length → (∀ a ∈ v, a.natAbs ≤ B) → Bag st' r b → Keep r st st' → k (pvis v) st') :
    compGo (gName i) tYes (eCall cs f (aCons (eVar 0) aNil)) own (fun _ => True) xs [] ρ st k := by
  refine comp_inv (fun rem acc st' => ∃ v : List Int, acc = pvis v ∧ v.length + rem.length = xs.length ∧ (∀ a ∈ v, a.natAbs ≤ B) ∧ Bag st' r (b + rem.length * c) ∧ Keep r st st') ?_ ?_ xs [] st ⟨[], rfl, by simp, by simp, hb, Keep.refl⟩
  · rintro v rem acc st' ⟨u, rfl, h2, h3, h4, h5⟩
    refine ⟨trivial, fun k' hk' => ?_⟩
    have e0 : (ρ.set i (some v))[0]? = some (some (.ref r)) := by rw [List.getElem?_set_ne hi]; exact hρ
    simp only [turn, gName, tYes, eCall, aCons, aNil, eVar, e0, if_true]
    rw [List.length_cons] at h2 h4
    refine hf st' (b + rem.length * c) _ _ (by rw [Nat.add_mul, Nat.one_mul, ← Nat.add_assoc] at h4; exact h4) fun y st2 hy hb2 k2 => ?_
    obtain ⟨a, rfl, ha⟩ := hy
    refine hk' _ _ ⟨by simp [pvis]; omega, u ++ [a], by simp [pvis], by rw [List.length_append, List.length_singleton]; omega, fun z hz => ?_, hb2, h5.trans k2⟩
    rcases List.mem_append.mp hz with hz | hz
    · exact h3 z hz
    · rw [List.mem_singleton.mp hz]; exact ha
  · rintro acc st' ⟨u, rfl, h2, h3, h4, h5⟩
    exact ⟨trivial, hk u st' (by simpa using h2) h3 (h4.le (by simp)) h5⟩
end VP
end
section
namespace VP
open VM
theorem isDL_ints {n : Nat} : ∀ v : List Int, isDL n (pvis v) = true
  | [] => by simp [pvis, isDL]
  | a :: v => by
    show isDL n (.int a :: pvis v) = true
    rw [isDL, isDL_ints v]
    simp [isD]
theorem isDL_itup {n : Nat} : ∀ vs : List (List Int), isDL (n + 1) (vs.map itup) = true
  | [] => by simp [isDL]
  | v :: vs => by
    rw [List.map_cons, isDL, isDL_itup vs, isD, isDL_ints v]
    simp
theorem isDL_ilst {n : Nat} : ∀ vs : List (List Int), isDL (n + 1) (vs.map ilst) = true
  | [] => by simp [isDL]
  | v :: vs => by
    rw [List.map_cons, isDL, isDL_ilst vs, isD, isDL_ints v]
    simp
def SpVecs (cs : CS) : Prop := ∀ (r many width : Nat) (st : Store), many ≤ 20 → width ≤ 20 → Dr cs 5 [.int many, .int width] r (many * (3 * width + 2)) st fun v st' => ∃ vs : List (List Int), v = .ref st.length ∧ st'[st.length]? = some (.lst (vs.map itup)) ∧ vs.length = many ∧ Rows width (1000 * 2 ^ many) vs
theorem ints_get {v : List Int} {i : Nat} {a : PV} (h : (pvis v)[i]? = some a) : ∃ z, a = .int z ∧ v[i]? = some z := by
  rw [List.getElem?_map] at h
  cases e : v[i]? with
  | none => rw [e] at h; cases h
  | some z => rw [e] at h; cases h; exact ⟨z, rfl, rfl⟩
theorem mem_ints {v : List Int} {a : PV} (h : a ∈ pvis v) : ∃ z, a = .int z ∧ z ∈ v := by
  obtain ⟨z, hz, rfl⟩ := List.mem_map.mp h
  exact ⟨z, rfl, hz⟩
theorem range_len (n : Nat) : ((List.range n).map fun (i : Nat) => PV.int (i : Int)).length = n := by simp
theorem mem_range {n : Nat} {v : PV} (h : v ∈ (List.range n).map fun (i : Nat) => PV.int (i : Int)) : ∃ i : Nat, i < n ∧ v = .int i := by
  obtain ⟨i, hi, rfl⟩ := List.mem_map.mp h
  exact ⟨i, List.mem_range.mp hi, rfl⟩
def vecsMid (cs : CS) : TS := (sCons (sIf (tCmp .eq (eVar 5) (eC (.int 1))) (sSet (gName 6) (eComp (iRange1 (eVar 2)) (gName 7) tYes (eIf (tCmp .lt (eVar 7) (eCall cs 1 (aCons (eVar 0) (aCons (eBin .add (eVar 2) (eC (.int 1))) aNil)))) (eC (.int 0)) (eIx (eVar 6) (eVar 7))) [7])) sNil)
          (sExpr (eAppend (eVar 3) (eB1 fTuple (eVar 6)))))
set_option maxHeartbeats 2000000 in
theorem vecs_at {FT : Nat → Option FD} {d : Nat} (hF : FT 5 = some ⟨3, 9, T__law_drawn_vectors⟩) (h1 : At FT d SpTake) (h2 : At FT d SpOf) (h3 : At FT d SpBig) : At FT (d + 1) SpVecs := at_of (C := fun cs => SpTake cs ∧ SpOf cs ∧ SpBig cs) hF (fun n hn => ⟨h1 n hn, h2 n hn, h3 n hn⟩) fun cs cs' C go => by
  obtain ⟨tk, of, bg⟩ := C
  intro r many width st0 hm hw b k x hb hk
  refine go _ _ _ _ rfl ?_
  have hr0 := hb.lt
  show (sCons (sSet (gName 3) (eLstM aNil)) (sCons (sFor (iRange1 (eVar 1)) (gName 4) _) (sRet (eVar 3)))) _ _ _
  simp only [VM.sNil, VM.sCons, VM.sSet, VM.sPar, VM.sSetIx, VM.setIx, VM.sExpr, VM.sRet, VM.sRetN, VM.sIf, VM.sBreak, VM.sCont, VM.sFor, VM.gName, VM.gTup, VM.gEach, VM.eVar, VM.eC, VM.eBin, VM.eNeg, VM.eCmp, VM.eChain, VM.tOf, VM.tCmp, VM.tChain, VM.tAnd, VM.tOr, VM.tNot, VM.tYes, VM.eTest, VM.eAnd, VM.eOr, VM.eNot, VM.eIf, VM.aNil, VM.aCons, VM.eLst, VM.eLstM, VM.eTup, VM.eCall, VM.eIx, VM.getIx, VM.eSl, VM.getSl, VM.iE, VM.iRange1, VM.iRange2, VM.iZip, VM.iRev, VM.eComp, VM.eCompM, VM.eAppend, VM.eInsert, VM.eB1, VM.fLen, VM.fAbs, VM.fInt, VM.fList, VM.fListM, VM.fTuple, VM.fSum, VM.fAll, VM.fAny, VM.fIsi, VM.bLen, VM.seqOf, VM.sq, VM.asL, VM.items, VM.isSeq, VM.truth, VM.opBin, VM.opAdd, VM.opSub, VM.opMul, VM.opFdiv, VM.opMod, VM.opPow, VM.opCm, VM.opEq, VM.frz, VM.isD, VM.eqv, VM.isNon, VM.kdOf, VM.D0, VM.turn, List.map_cons, List.map_nil, List.replicate_succ, List.replicate_zero, List.cons_append, List.nil_append, List.getElem?_cons_zero, List.getElem?_cons_succ, List.set_cons_zero, List.set_cons_succ, Nat.reduceSub, VM.wipe, List.length_cons, List.length_nil, Nat.reduceAdd, Int.toNat_natCast]
  refine ⟨by decide, by unfold i62; omega, ?_⟩
  generalize hj : st0.length = j at hk ⊢
  refine for_inv (fun rem ρ st => ∃ (a4 a5 a6 a7 a8 : Option PV) (vs : List (List Int)), ρ = [some (.ref r), some (.int many), some (.int width), some (.ref j), a4, a5, a6, a7, a8] ∧ Bag st r (b + rem.length * (3 * width + 2)) ∧ Keep r st0 st ∧ j < st.length ∧ st[j]? = some (.lst (vs.map itup)) ∧ vs.length + rem.length = many ∧ Rows width (1000 * 2 ^ vs.length) vs) ?_ ?_ _ _ _ ?_
  rotate_left
  · rintro ρ st ⟨a4, a5, a6, a7, a8, vs, rfl, q1, q2, q3, q4, q5, q6⟩
    refine ⟨trivial, ?_⟩
    have e5 : vs.length = many := by simpa using q5
    simp only [VM.sNil, VM.sCons, VM.sSet, VM.sPar, VM.sSetIx, VM.setIx, VM.sExpr, VM.sRet, VM.sRetN, VM.sIf, VM.sBreak, VM.sCont, VM.sFor, VM.gName, VM.gTup, VM.gEach, VM.eVar, VM.eC, VM.eBin, VM.eNeg, VM.eCmp, VM.eChain, VM.tOf, VM.tCmp, VM.tChain, VM.tAnd, VM.tOr, VM.tNot, VM.tYes, VM.eTest, VM.eAnd, VM.eOr, VM.eNot, VM.eIf, VM.aNil, VM.aCons, VM.eLst, VM.eLstM, VM.eTup, VM.eCall, VM.eIx, VM.getIx, VM.eSl, VM.getSl, VM.iE, VM.iRange1, VM.iRange2, VM.iZip, VM.iRev, VM.eComp, VM.eCompM, VM.eAppend, VM.eInsert, VM.eB1, VM.fLen, VM.fAbs, VM.fInt, VM.fList, VM.fListM, VM.fTuple, VM.fSum, VM.fAll, VM.fAny, VM.fIsi, VM.bLen, VM.seqOf, VM.sq, VM.asL, VM.items, VM.isSeq, VM.truth, VM.opBin, VM.opAdd, VM.opSub, VM.opMul, VM.opFdiv, VM.opMod, VM.opPow, VM.opCm, VM.opEq, VM.frz, VM.isD, VM.eqv, VM.isNon, VM.kdOf, VM.D0, VM.turn, List.map_cons, List.map_nil, List.replicate_succ, List.replicate_zero, List.cons_append, List.nil_append, List.getElem?_cons_zero, List.getElem?_cons_succ, List.set_cons_zero, List.set_cons_succ, Nat.reduceSub, VM.wipe, List.length_cons, List.length_nil, Nat.reduceAdd]
    exact hk _ _ ⟨vs, rfl, q4, e5, e5 ▸ q6⟩ (q1.le (by simp)) q2
  · refine ⟨_, _, _, _, _, [], rfl, by rw [range_len]; exact hb.app, Keep.app, by simp [hj], by rw [← hj]; simp, by simp, fun v m => by cases m⟩
  · rintro v rem ρ st ⟨a4, a5, a6, a7, a8, vs, rfl, q1, q2, q3, q4, q5, q6⟩
    refine ⟨trivial, fun D' d1 d2 d3 d4 d5 => ?_⟩
    rw [List.length_cons] at q5 q1
    have q1' : Bag st r (b + rem.length * (3 * width + 2) + width + 1 + (2 * width) + 1) := q1.le (by rw [Nat.add_mul]; omega)
    have hjr : j ≠ r := by omega
    -- the last step
    have fin : ∀ (row : List Int) (st1 : Store) (p5 p7 p8 : Option PV), row.length = width → (∀ a ∈ row, a.natAbs ≤ 1000 * 2 ^ (vs.length + 1)) → Bag st1 r (b + rem.length * (3 * width + 2)) → Keep r st st1 →
        sExpr (eAppend (eVar 3) (eB1 fTuple (eVar 6))) D' [some (.ref r), some (.int many), some (.int width), some (.ref j), some v, p5, some (.lst (pvis row)), p7, p8] st1 := by
      intro row st1 p5 p7 p8 hr hB hb1 k1
      have ej : st1[j]? = some (.lst (vs.map itup)) := (k1.2 j hjr q3).trans q4
      simp only [VM.sNil, VM.sCons, VM.sSet, VM.sPar, VM.sSetIx, VM.setIx, VM.sExpr, VM.sRet, VM.sRetN, VM.sIf, VM.sBreak, VM.sCont, VM.sFor, VM.gName, VM.gTup, VM.gEach, VM.eVar, VM.eC, VM.eBin, VM.eNeg, VM.eCmp, VM.eChain, VM.tOf, VM.tCmp, VM.tChain, VM.tAnd, VM.tOr, VM.tNot, VM.tYes, VM.eTest, VM.eAnd, VM.eOr, VM.eNot, VM.eIf, VM.aNil, VM.aCons, VM.eLst, VM.eLstM, VM.eTup, VM.eCall, VM.eIx, VM.getIx, VM.eSl, VM.getSl, VM.iE, VM.iRange1, VM.iRange2, VM.iZip, VM.iRev, VM.eComp, VM.eCompM, VM.eAppend, VM.eInsert, VM.eB1, VM.fLen, VM.fAbs, VM.fInt, VM.fList, VM.fListM, VM.fTuple, VM.fSum, VM.fAll, VM.fAny, VM.fIsi, VM.bLen, VM.seqOf, VM.sq, VM.asL, VM.items, VM.isSeq, VM.truth, VM.opBin, VM.opAdd, VM.opSub, VM.opMul, VM.opFdiv, VM.opMod, VM.opPow, VM.opCm, VM.opEq, VM.frz, VM.isD, VM.eqv, VM.isNon, VM.kdOf, VM.D0, VM.turn, List.map_cons, List.map_nil, List.replicate_succ, List.replicate_zero, List.cons_append, List.nil_append, List.getElem?_cons_zero, List.getElem?_cons_succ, List.set_cons_zero, List.set_cons_succ, Nat.reduceSub, VM.wipe, List.length_cons, List.length_nil, Nat.reduceAdd, ej]
      refine ⟨rfl, by rw [List.length_map]; show _ < 16777216; omega, d4 _ _ ⟨_, _, _, _, _, vs ++ [row], rfl, ?_, ⟨by rw [List.length_set]; exact (q2.trans k1).1, fun i hi hl => by rw [List.getElem?_set_ne (by omega)]; exact (q2.trans k1).2 i hi hl⟩, ?_, ?_, ?_, ?_⟩⟩
      · obtain ⟨c, i, dg, m, t, g1, g2⟩ := hb1
        exact ⟨c, i, dg, m, t, by rw [List.getElem?_set_ne hjr]; exact g1, g2⟩
      · rw [List.length_set]; exact Nat.lt_of_lt_of_le q3 k1.1
      · rw [set_self ej, List.map_append]
        rfl
      · rw [List.length_append, List.length_singleton]; omega
      · rw [List.length_append, List.length_singleton]
        intro u mu
        rcases List.mem_append.mp mu with mu | mu
        · exact ((q6.mono (Nat.mul_le_mul_left _ (Nat.pow_le_pow_right (by decide) (Nat.le_succ _)))) u mu)
        · rw [List.mem_singleton.mp mu]; exact ⟨hr, hB⟩
    -- the step of kind 1
    have mid : ∀ (row : List Int) (st1 : Store) (kind : Int) (p7 p8 : Option PV), row.length = width → (∀ a ∈ row, a.natAbs ≤ 1000 * 2 ^ (vs.length + 1)) → Bag st1 r (b + rem.length * (3 * width + 2) + width) → Keep r st st1 →
        vecsMid cs D' [some (.ref r), some (.int many), some (.int width), some (.ref j), some v, some (.int kind), some (.lst (pvis row)), p7, p8] st1 := by
      intro row st1 kind p7 p8 hr hB hb1 k1
      simp only [vecsMid, sCons, sIf, tCmp, eVar, eC, opCm, opEq, frz, isD, eqv, List.getElem?_cons_zero, List.getElem?_cons_succ]
      refine ⟨trivial, trivial, ?_⟩
      by_cases hk1 : (kind == 1) = true
      · rw [if_pos hk1]
        simp only [VM.sNil, VM.sCons, VM.sSet, VM.sPar, VM.sSetIx, VM.setIx, VM.sExpr, VM.sRet, VM.sRetN, VM.sIf, VM.sBreak, VM.sCont, VM.sFor, VM.gName, VM.gTup, VM.gEach, VM.eVar, VM.eC, VM.eBin, VM.eNeg, VM.eCmp, VM.eChain, VM.tOf, VM.tCmp, VM.tChain, VM.tAnd, VM.tOr, VM.tNot, VM.tYes, VM.eTest, VM.eAnd, VM.eOr, VM.eNot, VM.eIf, VM.aNil, VM.aCons, VM.eLst, VM.eLstM, VM.eTup, VM.eCall, VM.eIx, VM.getIx, VM.eSl, VM.getSl, VM.iE, VM.iRange1, VM.iRange2, VM.iZip, VM.iRev, VM.eComp, VM.eCompM, VM.eAppend, VM.eInsert, VM.eB1, VM.fLen, VM.fAbs, VM.fInt, VM.fList, VM.fListM, VM.fTuple, VM.fSum, VM.fAll, VM.fAny, VM.fIsi, VM.bLen, VM.seqOf, VM.sq, VM.asL, VM.items, VM.isSeq, VM.truth, VM.opBin, VM.opAdd, VM.opSub, VM.opMul, VM.opFdiv, VM.opMod, VM.opPow, VM.opCm, VM.opEq, VM.frz, VM.isD, VM.eqv, VM.isNon, VM.kdOf, VM.D0, VM.turn, List.map_cons, List.map_nil, List.replicate_succ, List.replicate_zero, List.cons_append, List.nil_append, List.getElem?_cons_zero, List.getElem?_cons_succ, List.set_cons_zero, List.set_cons_succ, Nat.reduceSub, VM.wipe, List.length_cons, List.length_nil, Nat.reduceAdd, Int.toNat_natCast]
        refine ⟨by unfold i62; omega, ?_⟩
        refine comp_inv (fun rm acc st' => ∃ u : List Int, acc = pvis u ∧ u.length + rm.length = width ∧ (∀ a ∈ u, a.natAbs ≤ 1000 * 2 ^ (vs.length + 1)) ∧ (∀ y ∈ rm, ∃ i : Nat, i < width ∧ y = .int i) ∧ Bag st' r (b + rem.length * (3 * width + 2) + rm.length) ∧ Keep r st1 st') ?_ ?_ _ [] st1 ⟨[], rfl, by simp, by simp, fun y hy => mem_range hy, by rw [range_len]; exact hb1, Keep.refl⟩
        · rintro y rm acc st2 ⟨u, rfl, g1, g2, g3, g4, g5⟩
          refine ⟨trivial, fun k' hk' => ?_⟩
          obtain ⟨i, hi, rfl⟩ := g3 y (List.mem_cons_self ..)
          rw [List.length_cons] at g1 g4
          simp only [VM.sNil, VM.sCons, VM.sSet, VM.sPar, VM.sSetIx, VM.setIx, VM.sExpr, VM.sRet, VM.sRetN, VM.sIf, VM.sBreak, VM.sCont, VM.sFor, VM.gName, VM.gTup, VM.gEach, VM.eVar, VM.eC, VM.eBin, VM.eNeg, VM.eCmp, VM.eChain, VM.tOf, VM.tCmp, VM.tChain, VM.tAnd, VM.tOr, VM.tNot, VM.tYes, VM.eTest, VM.eAnd, VM.eOr, VM.eNot, VM.eIf, VM.aNil, VM.aCons, VM.eLst, VM.eLstM, VM.eTup, VM.eCall, VM.eIx, VM.getIx, VM.eSl, VM.getSl, VM.iE, VM.iRange1, VM.iRange2, VM.iZip, VM.iRev, VM.eComp, VM.eCompM, VM.eAppend, VM.eInsert, VM.eB1, VM.fLen, VM.fAbs, VM.fInt, VM.fList, VM.fListM, VM.fTuple, VM.fSum, VM.fAll, VM.fAny, VM.fIsi, VM.bLen, VM.seqOf, VM.sq, VM.asL, VM.items, VM.isSeq, VM.truth, VM.opBin, VM.opAdd, VM.opSub, VM.opMul, VM.opFdiv, VM.opMod, VM.opPow, VM.opCm, VM.opEq, VM.frz, VM.isD, VM.eqv, VM.isNon, VM.kdOf, VM.D0, VM.turn, List.map_cons, List.map_nil, List.replicate_succ, List.replicate_zero, List.cons_append, List.nil_append, List.getElem?_cons_zero, List.getElem?_cons_succ, List.set_cons_zero, List.set_cons_succ, Nat.reduceSub, VM.wipe, List.length_cons, List.length_nil, Nat.reduceAdd, if_true]
          refine tk r ((width : Int) + 1) (by omega) st2 _ _ _ (by rw [← Nat.add_assoc] at g4; exact g4) fun z st3 hz hb3 k3 => ?_
          obtain ⟨dd, rfl, e0, e1⟩ := hz
          have ok : ∀ a : Int, a.natAbs ≤ 1000 * 2 ^ (vs.length + 1) → k' (some (.int a)) st3 := fun a ha => hk' _ _ ⟨by rw [List.length_map]; show _ < 16777216; omega, u ++ [a], by simp [pvis], by rw [List.length_append, List.length_singleton]; omega, fun w' hw' => by
            rcases List.mem_append.mp hw' with hw' | hw'
            · exact g2 w' hw'
            · rw [List.mem_singleton.mp hw']; exact ha, fun y hy => g3 y (List.mem_cons_of_mem _ hy), hb3, g5.trans k3⟩
          simp only []
          by_cases hlt : (i : Int) < dd
          · simp only [hlt, decide_true, if_true]
            exact ok 0 (by simp)
          · have hir : i < row.length := hr.symm ▸ hi
            have er : row[i]? = some row[i] := List.getElem?_eq_getElem hir
            have ei : ix row.length (i : Int) = some i := by rw [ixN (by omega) (by omega)]; simp
            simp only [hlt, decide_false, Bool.false_eq_true, if_false, List.length_map, ei, List.getElem?_map, er, Option.map_some]
            exact ok _ (hB _ (List.getElem_mem _))
        · rintro acc st2 ⟨u, rfl, g1, g2, g3, g4, g5⟩
          exact ⟨trivial, fin u st2 _ _ _ (by simpa using g1) g2 (g4.le (by simp)) (k1.trans g5)⟩
      · rw [if_neg hk1]
        exact fin row st1 _ _ _ hr hB (hb1.le (by omega)) k1
    show gName 4 v _ st _
    show (sCons (sSet (gName 5) (eCall cs 1 _)) (sCons (sSet (gName 6) (eComp (iRange1 (eVar 2)) (gName 7) tYes (eCall cs 4 (aCons (eVar 0) aNil)) [7])) (sCons (sIf _ _ sNil) (vecsMid cs)))) _ _ _
    simp only [sCons, sSet, eCall, aCons, aNil, eVar, eC, List.set_cons_succ, List.set_cons_zero, List.getElem?_cons_zero, List.getElem?_cons_succ]
    refine tk r 5 (by decide) st _ _ _ q1' fun z st1 hz hb1 k1 => ?_
    obtain ⟨kind, rfl, e0, e1⟩ := hz
    simp only [gName, eComp, iRange1, eVar, wipe, List.set_cons_succ, List.set_cons_zero, List.getElem?_cons_zero, List.getElem?_cons_succ, Int.toNat_natCast]
    refine ⟨by unfold i62; omega, ?_⟩
    refine comp_draw (cs := cs) (r := r) (c := 2) (B := 1000) (b := b + rem.length * (3 * width + 2) + width + 1) (fun st => bg r st) _ (by decide) rfl (by rw [range_len]; show _ ≤ 16777216; omega) (by rw [range_len]; exact hb1.le (by omega)) fun row st2 hl2 hB2 hb2 k2 => ?_
    rw [range_len] at hl2
    have hB2' : ∀ a ∈ row, a.natAbs ≤ 1000 * 2 ^ (vs.length + 1) := fun a ha => Nat.le_trans (hB2 a ha) (Nat.le_mul_of_pos_right _ (Nat.two_pow_pos _))
    have ej2 : st2[j]? = some (.lst (vs.map itup)) := ((k1.trans k2).2 j hjr q3).trans q4
    simp only [gName, sCons, sIf, sNil, tAnd, tCmp, eVar, eC, eLst, aNil, opCm, opEq, frz, isD, eqv, gName, List.set_cons_succ, List.set_cons_zero, List.getElem?_cons_zero, List.getElem?_cons_succ, ej2]
    refine ⟨trivial, trivial, ?_⟩
    by_cases hk0 : (kind == 0) = true
    · rw [if_pos hk0]
      refine ⟨by decide, isDL_itup vs, by simp [isDL], ?_⟩
      by_cases hv : vs = []
      · subst hv
        exact mid row st2 kind _ _ hl2 hB2' (hb2.le (by omega)) (k1.trans k2)
      · have e1 : eqvL (vs.map itup) [] = false := by
          cases vs with
          | nil => exact (hv rfl).elim
          | cons => rfl
        rw [e1]
        simp only [Bool.not_false, if_true, sSet, eComp, iE, eCall, aCons, aNil, eVar, gName, List.set_cons_succ, List.set_cons_zero, List.getElem?_cons_zero, List.getElem?_cons_succ]
        refine of r (.ref j) (vs.map itup) st2 (by simp [asL, ej2]) (by simpa using hv) (by simp [hjr]) (fun i e => by cases e; exact (List.getElem?_eq_some_iff.mp ej2).1) _ _ _ (hb2.le (b' := b + rem.length * (3 * width + 2) + width + 1) (by omega)) fun z st3 hz hb3 k3 => ?_
        obtain ⟨u, hu, rfl⟩ := List.mem_map.mp hz
        simp only [items, isSeq, wipe, List.set_cons_succ, List.set_cons_zero]
        refine ⟨trivial, ?_⟩
        obtain ⟨lu, bu⟩ := q6 u hu
        refine comp_map (fun y => match y with | .int a => .int (2 * a) | y => y) trivial _ (fun y hy k' hk' => ?_) (by rw [List.length_map]; show _ ≤ 16777216; omega) ?_
        · obtain ⟨a, rfl, ha⟩ := mem_ints hy
          have hba := bu a ha
          have hp : 1000 * 2 ^ vs.length ≤ 1000 * 2 ^ 20 := Nat.mul_le_mul_left _ (Nat.pow_le_pow_right (by decide) (by omega))
          simp only [turn, gName, tYes, eBin, eC, eVar, opBin, opMul, List.set_cons_succ, List.set_cons_zero, List.getElem?_cons_zero, List.getElem?_cons_succ, if_true]
          exact ⟨mulOk64 (by decide) (by omega), hk'⟩
        · have em : (pvis u).map (fun y => match y with | .int a => .int (2 * a) | y => y) = pvis (u.map fun a => 2 * a) := by simp [pvis]
          rw [em]
          refine mid (u.map fun a => 2 * a) st3 kind _ _ (by rw [List.length_map]; exact lu) (fun a ha => ?_) (hb3.le (by omega)) ((k1.trans k2).trans k3)
          obtain ⟨a', ha', rfl⟩ := List.mem_map.mp ha
          have := bu a' ha'
          rw [Nat.pow_succ]
          omega
    · rw [if_neg hk0, if_neg Bool.false_ne_true]
      exact mid row st2 kind _ _ hl2 hB2' (hb2.le (by omega)) (k1.trans k2)
end VP
end
section
namespace VP
open VM
def SpBag0 (cs : CS) : Prop := ∀ (is : List Int) (st : Store) (k x : KV), is.length ≤ 63 → (∀ st', Bag st' st.length (2 ^ 59) → st'.length = st.length + 1 → (∀ i, i < st.length → st'[i]? = st[i]?) → k (.ref st.length) st') → cs 0 [.scr is] st k x
theorem fmodB (a : Int) : (a.fmod M0).natAbs < 2 ^ 63 := by
  have h := fmodM a
  have e : (M0 : Int) = 2147483549 := rfl
  omega
theorem take63 (is : List Int) (h : is.length ≤ 63) : slc (pvis is) none (some 63) = pvis is := by
  unfold slc cutIx
  simp only [List.drop_zero, Nat.sub_zero]
  rw [if_neg (by decide)]
  exact List.take_of_length_le (by rw [List.length_map]; show _ ≤ min 63 is.length; omega)
set_option maxHeartbeats 2000000 in
theorem bag_at {FT : Nat → Option FD} (hF : FT 0 = some ⟨1, 4, T__law_bag⟩) : At FT 1 SpBag0 := at_of (C := fun _ => True) hF (fun _ _ => trivial) fun cs cs' _ go => by
  intro is st k x hl hk
  refine go _ _ _ _ rfl ?_
  simp only [T__law_bag, VM.sNil, VM.sCons, VM.sSet, VM.sPar, VM.sSetIx, VM.setIx, VM.sExpr, VM.sRet, VM.sRetN, VM.sIf, VM.sBreak, VM.sCont, VM.sFor, VM.gName, VM.gTup, VM.gEach, VM.eVar, VM.eC, VM.eBin, VM.eNeg, VM.eCmp, VM.eChain, VM.tOf, VM.tCmp, VM.tChain, VM.tAnd, VM.tOr, VM.tNot, VM.tYes, VM.eTest, VM.eAnd, VM.eOr, VM.eNot, VM.eIf, VM.aNil, VM.aCons, VM.eLst, VM.eLstM, VM.eTup, VM.eCall, VM.eIx, VM.getIx, VM.eSl, VM.getSl, VM.iE, VM.iRange1, VM.iRange2, VM.iZip, VM.iRev, VM.eComp, VM.eCompM, VM.eAppend, VM.eInsert, VM.eB1, VM.fLen, VM.fAbs, VM.fInt, VM.fList, VM.fListM, VM.fTuple, VM.fSum, VM.fAll, VM.fAny, VM.fIsi, VM.bLen, VM.seqOf, VM.sq, VM.asL, VM.items, VM.isSeq, VM.truth, VM.opBin, VM.opAdd, VM.opSub, VM.opMul, VM.opFdiv, VM.opMod, VM.opPow, VM.opCm, VM.opEq, VM.frz, VM.isD, VM.eqv, VM.isNon, VM.kdOf, VM.D0, VM.turn, List.map_cons, List.map_nil, List.replicate_succ, List.replicate_zero, List.cons_append, List.nil_append, List.getElem?_cons_zero, List.getElem?_cons_succ, List.set_cons_zero, List.set_cons_succ, Nat.reduceSub, VM.wipe, List.length_cons, List.length_nil, Nat.reduceAdd, take63 is hl]
  refine ⟨trivial, comp_map (fun v => v) trivial _ (fun v hv k' hk' => ?_) (by rw [List.length_map]; show _ ≤ 16777216; omega) ?_⟩
  · obtain ⟨a, rfl, _⟩ := mem_ints hv
    simp only [VM.sNil, VM.sCons, VM.sSet, VM.sPar, VM.sSetIx, VM.setIx, VM.sExpr, VM.sRet, VM.sRetN, VM.sIf, VM.sBreak, VM.sCont, VM.sFor, VM.gName, VM.gTup, VM.gEach, VM.eVar, VM.eC, VM.eBin, VM.eNeg, VM.eCmp, VM.eChain, VM.tOf, VM.tCmp, VM.tChain, VM.tAnd, VM.tOr, VM.tNot, VM.tYes, VM.eTest, VM.eAnd, VM.eOr, VM.eNot, VM.eIf, VM.aNil, VM.aCons, VM.eLst, VM.eLstM, VM.eTup, VM.eCall, VM.eIx, VM.getIx, VM.eSl, VM.getSl, VM.iE, VM.iRange1, VM.iRange2, VM.iZip, VM.iRev, VM.eComp, VM.eCompM, VM.eAppend, VM.eInsert, VM.eB1, VM.fLen, VM.fAbs, VM.fInt, VM.fList, VM.fListM, VM.fTuple, VM.fSum, VM.fAll, VM.fAny, VM.fIsi, VM.bLen, VM.seqOf, VM.sq, VM.asL, VM.items, VM.isSeq, VM.truth, VM.opBin, VM.opAdd, VM.opSub, VM.opMul, VM.opFdiv, VM.opMod, VM.opPow, VM.opCm, VM.opEq, VM.frz, VM.isD, VM.eqv, VM.isNon, VM.kdOf, VM.D0, VM.turn, List.map_cons, List.map_nil, List.replicate_succ, List.replicate_zero, List.cons_append, List.nil_append, List.getElem?_cons_zero, List.getElem?_cons_succ, List.set_cons_zero, List.set_cons_succ, Nat.reduceSub, VM.wipe, List.length_cons, List.length_nil, Nat.reduceAdd, if_true]
    exact hk'
  · rw [List.map_id']
    simp only [VM.sNil, VM.sCons, VM.sSet, VM.sPar, VM.sSetIx, VM.setIx, VM.sExpr, VM.sRet, VM.sRetN, VM.sIf, VM.sBreak, VM.sCont, VM.sFor, VM.gName, VM.gTup, VM.gEach, VM.eVar, VM.eC, VM.eBin, VM.eNeg, VM.eCmp, VM.eChain, VM.tOf, VM.tCmp, VM.tChain, VM.tAnd, VM.tOr, VM.tNot, VM.tYes, VM.eTest, VM.eAnd, VM.eOr, VM.eNot, VM.eIf, VM.aNil, VM.aCons, VM.eLst, VM.eLstM, VM.eTup, VM.eCall, VM.eIx, VM.getIx, VM.eSl, VM.getSl, VM.iE, VM.iRange1, VM.iRange2, VM.iZip, VM.iRev, VM.eComp, VM.eCompM, VM.eAppend, VM.eInsert, VM.eB1, VM.fLen, VM.fAbs, VM.fInt, VM.fList, VM.fListM, VM.fTuple, VM.fSum, VM.fAll, VM.fAny, VM.fIsi, VM.bLen, VM.seqOf, VM.sq, VM.asL, VM.items, VM.isSeq, VM.truth, VM.opBin, VM.opAdd, VM.opSub, VM.opMul, VM.opFdiv, VM.opMod, VM.opPow, VM.opCm, VM.opEq, VM.frz, VM.isD, VM.eqv, VM.isNon, VM.kdOf, VM.D0, VM.turn, List.map_cons, List.map_nil, List.replicate_succ, List.replicate_zero, List.cons_append, List.nil_append, List.getElem?_cons_zero, List.getElem?_cons_succ, List.set_cons_zero, List.set_cons_succ, Nat.reduceSub, VM.wipe, List.length_cons, List.length_nil, Nat.reduceAdd, List.length_map]
    refine ⟨mulOk64 (by decide) (by omega), trivial, ?_⟩
    refine for_inv (fun rem ρ st' => ∃ (m : Int) (a2 : Option PV), ρ = [some (.scr is), some (.lst (pvis is)), a2, some (.int m)] ∧ 0 ≤ m ∧ m < M0 ∧ st' = st ∧ ∀ y ∈ rem, ∃ z, y = .int z) ?_ ?_ _ _ _ ⟨_, _, rfl, by omega, by show _ < (2147483549 : Int); omega, rfl, fun y hy => by obtain ⟨z, rfl, _⟩ := mem_ints hy; exact ⟨z, rfl⟩⟩
    · rintro v rem ρ st' ⟨m, a2, rfl, m0, m1, rfl, hz⟩
      refine ⟨trivial, fun D' d1 d2 d3 d4 d5 => ?_⟩
      obtain ⟨z, rfl⟩ := hz _ (List.mem_cons_self ..)
      simp only [VM.sNil, VM.sCons, VM.sSet, VM.sPar, VM.sSetIx, VM.setIx, VM.sExpr, VM.sRet, VM.sRetN, VM.sIf, VM.sBreak, VM.sCont, VM.sFor, VM.gName, VM.gTup, VM.gEach, VM.eVar, VM.eC, VM.eBin, VM.eNeg, VM.eCmp, VM.eChain, VM.tOf, VM.tCmp, VM.tChain, VM.tAnd, VM.tOr, VM.tNot, VM.tYes, VM.eTest, VM.eAnd, VM.eOr, VM.eNot, VM.eIf, VM.aNil, VM.aCons, VM.eLst, VM.eLstM, VM.eTup, VM.eCall, VM.eIx, VM.getIx, VM.eSl, VM.getSl, VM.iE, VM.iRange1, VM.iRange2, VM.iZip, VM.iRev, VM.eComp, VM.eCompM, VM.eAppend, VM.eInsert, VM.eB1, VM.fLen, VM.fAbs, VM.fInt, VM.fList, VM.fListM, VM.fTuple, VM.fSum, VM.fAll, VM.fAny, VM.fIsi, VM.bLen, VM.seqOf, VM.sq, VM.asL, VM.items, VM.isSeq, VM.truth, VM.opBin, VM.opAdd, VM.opSub, VM.opMul, VM.opFdiv, VM.opMod, VM.opPow, VM.opCm, VM.opEq, VM.frz, VM.isD, VM.eqv, VM.isNon, VM.kdOf, VM.D0, VM.turn, List.map_cons, List.map_nil, List.replicate_succ, List.replicate_zero, List.cons_append, List.nil_append, List.getElem?_cons_zero, List.getElem?_cons_succ, List.set_cons_zero, List.set_cons_succ, Nat.reduceSub, VM.wipe, List.length_cons, List.length_nil, Nat.reduceAdd]
      refine ⟨mulOk64 (nat_lt_pow m0 m1) (by decide), by decide, d4 _ _ ⟨_, _, rfl, (fmodM _).1, (fmodM _).2, rfl, fun y hy => hz y (List.mem_cons_of_mem _ hy)⟩⟩
    · rintro ρ st' ⟨m, a2, rfl, m0, m1, rfl, hz⟩
      refine ⟨trivial, ?_⟩
      simp only [VM.sNil, VM.sCons, VM.sSet, VM.sPar, VM.sSetIx, VM.setIx, VM.sExpr, VM.sRet, VM.sRetN, VM.sIf, VM.sBreak, VM.sCont, VM.sFor, VM.gName, VM.gTup, VM.gEach, VM.eVar, VM.eC, VM.eBin, VM.eNeg, VM.eCmp, VM.eChain, VM.tOf, VM.tCmp, VM.tChain, VM.tAnd, VM.tOr, VM.tNot, VM.tYes, VM.eTest, VM.eAnd, VM.eOr, VM.eNot, VM.eIf, VM.aNil, VM.aCons, VM.eLst, VM.eLstM, VM.eTup, VM.eCall, VM.eIx, VM.getIx, VM.eSl, VM.getSl, VM.iE, VM.iRange1, VM.iRange2, VM.iZip, VM.iRev, VM.eComp, VM.eCompM, VM.eAppend, VM.eInsert, VM.eB1, VM.fLen, VM.fAbs, VM.fInt, VM.fList, VM.fListM, VM.fTuple, VM.fSum, VM.fAll, VM.fAny, VM.fIsi, VM.bLen, VM.seqOf, VM.sq, VM.asL, VM.items, VM.isSeq, VM.truth, VM.opBin, VM.opAdd, VM.opSub, VM.opMul, VM.opFdiv, VM.opMod, VM.opPow, VM.opCm, VM.opEq, VM.frz, VM.isD, VM.eqv, VM.isNon, VM.kdOf, VM.D0, VM.turn, List.map_cons, List.map_nil, List.replicate_succ, List.replicate_zero, List.cons_append, List.nil_append, List.getElem?_cons_zero, List.getElem?_cons_succ, List.set_cons_zero, List.set_cons_succ, Nat.reduceSub, VM.wipe, List.length_cons, List.length_nil, Nat.reduceAdd]
      refine ⟨by decide, hk _ ⟨is, 0, 0, m, 0, by simp [bagL], hl, by omega, m0, m1, by decide⟩ (by simp) fun i hi => List.getElem?_append_left hi⟩
def SpMixed (cs : CS) : Prop := ∀ (r : Nat) (things : PV) (xs : List PV) (st : Store), asL st things = some xs → things ≠ .ref r → xs.length ≤ 1000 → Dr cs 17 [things] r xs.length st fun v st' => ∃ ys : List PV, v = .ref st.length ∧ st'[st.length]? = some (.lst ys) ∧ ys.Perm xs
theorem items_asL {st : Store} {u : PV} {xs : List PV} (h : asL st u = some xs) : items st u = some xs ∧ isSeq st u = true := by
  cases u <;> simp only [asL] at h <;> first | (cases h; done) | skip
  · cases h; exact ⟨rfl, rfl⟩
  · rename_i i
    cases e : st[i]? with
    | none => rw [e] at h; cases h
    | some o =>
      rw [e] at h
      cases o <;> first | (cases h; done) | skip
      cases h
      simp only [items, isSeq, e]
      exact ⟨trivial, trivial⟩
theorem stays_keep {r : Nat} {st st0 st' : Store} {u : PV} {xs : List PV} (h : asL st u = some xs) (hr : u ≠ .ref r) (hs : ∀ i, i ≠ r → i < st.length → st'[i]? = st[i]?) (h0 : ∀ i, i < st.length → st0[i]? = st[i]?) : stays st0 u st' := by
  cases u <;> simp only [asL] at h <;> first | (cases h; done) | skip
  · trivial
  · rename_i i
    have hi : i < st.length := by
      cases e : st[i]? with
      | none => rw [e] at h; cases h
      | some o => exact (List.getElem?_eq_some_iff.mp e).1
    exact (hs i (fun z => hr (by rw [z])) hi).trans (h0 i hi).symm
theorem Bag.put {st : Store} {r b j : Nat} {o : SO} (h : Bag st r b) (hj : j ≠ r) : Bag (st.set j o) r b := by
  obtain ⟨c, i, dg, m, t, g1, g2⟩ := h
  exact ⟨c, i, dg, m, t, by rw [List.getElem?_set_ne hj]; exact g1, g2⟩
/-- an object made since is changed -/
theorem Keep.put {r j : Nat} {st st' : Store} {o : SO} (k : Keep r st st') (hj : st.length ≤ j) : Keep r st (st'.set j o) := ⟨by rw [List.length_set]; exact k.1, fun i hi hl => by rw [List.getElem?_set_ne (by omega)]; exact k.2 i hi hl⟩
set_option maxHeartbeats 2000000 in
theorem mixed_at {FT : Nat → Option FD} {d : Nat} (hF : FT 17 = some ⟨2, 4, T__law_mixed⟩) (h1 : At FT d SpTake) : At FT (d + 1) SpMixed := at_of hF h1 fun cs cs' tk go => by
  intro r things xs st hx hr hl b k x hb hk
  refine go _ _ _ _ rfl ?_
  have hr0 := hb.lt
  have hx1 : asL (st ++ [.lst []]) things = some xs := asL_keep hx hr (Keep.app (r := r))
  obtain ⟨i1, i2⟩ := items_asL hx1
  simp only [T__law_mixed, VM.sNil, VM.sCons, VM.sSet, VM.sPar, VM.sSetIx, VM.setIx, VM.sExpr, VM.sRet, VM.sRetN, VM.sIf, VM.sBreak, VM.sCont, VM.sFor, VM.gName, VM.gTup, VM.gEach, VM.eVar, VM.eC, VM.eBin, VM.eNeg, VM.eCmp, VM.eChain, VM.tOf, VM.tCmp, VM.tChain, VM.tAnd, VM.tOr, VM.tNot, VM.tYes, VM.eTest, VM.eAnd, VM.eOr, VM.eNot, VM.eIf, VM.aNil, VM.aCons, VM.eLst, VM.eLstM, VM.eTup, VM.eCall, VM.eIx, VM.eSl, VM.iE, VM.iRange1, VM.iRange2, VM.iZip, VM.iRev, VM.eComp, VM.eCompM, VM.eAppend, VM.eInsert, VM.eB1, VM.fLen, VM.fAbs, VM.fInt, VM.fList, VM.fListM, VM.fTuple, VM.fSum, VM.fAll, VM.fAny, VM.fIsi, VM.opBin, VM.opAdd, VM.opSub, VM.opMul, VM.opFdiv, VM.opMod, VM.opPow, VM.opCm, VM.frz, VM.isD, VM.eqv, VM.isNon, VM.D0, VM.turn, List.map_cons, List.map_nil, List.replicate_succ, List.replicate_zero, List.cons_append, List.nil_append, List.getElem?_cons_zero, List.getElem?_cons_succ, List.set_cons_zero, List.set_cons_succ, Nat.reduceSub, VM.wipe, List.length_cons, List.length_nil, Nat.reduceAdd]
  refine ⟨by decide, ?_⟩
  simp only [i1, i2]
  refine ⟨trivial, ?_⟩
  generalize hj : st.length = j at hk
  have hjr : j ≠ r := by omega
  refine for_inv (fun rem ρ st' => ∃ (a3 : Option PV) (ys pre : List PV), ρ = [some (.ref r), some things, some (.ref j), a3] ∧ Bag st' r (b + rem.length) ∧ Keep r st st' ∧ j < st'.length ∧ st'[j]? = some (.lst ys) ∧ ys.Perm pre ∧ pre ++ rem = xs) ?_ ?_ _ _ _ ⟨_, [], [], rfl, hb.app, Keep.app, by simp [hj], by rw [← hj]; simp, List.Perm.refl _, rfl⟩
  · rintro v rem ρ st' ⟨a3, ys, pre, rfl, q1, q2, q3, q4, q5, q6⟩
    refine ⟨stays_keep hx hr q2.2 (fun i hi => List.getElem?_append_left hi), fun D' d1 d2 d3 d4 d5 => ?_⟩
    have ly : ys.length < xs.length := by
      rw [q5.length_eq, ← q6]
      simp
    simp only [VM.sNil, VM.sCons, VM.sSet, VM.sPar, VM.sSetIx, VM.setIx, VM.sExpr, VM.sRet, VM.sRetN, VM.sIf, VM.sBreak, VM.sCont, VM.sFor, VM.gName, VM.gTup, VM.gEach, VM.eVar, VM.eC, VM.eBin, VM.eNeg, VM.eCmp, VM.eChain, VM.tOf, VM.tCmp, VM.tChain, VM.tAnd, VM.tOr, VM.tNot, VM.tYes, VM.eTest, VM.eAnd, VM.eOr, VM.eNot, VM.eIf, VM.aNil, VM.aCons, VM.eLst, VM.eLstM, VM.eTup, VM.eCall, VM.eIx, VM.getIx, VM.eSl, VM.getSl, VM.iE, VM.iRange1, VM.iRange2, VM.iZip, VM.iRev, VM.eComp, VM.eCompM, VM.eAppend, VM.eInsert, VM.eB1, VM.fLen, VM.fAbs, VM.fInt, VM.fList, VM.fListM, VM.fTuple, VM.fSum, VM.fAll, VM.fAny, VM.fIsi, VM.bLen, VM.seqOf, VM.sq, VM.asL, VM.items, VM.isSeq, VM.truth, VM.opBin, VM.opAdd, VM.opSub, VM.opMul, VM.opFdiv, VM.opMod, VM.opPow, VM.opCm, VM.opEq, VM.frz, VM.isD, VM.eqv, VM.isNon, VM.kdOf, VM.D0, VM.turn, List.map_cons, List.map_nil, List.replicate_succ, List.replicate_zero, List.cons_append, List.nil_append, List.getElem?_cons_zero, List.getElem?_cons_succ, List.set_cons_zero, List.set_cons_succ, Nat.reduceSub, VM.wipe, List.length_cons, List.length_nil, Nat.reduceAdd, q4]
    refine ⟨rfl, ?_⟩
    rw [List.length_cons] at q1
    refine tk r ((ys.length : Int) + 1) (by omega) st' (b + rem.length) _ _ q1 fun z st2 hz hb2 k2 => ?_
    obtain ⟨dd, rfl, e0, e1⟩ := hz
    have e4 : st2[j]? = some (.lst ys) := (k2.2 j hjr q3).trans q4
    simp only [e4]
    refine ⟨e0, by omega, by show _ < 16777216; omega, d4 _ _ ⟨_, _, pre ++ [v], rfl, hb2.put hjr, (q2.trans k2).put (by omega), by rw [List.length_set]; exact Nat.lt_of_lt_of_le q3 k2.1, set_self e4, ?_, by rw [List.append_assoc]; exact q6⟩⟩
    have p1 : (ys.take dd.toNat ++ [v] ++ ys.drop dd.toNat).Perm ([v] ++ ys) := by
      have := (List.perm_append_comm (l₁ := ys.take dd.toNat) (l₂ := [v])).append_right (ys.drop dd.toNat)
      rw [List.append_assoc [v], List.take_append_drop] at this
      exact this
    exact p1.trans ((List.perm_append_comm (l₁ := [v]) (l₂ := ys)).trans (q5.append_right [v]))
  · rintro ρ st' ⟨a3, ys, pre, rfl, q1, q2, q3, q4, q5, q6⟩
    refine ⟨stays_keep hx hr q2.2 (fun i hi => List.getElem?_append_left hi), ?_⟩
    simp only [VM.sNil, VM.sCons, VM.sSet, VM.sPar, VM.sSetIx, VM.setIx, VM.sExpr, VM.sRet, VM.sRetN, VM.sIf, VM.sBreak, VM.sCont, VM.sFor, VM.gName, VM.gTup, VM.gEach, VM.eVar, VM.eC, VM.eBin, VM.eNeg, VM.eCmp, VM.eChain, VM.tOf, VM.tCmp, VM.tChain, VM.tAnd, VM.tOr, VM.tNot, VM.tYes, VM.eTest, VM.eAnd, VM.eOr, VM.eNot, VM.eIf, VM.aNil, VM.aCons, VM.eLst, VM.eLstM, VM.eTup, VM.eCall, VM.eIx, VM.getIx, VM.eSl, VM.getSl, VM.iE, VM.iRange1, VM.iRange2, VM.iZip, VM.iRev, VM.eComp, VM.eCompM, VM.eAppend, VM.eInsert, VM.eB1, VM.fLen, VM.fAbs, VM.fInt, VM.fList, VM.fListM, VM.fTuple, VM.fSum, VM.fAll, VM.fAny, VM.fIsi, VM.bLen, VM.seqOf, VM.sq, VM.asL, VM.items, VM.isSeq, VM.truth, VM.opBin, VM.opAdd, VM.opSub, VM.opMul, VM.opFdiv, VM.opMod, VM.opPow, VM.opCm, VM.opEq, VM.frz, VM.isD, VM.eqv, VM.isNon, VM.kdOf, VM.D0, VM.turn, List.map_cons, List.map_nil, List.replicate_succ, List.replicate_zero, List.cons_append, List.nil_append, List.getElem?_cons_zero, List.getElem?_cons_succ, List.set_cons_zero, List.set_cons_succ, Nat.reduceSub, VM.wipe, List.length_cons, List.length_nil, Nat.reduceAdd]
    rw [List.append_nil] at q6
    exact hk _ _ ⟨ys, rfl, q4, q6 ▸ q5⟩ (q1.le (by simp)) q2
end VP
end
section
namespace ML
abbrev Vec := List Int
def nth (u : Vec) (i : Nat) : Int := u.getD i 0
/-- u - c v -/
def sub1 (u v : Vec) (c : Int) : Vec := List.zipWith (fun a b => a - b * c) u v
def zv (w : Nat) : Vec := List.replicate w 0
theorem sub1_len {u v : Vec} {c : Int} (h : u.length = v.length) : (sub1 u v c).length = u.length := by simp [sub1, h]
theorem nth_sub1 {u v : Vec} {c : Int} (h : u.length = v.length) (i : Nat) : nth (sub1 u v c) i = nth u i - nth v i * c := by
  unfold nth sub1
  simp only [List.getD_eq_getElem?_getD, List.getElem?_zipWith]
  by_cases hi : i < u.length
  · have hv : i < v.length := by omega
    simp [hi, hv]
  · have hv : ¬ i < v.length := by omega
    simp [hi, hv]
theorem nth_zv {w i : Nat} : nth (zv w) i = 0 := by
  unfold nth zv
  simp only [List.getD_eq_getElem?_getD, List.getElem?_replicate]
  split <;> rfl
theorem nth_ge {u : Vec} {i : Nat} (h : u.length ≤ i) : nth u i = 0 := by
  unfold nth
  simp [List.getD_eq_getElem?_getD, List.getElem?_eq_none h]
theorem nth_get {u : Vec} {i : Nat} (h : i < u.length) : u[i]? = some (nth u i) := by
  unfold nth
  simp [List.getD_eq_getElem?_getD, h]
theorem vext {u v : Vec} (h : u.length = v.length) (e : ∀ i, i < u.length → nth u i = nth v i) : u = v := by
  apply List.ext_getElem?
  intro i
  by_cases hi : i < u.length
  · rw [nth_get hi, nth_get (h ▸ hi), e i hi]
  · rw [List.getElem?_eq_none (by omega), List.getElem?_eq_none (by omega)]
/-- integer combinations -/
inductive Span (w : Nat) (vs : List Vec) : Vec → Prop where
  | zero : Span w vs (zv w)
  | step {u v : Vec} (c : Int) (h : Span w vs u) (m : v ∈ vs) : Span w vs (sub1 u v c)
def Len (w : Nat) (vs : List Vec) : Prop := ∀ v ∈ vs, v.length = w
section
variable {w : Nat} {vs vs' : List Vec} {u v : Vec}
theorem Span.len (hl : Len w vs) (h : Span w vs u) : u.length = w := by
  induction h with
  | zero => simp [zv]
  | step c h m ih => rw [sub1_len (ih.trans (hl _ m).symm)]; exact ih
theorem sub_zv (h : u.length = w) (c : Int) : sub1 u (zv w) c = u := by
  have hl : u.length = (zv w).length := by simp [zv, h]
  exact vext (sub1_len hl) fun i _ => by rw [nth_sub1 hl, nth_zv]; simp
theorem Span.sub (hl : Len w vs) (hu : Span w vs u) (hv : Span w vs v) (c : Int) : Span w vs (sub1 u v c) := by
  induction hv generalizing c with
  | zero => rw [sub_zv (hu.len hl)]; exact hu
  | @step v' x d hv m ih =>
    have l1 := hu.len hl
    have l2 := hv.len hl
    have l3 := hl _ m
    have e : sub1 u (sub1 v' x d) c = sub1 (sub1 u v' c) x (-(d * c)) := by
      have a1 : v'.length = x.length := l2.trans l3.symm
      have a2 : u.length = (sub1 v' x d).length := by rw [sub1_len a1]; exact l1.trans l2.symm
      have a3 : u.length = v'.length := l1.trans l2.symm
      have a4 : (sub1 u v' c).length = x.length := by rw [sub1_len a3]; exact l1.trans l3.symm
      refine vext (by rw [sub1_len a2, sub1_len a4, sub1_len a3]) fun i _ => ?_
      rw [nth_sub1 a2, nth_sub1 a1, nth_sub1 a4, nth_sub1 a3, Int.sub_mul, Int.mul_neg, Int.mul_assoc]
      omega
    rw [e]
    exact Span.step _ (ih c) m
theorem Span.mem (hl : Len w vs) (m : v ∈ vs) : Span w vs v := by
  have l := hl v m
  have lz : (zv w).length = v.length := by simp [zv, l]
  have e : v = sub1 (zv w) v (-1) := vext (by rw [sub1_len lz, lz]) fun i _ => by
    rw [nth_sub1 lz, nth_zv]
    omega
  rw [e]
  exact Span.step _ .zero m
theorem Span.mono (hl : Len w vs') (h : ∀ v ∈ vs, Span w vs' v) (hu : Span w vs u) : Span w vs' u := by
  induction hu with
  | zero => exact .zero
  | step c _ m ih => exact ih.sub hl (h _ m) c
theorem Span.imp (h : ∀ v ∈ vs, v ∈ vs') (hu : Span w vs u) : Span w vs' u := by
  induction hu with
  | zero => exact .zero
  | step c _ m ih => exact .step c ih (h _ m)
/-- what all rows have at zero -/
theorem Span.nth0 (hl : Len w vs) {i : Nat} (h : ∀ v ∈ vs, nth v i = 0) (hu : Span w vs u) : nth u i = 0 := by
  induction hu with
  | zero => exact nth_zv
  | step c hu m ih => rw [nth_sub1 ((hu.len hl).trans (hl _ m).symm), ih, h _ m]; simp
theorem span_cons {a : Vec} (hl : Len w (a :: vs)) (h : Span w (a :: vs) v) : ∃ c u, Span w vs u ∧ v = sub1 u a c := by
  have la : a.length = w := hl a (List.mem_cons_self ..)
  have lv : Len w vs := fun x m => hl x (List.mem_cons_of_mem _ m)
  induction h with
  | zero => exact ⟨0, zv w, .zero, vext (by rw [sub1_len (by simp [zv, la])]) fun i _ => by rw [nth_sub1 (by simp [zv, la])]; simp⟩
  | @step x y d hx m ih =>
    obtain ⟨c, u, hu, rfl⟩ := ih
    have lu := hu.len lv
    have a1 : u.length = a.length := lu.trans la.symm
    rcases List.mem_cons.mp m with rfl | m
    · refine ⟨c + d, u, hu, vext ?_ fun i _ => ?_⟩
      · rw [sub1_len (by rw [sub1_len a1]; exact a1), sub1_len a1, sub1_len a1]
      · rw [nth_sub1 (by rw [sub1_len a1]; exact a1), nth_sub1 a1, nth_sub1 a1, Int.mul_add]
        omega
    · have ly : y.length = w := lv _ m
      have a2 : u.length = y.length := lu.trans ly.symm
      have a3 : (sub1 u y d).length = a.length := by rw [sub1_len a2]; exact a1
      refine ⟨c, sub1 u y d, .step d hu m, vext ?_ fun i _ => ?_⟩
      · rw [sub1_len (by rw [sub1_len a1]; exact a2), sub1_len a1, sub1_len a3, sub1_len a2]
      · rw [nth_sub1 (by rw [sub1_len a1]; exact a2), nth_sub1 a1, nth_sub1 a3, nth_sub1 a2]
        omega
end
abbrev Ps := List (Nat × Vec)
def Z (p : Nat) (v : Vec) : Prop := ∀ i, i < p → nth v i = 0
/-- a lattice: rows of one length, closed -/
structure Lat (w : Nat) (L : Vec → Prop) : Prop where
  len : ∀ v, L v → v.length = w
  sub : ∀ u v c, L u → L v → L (sub1 u v c)
theorem span_lat {w : Nat} {vs : List Vec} (hl : Len w vs) : Lat w (Span w vs) := ⟨fun _ h => h.len hl, fun _ _ c h h' => h.sub hl h' c⟩
/-- heads and rows, triangular, that give the lattice -/
structure Tri (w : Nat) (L : Vec → Prop) (ps : Ps) : Prop where
  sorted : ps.Pairwise (fun x y => x.1 < y.1)
  row : ∀ p a, (p, a) ∈ ps → p < w ∧ L a ∧ Z p a ∧ nth a p ≠ 0
  div : ∀ p v, p < w → L v → Z p v → (∀ a, (p, a) ∈ ps → nth a p ∣ nth v p) ∧ ((∀ a, (p, a) ∉ ps) → nth v p = 0)
structure Form (w : Nat) (L : Vec → Prop) (ps : Ps) : Prop extends Tri w L ps where
  pos : ∀ p a, (p, a) ∈ ps → 0 < nth a p
  red : ∀ p a q b, (p, a) ∈ ps → (q, b) ∈ ps → p < q → 0 ≤ nth a q ∧ nth a q < nth b q
theorem dvd_eq {a b : Int} (ha : 0 < a) (hb : 0 < b) (h1 : a ∣ b) (h2 : b ∣ a) : a = b := by
  have l1 := Int.le_of_dvd hb h1
  have l2 := Int.le_of_dvd ha h2
  omega
theorem dvd_small {a b : Int} (h : a ∣ b) (hl : b.natAbs < a.natAbs) : b = 0 := by
  obtain ⟨k, rfl⟩ := h
  by_cases hk : k = 0
  · subst hk; simp
  · rw [Int.natAbs_mul] at hl
    have : 1 ≤ k.natAbs := by omega
    have := Nat.mul_le_mul_left a.natAbs this
    omega
section
variable {w : Nat} {L : Vec → Prop} {ps qs : Ps}
/-- a vector of the lattice whose head is taken stands in the form -/
theorem Tri.has (t : Tri w L ps) {p : Nat} {v : Vec} (hp : p < w) (hv : L v) (hz : Z p v) (hn : nth v p ≠ 0) : ∃ a, (p, a) ∈ ps := by
  refine Classical.byContradiction fun h => ?_
  exact hn ((t.div p v hp hv hz).2 fun a m => h ⟨a, m⟩)
theorem Form.head (t : Form w L ps) (t' : Form w L qs) {p : Nat} {a b : Vec} (ha : (p, a) ∈ ps) (hb : (p, b) ∈ qs) : nth a p = nth b p := by
  obtain ⟨h1, h2, h3, _⟩ := t.row p a ha
  obtain ⟨_, h5, h6, _⟩ := t'.row p b hb
  exact dvd_eq (t.pos p a ha) (t'.pos p b hb) ((t.div p b h1 h5 h6).1 a ha) ((t'.div p a h1 h2 h3).1 b hb)
theorem Form.same (hL : Lat w L) (t : Form w L ps) (t' : Form w L qs) {p : Nat} {a : Vec} (ha : (p, a) ∈ ps) : (p, a) ∈ qs := by
  obtain ⟨h1, h2, h3, h4⟩ := t.row p a ha
  obtain ⟨b, hb⟩ := t'.toTri.has h1 h2 h3 h4
  obtain ⟨_, h5, h6, h7⟩ := t'.row p b hb
  have la := hL.len a h2
  have lb := hL.len b h5
  have lab : a.length = b.length := la.trans lb.symm
  have hd : L (sub1 a b 1) := hL.sub a b 1 h2 h5
  have z : ∀ n i, i < n → i < w → nth a i = nth b i := by
    intro n
    induction n with
    | zero => intro i hi; omega
    | succ n ih =>
      intro i hi hw
      by_cases hin : i < n
      · exact ih i hin hw
      have hz : Z i (sub1 a b 1) := fun j hj => by rw [nth_sub1 lab, ih j (by omega) (by omega)]; omega
      have ed : nth (sub1 a b 1) i = nth a i - nth b i := by rw [nth_sub1 lab]; omega
      by_cases hip : i < p
      · rw [h3 i hip, h6 i hip]
      by_cases hie : i = p
      · subst hie
        exact t.head t' ha hb
      have hpi : p < i := by omega
      have dv := t.div i _ hw hd hz
      by_cases hc : ∃ c, (i, c) ∈ ps
      · obtain ⟨c, hc⟩ := hc
        obtain ⟨_, k2, k3, k4⟩ := t.row i c hc
        obtain ⟨c', hc'⟩ := t'.toTri.has hw k2 k3 k4
        have e := t.head t' hc hc'
        have r1 := t.red p a i c ha hc hpi
        have r2 := t'.red p b i c' hb hc' hpi
        have := dvd_small (dv.1 c hc) (by rw [ed]; omega)
        omega
      · have := dv.2 fun c m => hc ⟨c, m⟩
        omega
  have : a = b := vext lab fun i hi => z (i + 1) i (by omega) (by omega)
  rw [this]
  exact hb
theorem sorted_eq : ∀ {ps qs : Ps}, ps.Pairwise (fun x y => x.1 < y.1) → qs.Pairwise (fun x y => x.1 < y.1) → (∀ x, x ∈ ps ↔ x ∈ qs) → ps = qs
  | [], [], _, _, _ => rfl
  | [], y :: qs, _, _, h => by have := (h y).mpr (List.mem_cons_self ..); cases this
  | x :: ps, [], _, _, h => by have := (h x).mp (List.mem_cons_self ..); cases this
  | x :: ps, y :: qs, h1, h2, h => by
    obtain ⟨a1, b1⟩ := List.pairwise_cons.mp h1
    obtain ⟨a2, b2⟩ := List.pairwise_cons.mp h2
    have e : x = y := by
      rcases List.mem_cons.mp ((h x).mp (List.mem_cons_self ..)) with e | m
      · exact e
      · rcases List.mem_cons.mp ((h y).mpr (List.mem_cons_self ..)) with e | m'
        · exact e.symm
        · have := a1 y m'
          have := a2 x m
          omega
    subst e
    have : ps = qs := sorted_eq b1 b2 fun z => by
      constructor
      · intro m
        rcases List.mem_cons.mp ((h z).mp (List.mem_cons_of_mem _ m)) with e | m'
        · subst e; exact absurd (a1 z m) (by omega)
        · exact m'
      · intro m
        rcases List.mem_cons.mp ((h z).mpr (List.mem_cons_of_mem _ m)) with e | m'
        · subst e; exact absurd (a2 z m) (by omega)
        · exact m'
    rw [this]
theorem Form.uniq (hL : Lat w L) (t : Form w L ps) (t' : Form w L qs) : ps = qs :=
  sorted_eq t.sorted t'.sorted fun ⟨p, a⟩ => ⟨fun m => t.same hL t' m, fun m => t'.same hL t m⟩
theorem Form.congr {L' : Vec → Prop} (t : Form w L ps) (h : ∀ v, L v ↔ L' v) : Form w L' ps where
  sorted := t.sorted
  row := fun p a m => by
    obtain ⟨h1, h2, h3⟩ := t.row p a m
    exact ⟨h1, (h a).mp h2, h3⟩
  div := fun p v hp hv hz => t.div p v hp ((h v).mpr hv) hz
  pos := t.pos
  red := t.red
end
def low1 (v : Vec) (x : Nat × Vec) : Vec := sub1 v x.2 ((nth v x.1).fdiv (nth x.2 x.1))
def lower (v : Vec) (ps : Ps) : Vec := ps.foldl low1 v
theorem fdiv_rem {a b : Int} (hb : 0 < b) : 0 ≤ a - b * a.fdiv b ∧ a - b * a.fdiv b < b := by
  rw [Int.fdiv_eq_ediv_of_nonneg a (by omega)]
  have h1 := Int.emod_nonneg a (show b ≠ 0 by omega)
  have h2 := Int.emod_lt_of_pos a hb
  have h3 := Int.emod_def a b
  omega
section
variable {w : Nat} {L : Vec → Prop} {ps qs : Ps}
theorem low1_len {v : Vec} {x : Nat × Vec} (h : v.length = x.2.length) : (low1 v x).length = v.length := sub1_len h
theorem low1_before {v : Vec} {x : Nat × Vec} (h : v.length = x.2.length) (hz : Z x.1 x.2) {i : Nat} (hi : i < x.1) : nth (low1 v x) i = nth v i := by
  unfold low1
  rw [nth_sub1 h, hz i hi]
  simp
/-- lowering: what stays, what it comes to -/
theorem lower_spec : ∀ (ps : Ps) (v : Vec) (n : Nat), v.length = n → (∀ p a, (p, a) ∈ ps → a.length = n ∧ Z p a ∧ 0 < nth a p) → ps.Pairwise (fun x y => x.1 < y.1) →
    (lower v ps).length = n ∧ (∀ i, (∀ p a, (p, a) ∈ ps → i < p) → nth (lower v ps) i = nth v i) ∧ (∀ q b, (q, b) ∈ ps → 0 ≤ nth (lower v ps) q ∧ nth (lower v ps) q < nth b q)
  | [], v, n, hv, _, _ => ⟨hv, fun _ _ => rfl, fun _ _ m => by cases m⟩
  | (p, a) :: ps, v, n, hv, h, hs => by
    obtain ⟨la, za, pa⟩ := h p a (List.mem_cons_self ..)
    obtain ⟨s1, s2⟩ := List.pairwise_cons.mp hs
    have lva : v.length = a.length := hv.trans la.symm
    obtain ⟨k1, k2, k3⟩ := lower_spec ps (low1 v (p, a)) n ((low1_len lva).trans hv) (fun q b m => h q b (List.mem_cons_of_mem _ m)) s2
    refine ⟨k1, fun i hi => ?_, fun q b m => ?_⟩
    · exact (k2 i fun q b m => hi q b (List.mem_cons_of_mem _ m)).trans (low1_before lva za (hi p a (List.mem_cons_self ..)))
    · rcases List.mem_cons.mp m with e | m
      · cases e
        have e1 := k2 p fun q b m => s1 (q, b) m
        have e2 : nth (lower v ((p, a) :: ps)) p = nth (lower (low1 v (p, a)) ps) p := rfl
        rw [e2, e1]
        unfold low1
        rw [nth_sub1 lva]
        exact fdiv_rem pa
      · exact k3 q b m
theorem lower_in (hL : Lat w L) : ∀ (ps : Ps) (v : Vec), L v → (∀ p a, (p, a) ∈ ps → L a) → L (lower v ps)
  | [], v, hv, _ => hv
  | (p, a) :: ps, v, hv, h => lower_in hL ps (low1 v (p, a)) (hL.sub _ _ _ hv (h p a (List.mem_cons_self ..))) fun q b m => h q b (List.mem_cons_of_mem _ m)
/-- a vector of the lattice comes to nothing -/
theorem lower_zero (hL : Lat w L) (t : Form w L ps) {v : Vec} (hv : L v) : lower v ps = zv w := by
  obtain ⟨k1, k2, k3⟩ := lower_spec ps v w (hL.len v hv) (fun p a m => by
    obtain ⟨_, h2, h3, _⟩ := t.row p a m
    exact ⟨hL.len a h2, h3, t.pos p a m⟩) t.sorted
  have hl := lower_in hL ps v hv fun p a m => (t.row p a m).2.1
  have z : ∀ n i, i < n → i < w → nth (lower v ps) i = 0 := by
    intro n
    induction n with
    | zero => intro i hi; omega
    | succ n ih =>
      intro i hi hw
      by_cases hin : i < n
      · exact ih i hin hw
      have dv := t.div i _ hw hl fun j hj => ih j (by omega) (by omega)
      by_cases hc : ∃ c, (i, c) ∈ ps
      · obtain ⟨c, hc⟩ := hc
        have := k3 i c hc
        exact dvd_small (dv.1 c hc) (by omega)
      · exact dv.2 fun c m => hc ⟨c, m⟩
  refine vext (by simp [zv, k1]) fun i hi => ?_
  rw [nth_zv]
  exact z (i + 1) i (by omega) (by omega)
/-- heads with positive rows, each lowered by those behind it, as it stands (program) -/
def redA : Ps → Ps
  | [] => []
  | (p, a) :: ps => (p, lower a ps) :: redA ps
/-- the same by rows that are lowered already (law) -/
def redB : Ps → Ps
  | [] => []
  | (p, a) :: ps => (p, lower a (redB ps)) :: redB ps
end
end ML
end
section
namespace ML
def Bb (e : Nat) (v : Vec) : Prop := ∀ a ∈ v, a.natAbs < 2 ^ e
theorem Bb.mono {e e' : Nat} {v : Vec} (h : Bb e v) (he : e ≤ e') : Bb e' v := fun a m => Nat.lt_of_lt_of_le (h a m) (Nat.pow_le_pow_right (by decide) he)
theorem Bb.nth {e : Nat} {v : Vec} (h : Bb e v) (i : Nat) : (nth v i).natAbs < 2 ^ e := by
  by_cases hi : i < v.length
  · exact h _ (List.mem_of_getElem? (nth_get hi))
  · rw [nth_ge (by omega)]
    exact Nat.two_pow_pos e
theorem mem_sub1 {u v : Vec} {c z : Int} (h : z ∈ sub1 u v c) : ∃ a b, a ∈ u ∧ b ∈ v ∧ z = a - b * c := by
  obtain ⟨i, hi, e⟩ := List.mem_iff_getElem.mp h
  unfold sub1 at hi e
  rw [List.getElem_zipWith] at e
  exact ⟨_, _, List.getElem_mem _, List.getElem_mem _, e.symm⟩
def red (at_ : Nat) (s head : Vec) : Vec := sub1 s head ((nth s at_).fdiv (nth head at_))
theorem fdiv_facts {s h : Int} (hh : 0 < h) : s = h * s.fdiv h + s.fmod h ∧ 0 ≤ s.fmod h ∧ s.fmod h < h ∧ (s.fdiv h).natAbs ≤ s.natAbs := by
  have e := Int.mul_fdiv_add_fmod s h
  have h1 := Int.fmod_nonneg_of_pos s hh
  have h2 := Int.fmod_lt_of_pos s hh
  refine ⟨e.symm, h1, h2, ?_⟩
  generalize s.fdiv h = q at e
  generalize s.fmod h = r at e h1 h2
  by_cases hq : 0 ≤ q
  · have : q * 1 ≤ h * q := by rw [Int.mul_comm h q]; exact Int.mul_le_mul_of_nonneg_left (by omega) hq
    omega
  · have : (-q - 1) * 1 ≤ (-q - 1) * h := Int.mul_le_mul_of_nonneg_left (by omega) (by omega)
    have e2 : (-q - 1) * h = -(h * q) - h := by rw [Int.sub_mul, Int.neg_mul, Int.mul_comm q h]; omega
    omega
/-- the same, the divisor of any sign -/
theorem fdiv_sign {s h σ : Int} (hσ : σ = 1 ∨ σ = -1) (hh : 0 < σ * h) : 0 ≤ σ * (s - h * s.fdiv h) ∧ σ * (s - h * s.fdiv h) < σ * h ∧ (s.fdiv h).natAbs ≤ s.natAbs := by
  rcases hσ with rfl | rfl
  · have f := fdiv_facts (s := s) (h := h) (by omega)
    refine ⟨by omega, by omega, f.2.2.2⟩
  · have f := fdiv_facts (s := -s) (h := -h) (by omega)
    have e : (-s).fdiv (-h) = s.fdiv h := Int.neg_fdiv_neg _ _
    rw [e] at f
    have e2 : -h * s.fdiv h = -(h * s.fdiv h) := Int.neg_mul _ _
    rw [e2] at f
    refine ⟨by omega, by omega, by have := f.2.2.2; omega⟩
structure Itr (at_ : Nat) (head : Vec) (left rest late rest' : List Vec) : Prop where
  l1 : head ∈ late
  l2 : ∀ r ∈ late, r = head ∨ ∃ s ∈ left, r = red at_ s head ∧ nth r at_ ≠ 0
  l3 : ∀ r ∈ rest', r ∈ rest ∨ ∃ s ∈ left, r = red at_ s head ∧ nth r at_ = 0
  l4 : ∀ s ∈ left, s = head ∨ red at_ s head ∈ late ++ rest'
  l5 : ∀ r ∈ rest, r ∈ rest'
  l6 : late.length + rest'.length ≤ left.length + rest.length
  l7 : ∃ stay, late = head :: stay ∧ ∀ r ∈ stay, ∃ s ∈ left, r = red at_ s head ∧ nth r at_ ≠ 0
def Ph (at_ e : Nat) (left : List Vec) : Prop := ∃ (σ : Int) (M h : Nat), (σ = 1 ∨ σ = -1) ∧ 1 ≤ h ∧ (∀ r ∈ left, (h : Int) ≤ σ * nth r at_ ∧ σ * nth r at_ ≤ (M : Int) ∧ ∀ a ∈ r, a.natAbs * M * h ≤ 2 ^ (4 * e)) ∧ ∃ r ∈ left, σ * nth r at_ = (h : Int)
structure Cl (w at_ e : Nat) (rows left rest : List Vec) : Prop where
  lw : Len w (left ++ rest)
  nz : ∀ r ∈ left, nth r at_ ≠ 0
  zr : ∀ r ∈ rest, nth r at_ = 0
  s1 : ∀ r ∈ left ++ rest, Span w rows r
  s2 : ∀ r ∈ rows, Span w (left ++ rest) r
  cnt : left.length + rest.length ≤ rows.length
  bl : (∀ r ∈ left, Bb e r) ∨ Ph at_ e left
  br : ∀ r ∈ rest, Bb (4 * e + 2) r
theorem red_nth {at_ : Nat} {s head : Vec} (h : s.length = head.length) : nth (red at_ s head) at_ = nth s at_ - nth head at_ * (nth s at_).fdiv (nth head at_) := nth_sub1 h at_
theorem Ph.small {at_ e : Nat} {left : List Vec} (p : Ph at_ e left) : ∀ r ∈ left, Bb (4 * e + 1) r := by
  obtain ⟨σ, M, h, hσ, h1, hr, _⟩ := p
  intro r m a ha
  obtain ⟨k1, k2, k3⟩ := hr r m
  have := k3 a ha
  have hM : 1 ≤ M := by omega
  have e1 : a.natAbs * 1 * 1 ≤ a.natAbs * M * h := Nat.mul_le_mul (Nat.mul_le_mul_left _ hM) h1
  have e2 : 2 ^ (4 * e + 1) = 2 ^ (4 * e) * 2 := Nat.pow_succ ..
  have e3 := Nat.two_pow_pos (4 * e)
  omega
theorem Cl.small {w at_ e : Nat} {rows left rest : List Vec} (c : Cl w at_ e rows left rest) : ∀ r ∈ left, Bb (4 * e + 1) r := by
  rcases c.bl with h | h
  · exact fun r m => (h r m).mono (by omega)
  · exact h.small
/-- one row lowered, first turn -/
theorem red_b1 {at_ e : Nat} {s head : Vec} {σ : Int} (hs : Bb e s) (hh : Bb e head) (hσ : σ = 1 ∨ σ = -1) (hp : 0 < σ * nth head at_) : Bb (2 * e) (red at_ s head) := by
  intro z hz
  obtain ⟨a, b, ha, hb, rfl⟩ := mem_sub1 hz
  have q := (fdiv_sign (s := nth s at_) hσ hp).2.2
  have q2 := hs.nth at_
  have h1 := hs a ha
  have h2 := hh b hb
  generalize (nth s at_).fdiv (nth head at_) = c at *
  have e1 : (a - b * c).natAbs ≤ a.natAbs + b.natAbs * c.natAbs := by
    have := Int.natAbs_sub_le a (b * c)
    rw [Int.natAbs_mul] at this
    exact this
  have e2 : b.natAbs * c.natAbs ≤ (2 ^ e - 1) * (2 ^ e - 1) := Nat.mul_le_mul (by omega) (by omega)
  have e3 : 2 ^ (2 * e) = 2 ^ e * 2 ^ e := by rw [← Nat.pow_add]; congr 1; omega
  have e4 := Nat.two_pow_pos e
  rw [e3]
  generalize 2 ^ e = p at *
  obtain ⟨p', rfl⟩ : ∃ p', p = p' + 1 := ⟨p - 1, by omega⟩
  rw [Nat.add_sub_cancel] at e2
  have e5 : (p' + 1) * (p' + 1) = p' * p' + p' + p' + 1 := by rw [Nat.add_mul, Nat.mul_add]; omega
  omega
/-- one row lowered, all of one sign -/
theorem red_b2 {at_ : Nat} {s head : Vec} {σ : Int} {M h C : Nat} (hσ : σ = 1 ∨ σ = -1) (hl : s.length = head.length) (h1 : 1 ≤ h) (hh : σ * nth head at_ = (h : Int)) (s1 : (h : Int) ≤ σ * nth s at_) (s2 : σ * nth s at_ ≤ (M : Int))
    (bs : ∀ a ∈ s, a.natAbs * M * h ≤ C) (bh : ∀ a ∈ head, a.natAbs * M * h ≤ C) :
    ∃ q r : Nat, q * h + r ≤ M ∧ 1 ≤ q ∧ r < h ∧ σ * nth (red at_ s head) at_ = (r : Int) ∧ ∀ z ∈ red at_ s head, ∃ X : Nat, X * M * h ≤ C ∧ z.natAbs ≤ X * (1 + q) := by
  have key : ∃ q r : Nat, (nth s at_).fdiv (nth head at_) = (q : Int) ∧ σ * nth s at_ = (q : Int) * h + r ∧ r < h ∧ 1 ≤ q := by
    have f := fdiv_facts (s := σ * nth s at_) (h := (h : Int)) (by omega)
    have e : (σ * nth s at_).fdiv (h : Int) = (nth s at_).fdiv (nth head at_) := by
      rw [← hh]
      rcases hσ with rfl | rfl
      · rw [Int.one_mul, Int.one_mul]
      · rw [Int.neg_one_mul, Int.neg_one_mul]; exact Int.neg_fdiv_neg _ _
    rw [e] at f
    generalize (nth s at_).fdiv (nth head at_) = q at *
    generalize (σ * nth s at_).fmod (h : Int) = r at *
    have hq : 1 ≤ q := by
      refine Classical.byContradiction fun hn => ?_
      have : (h : Int) * q ≤ (h : Int) * 0 := Int.mul_le_mul_of_nonneg_left (by omega) (by omega)
      omega
    refine ⟨q.toNat, r.toNat, by omega, ?_, by omega, by omega⟩
    have e1 : ((q.toNat : Nat) : Int) = q := by omega
    have e2 : ((r.toNat : Nat) : Int) = r := by omega
    rw [e1, e2, Int.mul_comm q]
    exact f.1
  obtain ⟨q, r, e1, e2, e3, e4⟩ := key
  refine ⟨q, r, ?_, e4, e3, ?_, fun z hz => ?_⟩
  · have : ((q * h + r : Nat) : Int) ≤ (M : Int) := by
      rw [Int.natCast_add, Int.natCast_mul]
      omega
    omega
  · rw [red_nth hl, e1, Int.mul_sub, ← Int.mul_assoc, hh, e2, Int.mul_comm (h : Int)]
    omega
  · unfold red at hz
    rw [e1] at hz
    obtain ⟨a, b, ha, hb, rfl⟩ := mem_sub1 hz
    have m1 := bs a ha
    have m2 := bh b hb
    refine ⟨max a.natAbs b.natAbs, ?_, ?_⟩
    · rcases Nat.le_total a.natAbs b.natAbs with h | h
      · rw [Nat.max_eq_right h]; exact m2
      · rw [Nat.max_eq_left h]; exact m1
    · have t1 := Int.natAbs_sub_le a (b * q)
      rw [Int.natAbs_mul, Int.natAbs_natCast] at t1
      have t2 : a.natAbs ≤ max a.natAbs b.natAbs := Nat.le_max_left ..
      have t3 : b.natAbs * q ≤ max a.natAbs b.natAbs * q := Nat.mul_le_mul_right _ (Nat.le_max_right ..)
      rw [Nat.mul_add, Nat.mul_one]
      omega
/-- a list has a least -/
theorem least_of {α : Type} (f : α → Nat) : ∀ l : List α, l ≠ [] → ∃ x ∈ l, ∀ y ∈ l, f x ≤ f y
  | [], h => (h rfl).elim
  | [x], _ => ⟨x, List.mem_cons_self .., fun y m => by rw [List.mem_singleton.mp m]; exact Nat.le_refl _⟩
  | x :: y :: l, _ => by
    obtain ⟨z, hz, h⟩ := least_of f (y :: l) (by simp)
    by_cases hx : f x ≤ f z
    · exact ⟨x, List.mem_cons_self .., fun u m => (List.mem_cons.mp m).elim (fun e => by rw [e]; exact Nat.le_refl _) fun m => Nat.le_trans hx (h u m)⟩
    · exact ⟨z, List.mem_cons_of_mem _ hz, fun u m => (List.mem_cons.mp m).elim (fun e => by rw [e]; omega) fun m => h u m⟩
theorem Cl.step {w at_ e : Nat} {rows left rest late rest' : List Vec} {head : Vec} (hr : Len w rows) (c : Cl w at_ e rows left rest) (hm : head ∈ left) (hl : ∀ s ∈ left, (nth head at_).natAbs ≤ (nth s at_).natAbs) (I : Itr at_ head left rest late rest') : Cl w at_ e rows late rest' := by
  have lh : head.length = w := c.lw head (List.mem_append_left _ hm)
  have ls : ∀ s ∈ left, s.length = head.length := fun s m => (c.lw s (List.mem_append_left _ m)).trans lh.symm
  have lr : ∀ s ∈ left, (red at_ s head).length = w := fun s m => (sub1_len (ls s m)).trans ((ls s m).trans lh)
  have sr : ∀ s ∈ left, Span w rows (red at_ s head) := fun s m => (c.s1 s (List.mem_append_left _ m)).sub hr (c.s1 head (List.mem_append_left _ hm)) _
  have LW : Len w (late ++ rest') := fun r m => by
    rcases List.mem_append.mp m with m | m
    · rcases I.l2 r m with rfl | ⟨s, hs, rfl, _⟩
      · exact lh
      · exact lr s hs
    · rcases I.l3 r m with m | ⟨s, hs, rfl, _⟩
      · exact c.lw r (List.mem_append_right _ m)
      · exact lr s hs
  have nzh := c.nz head hm
  obtain ⟨σ0, hσ0, hp0⟩ : ∃ σ : Int, (σ = 1 ∨ σ = -1) ∧ 0 < σ * nth head at_ := by
    by_cases h : 0 < nth head at_
    · exact ⟨1, .inl rfl, by omega⟩
    · exact ⟨-1, .inr rfl, by omega⟩
  refine ⟨LW, fun r m => ?_, fun r m => ?_, fun r m => ?_, fun r m => ?_, Nat.le_trans I.l6 c.cnt, ?_, fun r m => ?_⟩
  · rcases I.l2 r m with rfl | ⟨s, hs, _, h⟩
    · exact nzh
    · exact h
  · rcases I.l3 r m with m | ⟨s, hs, _, h⟩
    · exact c.zr r m
    · exact h
  · rcases List.mem_append.mp m with m | m
    · rcases I.l2 r m with rfl | ⟨s, hs, rfl, _⟩
      · exact c.s1 _ (List.mem_append_left _ hm)
      · exact sr s hs
    · rcases I.l3 r m with m | ⟨s, hs, rfl, _⟩
      · exact c.s1 r (List.mem_append_right _ m)
      · exact sr s hs
  · refine Span.mono LW (fun v mv => ?_) (c.s2 r m)
    have hS : Span w (late ++ rest') head := Span.mem LW (List.mem_append_left _ I.l1)
    rcases List.mem_append.mp mv with mv | mv
    · rcases I.l4 v mv with rfl | h
      · exact hS
      · have := (Span.mem LW h).sub LW hS (-((nth v at_).fdiv (nth head at_)))
        have e1 : sub1 (red at_ v head) head (-((nth v at_).fdiv (nth head at_))) = v := by
          have lv := ls v mv
          refine vext (by rw [sub1_len ((lr v mv).trans lh.symm), lr v mv]; exact (lv.trans lh).symm) fun i _ => ?_
          rw [nth_sub1 ((lr v mv).trans lh.symm)]
          unfold red
          rw [nth_sub1 lv, Int.mul_neg]
          omega
        rw [e1] at this
        exact this
    · exact Span.mem LW (List.mem_append_right _ (I.l5 v mv))
  · right
    rcases c.bl with b1 | ⟨σ, M, h, hσ, h1, hrw, r0, m0, e0⟩
    · -- the first turn
      obtain ⟨x, hx, hxl⟩ := least_of (fun r => (nth r at_).natAbs) late (List.ne_nil_of_mem I.l1)
      have sg : ∀ r ∈ late, 0 < σ0 * nth r at_ ∧ σ0 * nth r at_ ≤ σ0 * nth head at_ ∧ Bb (2 * e) r := fun r m => by
        rcases I.l2 r m with rfl | ⟨s, hs, rfl, hn⟩
        · exact ⟨hp0, Int.le_refl _, (b1 _ hm).mono (by omega)⟩
        · have f := fdiv_sign (s := nth s at_) hσ0 hp0
          rw [red_nth (ls s hs)] at hn ⊢
          refine ⟨?_, by omega, red_b1 (b1 s hs) (b1 head hm) hσ0 hp0⟩
          rcases hσ0 with rfl | rfl <;> omega
      have hM := (b1 head hm).nth at_
      have ab : ∀ r ∈ late, σ0 * nth r at_ = ((nth r at_).natAbs : Int) := fun r m => by
        have := (sg r m).1
        rcases hσ0 with rfl | rfl <;> omega
      have abh : σ0 * nth head at_ = ((nth head at_).natAbs : Int) := by rcases hσ0 with rfl | rfl <;> omega
      refine ⟨σ0, (nth head at_).natAbs, (nth x at_).natAbs, hσ0, by have := (sg x hx).1; have := ab x hx; omega, fun r m => ⟨?_, ?_, fun a ha => ?_⟩, x, hx, ab x hx⟩
      · rw [ab r m]
        have := hxl r m
        omega
      · rw [← abh]; exact (sg r m).2.1
      · have a1 := (sg r m).2.2 a ha
        have a2 : (nth x at_).natAbs ≤ (nth head at_).natAbs := hxl head I.l1
        have e3 : 2 ^ (4 * e) = 2 ^ (2 * e) * 2 ^ e * 2 ^ e := by rw [← Nat.pow_add, ← Nat.pow_add]; congr 1; omega
        rw [e3]
        exact Nat.mul_le_mul (Nat.mul_le_mul (by omega) (by omega)) (by omega)
    · -- a later turn
      have hh : σ * nth head at_ = (h : Int) := by
        have k1 := hrw head hm
        have k2 := hl r0 m0
        have : σ * nth head at_ = ((nth head at_).natAbs : Int) := by rcases hσ with rfl | rfl <;> omega
        have : σ * nth r0 at_ = ((nth r0 at_).natAbs : Int) := by rcases hσ with rfl | rfl <;> omega
        omega
      obtain ⟨x, hx, hxl⟩ := least_of (fun r => (nth r at_).natAbs) late (List.ne_nil_of_mem I.l1)
      have hMh : h ≤ M := by have := hrw head hm; omega
      have sg : ∀ r ∈ late, 0 < σ * nth r at_ ∧ σ * nth r at_ ≤ (h : Int) := fun r m => by
        rcases I.l2 r m with rfl | ⟨s, hs, rfl, hn⟩
        · omega
        · obtain ⟨q, rr, _, _, k3, k4, _⟩ := red_b2 (at_ := at_) hσ (ls s hs) h1 hh (hrw s hs).1 (hrw s hs).2.1 (hrw s hs).2.2 (hrw head hm).2.2
          have : σ * nth (red at_ s head) at_ ≠ 0 := by rcases hσ with rfl | rfl <;> omega
          omega
      have ab : ∀ r ∈ late, σ * nth r at_ = ((nth r at_).natAbs : Int) := fun r m => by
        have := (sg r m).1
        rcases hσ with rfl | rfl <;> omega
      refine ⟨σ, h, (nth x at_).natAbs, hσ, by have := (sg x hx).1; have := ab x hx; omega, fun r m => ⟨?_, (sg r m).2, fun a ha => ?_⟩, x, hx, ab x hx⟩
      · rw [ab r m]
        have := hxl r m
        omega
      · have hx1 := hxl r m
        have xh : (nth x at_).natAbs ≤ h := by have := (sg x hx).2; have := ab x hx; omega
        rcases I.l2 r m with rfl | ⟨s, hs, rfl, hn⟩
        · have := (hrw _ hm).2.2 a ha
          refine Nat.le_trans (Nat.mul_le_mul (Nat.mul_le_mul_left _ hMh) xh) this
        · obtain ⟨q, rr, k1, k2, k3, k4, k5⟩ := red_b2 (at_ := at_) hσ (ls s hs) h1 hh (hrw s hs).1 (hrw s hs).2.1 (hrw s hs).2.2 (hrw head hm).2.2
          obtain ⟨X, hX, hz⟩ := k5 a ha
          have e5 : (nth x at_).natAbs ≤ rr := by
            have := ab _ m
            omega
          -- X (1 + q) rr ≤ X (q h + rr) ≤ X M
          have t1 : (1 + q) * rr ≤ M := by
            have : q * rr ≤ q * h := Nat.mul_le_mul_left _ (by omega)
            rw [Nat.add_mul, Nat.one_mul]
            omega
          have t2 : a.natAbs * h * (nth x at_).natAbs ≤ X * (1 + q) * h * rr := Nat.mul_le_mul (Nat.mul_le_mul_right _ hz) e5
          have t3 : X * (1 + q) * h * rr = X * ((1 + q) * rr) * h := by
            rw [Nat.mul_assoc X (1 + q) h, Nat.mul_assoc X, Nat.mul_assoc X, Nat.mul_assoc (1 + q) h rr, Nat.mul_assoc (1 + q) rr h, Nat.mul_comm h rr]
          rw [t3] at t2
          exact Nat.le_trans t2 (Nat.le_trans (Nat.mul_le_mul_right _ (Nat.mul_le_mul_left _ t1)) hX)
  · rcases I.l3 r m with m | ⟨s, hs, rfl, hz⟩
    · exact c.br r m
    · rcases c.bl with b1 | ⟨σ, M, h, hσ, h1, hrw, r0, m0, e0⟩
      · exact (red_b1 (b1 s hs) (b1 head hm) hσ0 hp0).mono (by omega)
      · have hh : σ * nth head at_ = (h : Int) := by
          have k1 := hrw head hm
          have k2 := hl r0 m0
          have : σ * nth head at_ = ((nth head at_).natAbs : Int) := by rcases hσ with rfl | rfl <;> omega
          have : σ * nth r0 at_ = ((nth r0 at_).natAbs : Int) := by rcases hσ with rfl | rfl <;> omega
          omega
        obtain ⟨q, rr, k1, k2, k3, k4, k5⟩ := red_b2 (at_ := at_) hσ (ls s hs) h1 hh (hrw s hs).1 (hrw s hs).2.1 (hrw s hs).2.2 (hrw head hm).2.2
        intro a ha
        obtain ⟨X, hX, hz⟩ := k5 a ha
        have t0 : q * 1 ≤ q * h := Nat.mul_le_mul_left _ h1
        have t1 : X * (1 + q) ≤ X * (M * 2) := Nat.mul_le_mul_left _ (by omega)
        have t2 : X * M * 1 ≤ X * M * h := Nat.mul_le_mul_left _ h1
        have t3 : X * (M * 2) = X * M * 2 := by rw [Nat.mul_assoc]
        have e2 : 2 ^ (4 * e + 2) = 2 ^ (4 * e) * 4 := by rw [Nat.pow_add]
        have e3 := Nat.two_pow_pos (4 * e)
        omega
/-- the measure goes down -/
theorem Itr.less {w at_ e : Nat} {rows left rest late rest' : List Vec} {head : Vec} (c : Cl w at_ e rows left rest) (hm : head ∈ left) (I : Itr at_ head left rest late rest') (h : 1 < late.length) : ∃ r ∈ late, (nth r at_).natAbs < (nth head at_).natAbs := by
  obtain ⟨stay, rfl, hs⟩ := I.l7
  have nzh := c.nz head hm
  obtain ⟨σ0, hσ0, hp0⟩ : ∃ σ : Int, (σ = 1 ∨ σ = -1) ∧ 0 < σ * nth head at_ := by
    by_cases h : 0 < nth head at_
    · exact ⟨1, .inl rfl, by omega⟩
    · exact ⟨-1, .inr rfl, by omega⟩
  cases stay with
  | nil => simp at h
  | cons r stay =>
    obtain ⟨s, hms, rfl, hn⟩ := hs r (List.mem_cons_self ..)
    refine ⟨_, List.mem_cons_of_mem _ (List.mem_cons_self ..), ?_⟩
    have ls : s.length = head.length := (c.lw s (List.mem_append_left _ hms)).trans (c.lw head (List.mem_append_left _ hm)).symm
    have f := fdiv_sign (s := nth s at_) hσ0 hp0
    rw [red_nth ls]
    rw [red_nth ls] at hn
    rcases hσ0 with rfl | rfl <;> omega
end ML
end
section
namespace VP
open VM ML
theorem comp_of {α : Type} {g : TG} {t : TT} {e : TE} {own : List Nat} {stay : Store → Prop} {ρ : Env} {k : List PV → Store → Prop} {st : Store} (enc : α → PV) (f : α → Option PV) (hst : stay st) (ys : List α)
    (h : ∀ y ∈ ys, ∀ k' : Option PV → Store → Prop, k' (f y) st → turn g t e ρ st (enc y) k') (hl : ys.length ≤ SZ) (hk : k (ys.filterMap f) st) : compGo g t e own stay (ys.map enc) [] ρ st k := by
  have key : ∀ (ys : List α) (acc : List PV), (∀ y ∈ ys, ∀ k' : Option PV → Store → Prop, k' (f y) st → turn g t e ρ st (enc y) k') → acc.length + ys.length ≤ SZ → k (acc ++ ys.filterMap f) st → compGo g t e own stay (ys.map enc) acc ρ st k := by
    intro ys
    induction ys with
    | nil =>
      intro acc _ _ hk
      rw [List.filterMap_nil, List.append_nil] at hk
      exact ⟨hst, hk⟩
    | cons y ys ih =>
      intro acc h hl hk
      rw [List.length_cons] at hl
      rw [List.map_cons]
      unfold compGo
      refine ⟨hst, ?_⟩
      have hr : ∀ y ∈ ys, ∀ k' : Option PV → Store → Prop, k' (f y) st → turn g t e ρ st (enc y) k' := fun x m => h x (List.mem_cons_of_mem _ m)
      refine h y (List.mem_cons_self ..) (fun o st => match o with | some y => acc.length < SZ ∧ compGo g t e own stay (ys.map enc) (acc ++ [y]) ρ st k | none => compGo g t e own stay (ys.map enc) acc ρ st k) ?_
      cases e1 : f y with
      | none =>
        rw [List.filterMap_cons_none e1] at hk
        exact ih acc hr (by omega) hk
      | some z =>
        rw [List.filterMap_cons_some e1] at hk
        refine ⟨by omega, ih (acc ++ [z]) hr (by rw [List.length_append, List.length_singleton]; omega) ?_⟩
        rw [List.append_assoc]
        exact hk
  exact key ys [] h (by simpa using hl) hk
theorem zip_ints (u v : List Int) : List.zipWith (fun x y => PV.tup [x, y]) (pvis u) (pvis v) = (u.zip v).map fun p => PV.tup [.int p.1, .int p.2] := by
  induction u generalizing v with
  | nil => rfl
  | cons a u ih =>
    cases v with
    | nil => rfl
    | cons b v => simp [pvis] at ih ⊢; exact ih v
theorem fm_sub1 (u v : List Int) (c : Int) : (u.zip v).filterMap (fun p => some (PV.int (p.1 - p.2 * c))) = pvis (sub1 u v c) := by
  induction u generalizing v with
  | nil => rfl
  | cons a u ih =>
    cases v with
    | nil => rfl
    | cons b v => simp [pvis, sub1] at ih ⊢; exact ih v
def SpMinus (cs : CS) : Prop := ∀ (u v : List Int) (c : Int) (st : Store) (k x : KV), (∀ b ∈ v, MulOk b c) → u.length ≤ SZ → k (ilst (sub1 u v c)) st → cs 6 [ilst u, ilst v, .int c] st k x
theorem minus_at {FT : Nat → Option FD} (hF : FT 6 = some ⟨3, 5, T_minus⟩) : At FT 1 SpMinus := at_of (C := fun _ => True) hF (fun _ _ => trivial) fun cs cs' _ go => by
  intro u v c st k x hm hl hk
  refine go _ _ _ _ rfl ?_
  simp only [T_minus, VM.sNil, VM.sCons, VM.sSet, VM.sPar, VM.sSetIx, VM.setIx, VM.sExpr, VM.sRet, VM.sRetN, VM.sIf, VM.sBreak, VM.sCont, VM.sFor, VM.gName, VM.gTup, VM.gEach, VM.eVar, VM.eC, VM.eBin, VM.eNeg, VM.eCmp, VM.eChain, VM.tOf, VM.tCmp, VM.tChain, VM.tAnd, VM.tOr, VM.tNot, VM.tYes, VM.eTest, VM.eAnd, VM.eOr, VM.eNot, VM.eIf, VM.aNil, VM.aCons, VM.eLst, VM.eLstM, VM.eTup, VM.eCall, VM.eIx, VM.getIx, VM.eSl, VM.getSl, VM.iE, VM.iRange1, VM.iRange2, VM.iZip, VM.iRev, VM.eComp, VM.eCompM, VM.eAppend, VM.eInsert, VM.eB1, VM.fLen, VM.fAbs, VM.fInt, VM.fList, VM.fListM, VM.fTuple, VM.fSum, VM.fAll, VM.fAny, VM.fIsi, VM.bLen, VM.seqOf, VM.sq, VM.asL, VM.items, VM.isSeq, VM.truth, VM.opBin, VM.opAdd, VM.opSub, VM.opMul, VM.opFdiv, VM.opMod, VM.opPow, VM.opCm, VM.opEq, VM.frz, VM.isD, VM.eqv, VM.isNon, VM.kdOf, VM.D0, VM.turn, List.map_cons, List.map_nil, List.replicate_succ, List.replicate_zero, List.cons_append, List.nil_append, List.getElem?_cons_zero, List.getElem?_cons_succ, List.set_cons_zero, List.set_cons_succ, Nat.reduceSub, VM.wipe, List.length_cons, List.length_nil, Nat.reduceAdd, zip_ints]
  refine comp_of _ (fun p => some (.int (p.1 - p.2 * c))) ⟨trivial, trivial⟩ (u.zip v) (fun p hp k' hk' => ?_) (by rw [List.length_zip]; omega) (by rw [fm_sub1]; exact hk)
  simp only [VM.sNil, VM.sCons, VM.sSet, VM.sPar, VM.sSetIx, VM.setIx, VM.sExpr, VM.sRet, VM.sRetN, VM.sIf, VM.sBreak, VM.sCont, VM.sFor, VM.gName, VM.gTup, VM.gEach, VM.eVar, VM.eC, VM.eBin, VM.eNeg, VM.eCmp, VM.eChain, VM.tOf, VM.tCmp, VM.tChain, VM.tAnd, VM.tOr, VM.tNot, VM.tYes, VM.eTest, VM.eAnd, VM.eOr, VM.eNot, VM.eIf, VM.aNil, VM.aCons, VM.eLst, VM.eLstM, VM.eTup, VM.eCall, VM.eIx, VM.getIx, VM.eSl, VM.getSl, VM.iE, VM.iRange1, VM.iRange2, VM.iZip, VM.iRev, VM.eComp, VM.eCompM, VM.eAppend, VM.eInsert, VM.eB1, VM.fLen, VM.fAbs, VM.fInt, VM.fList, VM.fListM, VM.fTuple, VM.fSum, VM.fAll, VM.fAny, VM.fIsi, VM.bLen, VM.seqOf, VM.sq, VM.asL, VM.items, VM.isSeq, VM.truth, VM.opBin, VM.opAdd, VM.opSub, VM.opMul, VM.opFdiv, VM.opMod, VM.opPow, VM.opCm, VM.opEq, VM.frz, VM.isD, VM.eqv, VM.isNon, VM.kdOf, VM.D0, VM.turn, List.map_cons, List.map_nil, List.replicate_succ, List.replicate_zero, List.cons_append, List.nil_append, List.getElem?_cons_zero, List.getElem?_cons_succ, List.set_cons_zero, List.set_cons_succ, Nat.reduceSub, VM.wipe, List.length_cons, List.length_nil, Nat.reduceAdd, if_true]
  exact ⟨trivial, hm _ (List.of_mem_zip hp).2, hk'⟩
def SpTimes (cs : CS) : Prop := ∀ (u : List Int) (c : Int) (st : Store) (k x : KV), (∀ b ∈ u, MulOk b c) → u.length ≤ SZ → k (ilst (u.map fun a => a * c)) st → cs 8 [ilst u, .int c] st k x
theorem times_at {FT : Nat → Option FD} (hF : FT 8 = some ⟨2, 3, T_times⟩) : At FT 1 SpTimes := at_of (C := fun _ => True) hF (fun _ _ => trivial) fun cs cs' _ go => by
  intro u c st k x hm hl hk
  refine go _ _ _ _ rfl ?_
  simp only [T_times, VM.sNil, VM.sCons, VM.sSet, VM.sPar, VM.sSetIx, VM.setIx, VM.sExpr, VM.sRet, VM.sRetN, VM.sIf, VM.sBreak, VM.sCont, VM.sFor, VM.gName, VM.gTup, VM.gEach, VM.eVar, VM.eC, VM.eBin, VM.eNeg, VM.eCmp, VM.eChain, VM.tOf, VM.tCmp, VM.tChain, VM.tAnd, VM.tOr, VM.tNot, VM.tYes, VM.eTest, VM.eAnd, VM.eOr, VM.eNot, VM.eIf, VM.aNil, VM.aCons, VM.eLst, VM.eLstM, VM.eTup, VM.eCall, VM.eIx, VM.getIx, VM.eSl, VM.getSl, VM.iE, VM.iRange1, VM.iRange2, VM.iZip, VM.iRev, VM.eComp, VM.eCompM, VM.eAppend, VM.eInsert, VM.eB1, VM.fLen, VM.fAbs, VM.fInt, VM.fList, VM.fListM, VM.fTuple, VM.fSum, VM.fAll, VM.fAny, VM.fIsi, VM.bLen, VM.seqOf, VM.sq, VM.asL, VM.items, VM.isSeq, VM.truth, VM.opBin, VM.opAdd, VM.opSub, VM.opMul, VM.opFdiv, VM.opMod, VM.opPow, VM.opCm, VM.opEq, VM.frz, VM.isD, VM.eqv, VM.isNon, VM.kdOf, VM.D0, VM.turn, List.map_cons, List.map_nil, List.replicate_succ, List.replicate_zero, List.cons_append, List.nil_append, List.getElem?_cons_zero, List.getElem?_cons_succ, List.set_cons_zero, List.set_cons_succ, Nat.reduceSub, VM.wipe, List.length_cons, List.length_nil, Nat.reduceAdd]
  refine ⟨trivial, comp_of PV.int (fun a => some (.int (a * c))) trivial u (fun p hp k' hk' => ?_) hl ?_⟩
  · simp only [VM.sNil, VM.sCons, VM.sSet, VM.sPar, VM.sSetIx, VM.setIx, VM.sExpr, VM.sRet, VM.sRetN, VM.sIf, VM.sBreak, VM.sCont, VM.sFor, VM.gName, VM.gTup, VM.gEach, VM.eVar, VM.eC, VM.eBin, VM.eNeg, VM.eCmp, VM.eChain, VM.tOf, VM.tCmp, VM.tChain, VM.tAnd, VM.tOr, VM.tNot, VM.tYes, VM.eTest, VM.eAnd, VM.eOr, VM.eNot, VM.eIf, VM.aNil, VM.aCons, VM.eLst, VM.eLstM, VM.eTup, VM.eCall, VM.eIx, VM.getIx, VM.eSl, VM.getSl, VM.iE, VM.iRange1, VM.iRange2, VM.iZip, VM.iRev, VM.eComp, VM.eCompM, VM.eAppend, VM.eInsert, VM.eB1, VM.fLen, VM.fAbs, VM.fInt, VM.fList, VM.fListM, VM.fTuple, VM.fSum, VM.fAll, VM.fAny, VM.fIsi, VM.bLen, VM.seqOf, VM.sq, VM.asL, VM.items, VM.isSeq, VM.truth, VM.opBin, VM.opAdd, VM.opSub, VM.opMul, VM.opFdiv, VM.opMod, VM.opPow, VM.opCm, VM.opEq, VM.frz, VM.isD, VM.eqv, VM.isNon, VM.kdOf, VM.D0, VM.turn, List.map_cons, List.map_nil, List.replicate_succ, List.replicate_zero, List.cons_append, List.nil_append, List.getElem?_cons_zero, List.getElem?_cons_succ, List.set_cons_zero, List.set_cons_succ, Nat.reduceSub, VM.wipe, List.length_cons, List.length_nil, Nat.reduceAdd, if_true]
    exact ⟨hm _ hp, hk'⟩
  · have e : u.filterMap (fun a => some (PV.int (a * c))) = pvis (u.map fun a => a * c) := by
      rw [show (fun a : Int => some (PV.int (a * c))) = some ∘ (fun a => PV.int (a * c)) from rfl, List.filterMap_eq_map]
      simp [pvis]
    rw [e]
    exact hk
abbrev rl (rows : List Vec) : PV := .lst (rows.map ilst)
theorem ixv {v : Vec} {at_ : Nat} (h : at_ < v.length) : ix (pvis v).length (at_ : Int) = some at_ ∧ (pvis v)[at_]? = some (.int (nth v at_)) := by
  rw [List.length_map, ixN (by omega) (by omega), List.getElem?_map, nth_get h]
  simp
theorem ixr {rows : List Vec} {i : Nat} (h : i < rows.length) : ix (rows.map ilst).length (i : Int) = some i ∧ (rows.map ilst)[i]? = some (ilst rows[i]) := by
  rw [List.length_map, ixN (by omega) (by omega), List.getElem?_map, List.getElem?_eq_getElem h]
  simp
theorem fm_filter {α : Type} (p : α → Bool) (f : α → PV) : ∀ l : List α, l.filterMap (fun a => if p a = true then some (f a) else none) = (l.filter p).map f
  | [] => rfl
  | a :: l => by
    rw [List.filter_cons]
    by_cases h : p a = true
    · rw [List.filterMap_cons_some (b := f a) (by rw [if_pos h]), if_pos h, List.map_cons, fm_filter p f l]
    · rw [List.filterMap_cons_none (by rw [if_neg h]), if_neg h, fm_filter p f l]
def fnz (at_ : Nat) (rows : List Vec) : List Vec := rows.filter fun r => !decide (nth r at_ = 0)
def fz (at_ : Nat) (rows : List Vec) : List Vec := rows.filter fun r => decide (nth r at_ = 0)
def Few (at_ : Nat) (rows left rest : List Vec) : Prop := 1 < (fnz at_ rows).length ∨ (left = fnz at_ rows ∧ rest = fz at_ rows)
def ClR (w at_ e : Nat) (rows left rest : List Vec) : Prop := Cl w at_ e rows left rest ∧ left.length ≤ 1 ∧ Few at_ rows left rest
def SpCleared (cs : CS) : Prop := ∀ (rows : List Vec) (w at_ e : Nat) (st : Store) (k x : KV), Len w rows → (∀ r ∈ rows, Bb e r) → at_ < w → w ≤ 1000 → rows.length ≤ 1000 → 8 * e + 10 ≤ 100000000 →
  (∀ left rest, ClR w at_ e rows left rest → k (.tup [rl left, rl rest]) st) → cs 7 [rl rows, .int at_] st k x
theorem _root_.Eq.mpr' {a b : Prop} (h : a = b) (hb : b) : a := h ▸ hb
theorem filter_cnt {α : Type} (p : α → Prop) [DecidablePred p] : ∀ l : List α, (l.filter fun r => !decide (p r)).length + (l.filter fun r => decide (p r)).length ≤ l.length
  | [] => by simp
  | a :: l => by
    have := filter_cnt p l
    rw [List.filter_cons, List.filter_cons]
    by_cases h : p a
    · simp [h]; omega
    · simp [h]; omega
theorem filter_nz (at_ : Nat) (rows : List Vec) (w e : Nat) (hl : Len w rows) (hb : ∀ r ∈ rows, Bb e r) : Cl w at_ e rows (rows.filter fun r => !decide (nth r at_ = 0)) (rows.filter fun r => decide (nth r at_ = 0)) := by
  have mem : ∀ r, r ∈ (rows.filter fun r => !decide (nth r at_ = 0)) ++ (rows.filter fun r => decide (nth r at_ = 0)) ↔ r ∈ rows := fun r => by
    rw [List.mem_append, List.mem_filter, List.mem_filter]
    constructor
    · rintro (h | h) <;> exact h.1
    · intro h
      by_cases z : nth r at_ = 0
      · exact .inr ⟨h, by simpa using z⟩
      · exact .inl ⟨h, by simpa using z⟩
  have LW : Len w ((rows.filter fun r => !decide (nth r at_ = 0)) ++ (rows.filter fun r => decide (nth r at_ = 0))) := fun r m => hl r ((mem r).mp m)
  refine ⟨LW, fun r m => by simpa using (List.mem_filter.mp m).2, fun r m => by simpa using (List.mem_filter.mp m).2, fun r m => Span.mem hl ((mem r).mp m), fun r m => Span.mem LW ((mem r).mpr m), ?_, .inl fun r m => hb r (List.mem_filter.mp m).1, fun r m => (hb r (List.mem_filter.mp m).1).mono (by omega)⟩
  exact filter_cnt _ rows

def clFor1 : TS := sIf (tCmp .lt (eB1 fAbs (eIx (eIx (eVar 2) (eVar 6)) (eVar 1))) (eB1 fAbs (eIx (eIx (eVar 2) (eVar 5)) (eVar 1)))) (sSet (gName 5) (eVar 6)) sNil
def clFor2 (cs : CS) : TS := sIf (tCmp .ne (eVar 6) (eVar 5))
    (sCons (sSet (gName 3) (eCall cs 6 (aCons (eIx (eVar 2) (eVar 6)) (aCons (eVar 7) (aCons (eBin .fdiv (eIx (eIx (eVar 2) (eVar 6)) (eVar 1)) (eIx (eVar 7) (eVar 1))) aNil)))))
    (sIf (tCmp .ne (eIx (eVar 3) (eVar 1)) (eC (.int 0)))
    (sSet (gName 8) (eBin .add (eVar 8) (eLst (aCons (eVar 3) aNil))))
    (sSet (gName 4) (eBin .add (eVar 4) (eLst (aCons (eVar 3) aNil))))))
    sNil
def clBody (cs : CS) : TS := (sCons (sSet (gName 5) (eC (.int 0)))
    (sCons (sFor (iRange1 (eB1 fLen (eVar 2))) (gName 6) clFor1)
    (sCons (sSet (gName 7) (eIx (eVar 2) (eVar 5)))
    (sCons (sSet (gName 8) (eLst (aCons (eVar 7) aNil)))
    (sCons (sFor (iRange1 (eB1 fLen (eVar 2))) (gName 6) (clFor2 cs))
    (sSet (gName 2) (eVar 8)))))))
theorem range_split {n : Nat} {v : PV} {rem pre : List PV} (h : pre ++ v :: rem = (List.range n).map fun (i : Nat) => PV.int (i : Int)) : v = .int (pre.length : Nat) ∧ pre.length < n := by
  have h1 : (pre ++ v :: rem)[pre.length]? = some v := by simp
  rw [h, List.getElem?_map] at h1
  have hn : pre.length < n := by
    have := congrArg List.length h
    simp at this
    omega
  rw [List.getElem?_range hn] at h1
  cases h1
  exact ⟨rfl, hn⟩
theorem range_pre {n : Nat} {pre : List PV} (h : pre = (List.range n).map fun (i : Nat) => PV.int (i : Int)) : pre.length = n := by rw [h]; simp
/-- one turn of the while -/
theorem cl_turn {cs : CS} (mn : SpMinus cs) {rows left rest : List Vec} {w at_ e : Nat} {st : Store} {D : Ends} {a3 a5 a6 a7 a8 : Option PV} (hr : Len w rows) (hw : at_ < w) (hw2 : w ≤ 1000) (hrl : rows.length ≤ 1000) (hs : 8 * e + 10 ≤ 100000000) (c : Cl w at_ e rows left rest) (hl : 1 < left.length)
    (hk : ∀ (head : Vec) (late rest' : List Vec) (b3 b5 b6 b7 b8 : Option PV), head ∈ left → (∀ s ∈ left, (nth head at_).natAbs ≤ (nth s at_).natAbs) → Itr at_ head left rest late rest' → D.nx [some (rl rows), some (.int at_), some (rl late), b3, some (rl rest'), b5, b6, b7, b8] st) :
    clBody cs D [some (rl rows), some (.int at_), some (rl left), a3, some (rl rest), a5, a6, a7, a8] st := by
  have lw : ∀ s ∈ left, s.length = w := fun s m => c.lw s (List.mem_append_left _ m)
  have cnt := c.cnt
  have gt : ∀ {i : Nat} (h : i < left.length), at_ < left[i].length := fun h => by rw [lw _ (List.getElem_mem h)]; exact hw
  unfold clBody
  simp only [VM.sNil, VM.sCons, VM.sSet, VM.sPar, VM.sSetIx, VM.setIx, VM.sExpr, VM.sRet, VM.sRetN, VM.sIf, VM.sBreak, VM.sCont, VM.sFor, VM.gName, VM.gTup, VM.gEach, VM.eVar, VM.eC, VM.eBin, VM.eNeg, VM.eCmp, VM.eChain, VM.tOf, VM.tCmp, VM.tChain, VM.tAnd, VM.tOr, VM.tNot, VM.tYes, VM.eTest, VM.eAnd, VM.eOr, VM.eNot, VM.eIf, VM.aNil, VM.aCons, VM.eLst, VM.eLstM, VM.eTup, VM.eCall, VM.eIx, VM.getIx, VM.eSl, VM.getSl, VM.iE, VM.iRange1, VM.iRange2, VM.iZip, VM.iRev, VM.eComp, VM.eCompM, VM.eAppend, VM.eInsert, VM.eB1, VM.fLen, VM.fAbs, VM.fInt, VM.fList, VM.fListM, VM.fTuple, VM.fSum, VM.fAll, VM.fAny, VM.fIsi, VM.bLen, VM.seqOf, VM.sq, VM.asL, VM.items, VM.isSeq, VM.truth, VM.opBin, VM.opAdd, VM.opSub, VM.opMul, VM.opFdiv, VM.opMod, VM.opPow, VM.opCm, VM.opEq, VM.frz, VM.isD, VM.eqv, VM.isNon, VM.kdOf, VM.D0, VM.turn, List.map_cons, List.map_nil, List.replicate_succ, List.replicate_zero, List.cons_append, List.nil_append, List.getElem?_cons_zero, List.getElem?_cons_succ, List.set_cons_zero, List.set_cons_succ, Nat.reduceSub, VM.wipe, List.length_cons, List.length_nil, Nat.reduceAdd, List.length_map, Int.toNat_natCast]
  refine ⟨by unfold i62; omega, ?_⟩
  refine for_inv (fun rem ρ st' => st' = st ∧ ∃ (b3 b6 b7 b8 : Option PV) (least : Nat) (pre : List PV), ρ = [some (rl rows), some (.int at_), some (rl left), b3, some (rl rest), some (.int least), b6, b7, b8] ∧ pre ++ rem = ((List.range left.length).map fun (i : Nat) => PV.int (i : Int)) ∧
    ∃ h : least < left.length, ∀ i (hi : i < left.length), i < pre.length → (nth left[least] at_).natAbs ≤ (nth left[i] at_).natAbs) ?_ ?_ _ _ _ ⟨rfl, _, _, _, _, 0, [], rfl, rfl, by omega, fun i _ h => by simp at h⟩
  · rintro v rem ρ st' ⟨rfl, b3, b6, b7, b8, least, pre, rfl, hp, hle, hmin⟩
    refine ⟨trivial, fun D' d1 d2 d3 d4 d5 => ?_⟩
    obtain ⟨rfl, hi⟩ := range_split hp
    obtain ⟨x1, x2⟩ := ixr hi
    obtain ⟨x3, x4⟩ := ixr hle
    obtain ⟨x5, x6⟩ := ixv (gt hi)
    obtain ⟨x7, x8⟩ := ixv (gt hle)
    simp only [clFor1, VM.sNil, VM.sCons, VM.sSet, VM.sPar, VM.sSetIx, VM.setIx, VM.sExpr, VM.sRet, VM.sRetN, VM.sIf, VM.sBreak, VM.sCont, VM.sFor, VM.gName, VM.gTup, VM.gEach, VM.eVar, VM.eC, VM.eBin, VM.eNeg, VM.eCmp, VM.eChain, VM.tOf, VM.tCmp, VM.tChain, VM.tAnd, VM.tOr, VM.tNot, VM.tYes, VM.eTest, VM.eAnd, VM.eOr, VM.eNot, VM.eIf, VM.aNil, VM.aCons, VM.eLst, VM.eLstM, VM.eTup, VM.eCall, VM.eIx, VM.getIx, VM.eSl, VM.getSl, VM.iE, VM.iRange1, VM.iRange2, VM.iZip, VM.iRev, VM.eComp, VM.eCompM, VM.eAppend, VM.eInsert, VM.eB1, VM.fLen, VM.fAbs, VM.fInt, VM.fList, VM.fListM, VM.fTuple, VM.fSum, VM.fAll, VM.fAny, VM.fIsi, VM.bLen, VM.seqOf, VM.sq, VM.asL, VM.items, VM.isSeq, VM.truth, VM.opBin, VM.opAdd, VM.opSub, VM.opMul, VM.opFdiv, VM.opMod, VM.opPow, VM.opCm, VM.opEq, VM.frz, VM.isD, VM.eqv, VM.isNon, VM.kdOf, VM.D0, VM.turn, List.map_cons, List.map_nil, List.replicate_succ, List.replicate_zero, List.cons_append, List.nil_append, List.getElem?_cons_zero, List.getElem?_cons_succ, List.set_cons_zero, List.set_cons_succ, Nat.reduceSub, VM.wipe, List.length_cons, List.length_nil, Nat.reduceAdd, x1, x2, x3, x4, x5, x6, x7, x8]
    by_cases hlt : (nth left[pre.length] at_).natAbs < (nth left[least] at_).natAbs
    · have hlt' : ((nth left[pre.length] at_).natAbs : Int) < ((nth left[least] at_).natAbs : Int) := by omega
      simp only [hlt', decide_true, if_true]
      refine d4 _ _ ⟨rfl, _, _, _, _, pre.length, pre ++ [.int pre.length], rfl, by simpa using hp, hi, fun i hi' h => ?_⟩
      rw [List.length_append, List.length_singleton] at h
      by_cases he : i = pre.length
      · subst he; exact Nat.le_refl _
      · have := hmin i hi' (by omega)
        omega
    · have hlt' : ¬ ((nth left[pre.length] at_).natAbs : Int) < ((nth left[least] at_).natAbs : Int) := by omega
      simp only [hlt', decide_false, Bool.false_eq_true, if_false]
      refine d4 _ _ ⟨rfl, _, _, _, _, least, pre ++ [.int pre.length], rfl, by simpa using hp, hle, fun i hi' h => ?_⟩
      rw [List.length_append, List.length_singleton] at h
      by_cases he : i = pre.length
      · subst he; omega
      · exact hmin i hi' (by omega)
  · rintro ρ st' ⟨rfl, b3, b6, b7, b8, least, pre, rfl, hp, hle, hmin⟩
    refine ⟨trivial, ?_⟩
    rw [List.append_nil] at hp
    have hpl := range_pre hp
    obtain ⟨x3, x4⟩ := ixr hle
    rw [List.length_map] at x3
    simp only [VM.sNil, VM.sCons, VM.sSet, VM.sPar, VM.sSetIx, VM.setIx, VM.sExpr, VM.sRet, VM.sRetN, VM.sIf, VM.sBreak, VM.sCont, VM.sFor, VM.gName, VM.gTup, VM.gEach, VM.eVar, VM.eC, VM.eBin, VM.eNeg, VM.eCmp, VM.eChain, VM.tOf, VM.tCmp, VM.tChain, VM.tAnd, VM.tOr, VM.tNot, VM.tYes, VM.eTest, VM.eAnd, VM.eOr, VM.eNot, VM.eIf, VM.aNil, VM.aCons, VM.eLst, VM.eLstM, VM.eTup, VM.eCall, VM.eIx, VM.getIx, VM.eSl, VM.getSl, VM.iE, VM.iRange1, VM.iRange2, VM.iZip, VM.iRev, VM.eComp, VM.eCompM, VM.eAppend, VM.eInsert, VM.eB1, VM.fLen, VM.fAbs, VM.fInt, VM.fList, VM.fListM, VM.fTuple, VM.fSum, VM.fAll, VM.fAny, VM.fIsi, VM.bLen, VM.seqOf, VM.sq, VM.asL, VM.items, VM.isSeq, VM.truth, VM.opBin, VM.opAdd, VM.opSub, VM.opMul, VM.opFdiv, VM.opMod, VM.opPow, VM.opCm, VM.opEq, VM.frz, VM.isD, VM.eqv, VM.isNon, VM.kdOf, VM.D0, VM.turn, List.map_cons, List.map_nil, List.replicate_succ, List.replicate_zero, List.cons_append, List.nil_append, List.getElem?_cons_zero, List.getElem?_cons_succ, List.set_cons_zero, List.set_cons_succ, Nat.reduceSub, VM.wipe, List.length_cons, List.length_nil, Nat.reduceAdd, x3, x4, List.length_map, Int.toNat_natCast]
    refine ⟨by decide, by unfold i62; omega, ?_⟩
    generalize hh : left[least] = head
    have hm : head ∈ left := by rw [← hh]; exact List.getElem_mem hle
    have hmn : ∀ s ∈ left, (nth head at_).natAbs ≤ (nth s at_).natAbs := fun s ms => by
      obtain ⟨i, hi, rfl⟩ := List.mem_iff_getElem.mp ms
      rw [← hh]
      exact hmin i hi (by omega)
    have lh := lw head hm
    refine for_inv (fun rem ρ st2 => st2 = st' ∧ ∃ (b3 b6 : Option PV) (stay : List Vec) (rest' : List Vec) (pre : List PV), ρ = [some (rl rows), some (.int at_), some (rl left), b3, some (rl rest'), some (.int least), b6, some (ilst head), some (rl (head :: stay))] ∧ pre ++ rem = ((List.range left.length).map fun (i : Nat) => PV.int (i : Int)) ∧
      (∀ r ∈ stay, ∃ s ∈ left, r = red at_ s head ∧ nth r at_ ≠ 0) ∧ (∀ r ∈ rest', r ∈ rest ∨ ∃ s ∈ left, r = red at_ s head ∧ nth r at_ = 0) ∧ (∀ i (hi : i < left.length), i < pre.length → i ≠ least → red at_ left[i] head ∈ stay ++ rest') ∧ (∀ r ∈ rest, r ∈ rest') ∧
      stay.length + rest'.length + (if least < pre.length then 1 else 0) ≤ rest.length + pre.length) ?_ ?_ _ _ _ ⟨rfl, _, _, [], rest, [], rfl, rfl, by simp, fun r m => .inl m, fun i _ h => by simp at h, fun r m => m, by simp⟩
    · rintro v rem ρ st' ⟨rfl, b3, b6, stay, rest', pre, rfl, hp, i2, i3, i4, i5, i6⟩
      refine ⟨trivial, fun D' d1 d2 d3 d4 d5 => ?_⟩
      obtain ⟨rfl, hi⟩ := range_split hp
      simp only [clFor2, VM.sNil, VM.sCons, VM.sSet, VM.sPar, VM.sSetIx, VM.setIx, VM.sExpr, VM.sRet, VM.sRetN, VM.sIf, VM.sBreak, VM.sCont, VM.sFor, VM.gName, VM.gTup, VM.gEach, VM.eVar, VM.eC, VM.eBin, VM.eNeg, VM.eCmp, VM.eChain, VM.tOf, VM.tCmp, VM.tChain, VM.tAnd, VM.tOr, VM.tNot, VM.tYes, VM.eTest, VM.eAnd, VM.eOr, VM.eNot, VM.eIf, VM.aNil, VM.aCons, VM.eLst, VM.eLstM, VM.eTup, VM.eCall, VM.eIx, VM.getIx, VM.eSl, VM.getSl, VM.iE, VM.iRange1, VM.iRange2, VM.iZip, VM.iRev, VM.eComp, VM.eCompM, VM.eAppend, VM.eInsert, VM.eB1, VM.fLen, VM.fAbs, VM.fInt, VM.fList, VM.fListM, VM.fTuple, VM.fSum, VM.fAll, VM.fAny, VM.fIsi, VM.bLen, VM.seqOf, VM.sq, VM.asL, VM.items, VM.isSeq, VM.truth, VM.opBin, VM.opAdd, VM.opSub, VM.opMul, VM.opFdiv, VM.opMod, VM.opPow, VM.opCm, VM.opEq, VM.frz, VM.isD, VM.eqv, VM.isNon, VM.kdOf, VM.D0, VM.turn, List.map_cons, List.map_nil, List.replicate_succ, List.replicate_zero, List.cons_append, List.nil_append, List.getElem?_cons_zero, List.getElem?_cons_succ, List.set_cons_zero, List.set_cons_succ, Nat.reduceSub, VM.wipe, List.length_cons, List.length_nil, Nat.reduceAdd]
      refine ⟨trivial, trivial, ?_⟩
      by_cases he : pre.length = least
      · have hb : (!((pre.length : Int) == (least : Int))) = false := by simp [he]
        rw [hb, if_neg Bool.false_ne_true]
        refine d4 _ _ ⟨rfl, _, _, stay, rest', pre ++ [.int pre.length], rfl, by simpa using hp, i2, i3, fun i hi' h hne => ?_, i5, ?_⟩
        · rw [List.length_append, List.length_singleton] at h
          exact i4 i hi' (by omega) hne
        · rw [List.length_append, List.length_singleton]
          rw [if_neg (by omega)] at i6
          rw [if_pos (by omega)]
          omega
      · have hb : (!((pre.length : Int) == (least : Int))) = true := by
          have : ((pre.length : Int) == (least : Int)) = false := by rw [beq_eq_false_iff_ne]; omega
          rw [this]; rfl
        rw [hb, if_pos rfl]
        obtain ⟨x1, x2⟩ := ixr hi
        obtain ⟨x5, x6⟩ := ixv (gt hi)
        obtain ⟨x7, x8⟩ := ixv (v := head) (at_ := at_) (by omega)
        generalize hsd : left[pre.length] = s at x2 x5 x6
        have ms : s ∈ left := by rw [← hsd]; exact List.getElem_mem hi
        simp only [VM.sNil, VM.sCons, VM.sSet, VM.sPar, VM.sSetIx, VM.setIx, VM.sExpr, VM.sRet, VM.sRetN, VM.sIf, VM.sBreak, VM.sCont, VM.sFor, VM.gName, VM.gTup, VM.gEach, VM.eVar, VM.eC, VM.eBin, VM.eNeg, VM.eCmp, VM.eChain, VM.tOf, VM.tCmp, VM.tChain, VM.tAnd, VM.tOr, VM.tNot, VM.tYes, VM.eTest, VM.eAnd, VM.eOr, VM.eNot, VM.eIf, VM.aNil, VM.aCons, VM.eLst, VM.eLstM, VM.eTup, VM.eCall, VM.eIx, VM.getIx, VM.eSl, VM.getSl, VM.iE, VM.iRange1, VM.iRange2, VM.iZip, VM.iRev, VM.eComp, VM.eCompM, VM.eAppend, VM.eInsert, VM.eB1, VM.fLen, VM.fAbs, VM.fInt, VM.fList, VM.fListM, VM.fTuple, VM.fSum, VM.fAll, VM.fAny, VM.fIsi, VM.bLen, VM.seqOf, VM.sq, VM.asL, VM.items, VM.isSeq, VM.truth, VM.opBin, VM.opAdd, VM.opSub, VM.opMul, VM.opFdiv, VM.opMod, VM.opPow, VM.opCm, VM.opEq, VM.frz, VM.isD, VM.eqv, VM.isNon, VM.kdOf, VM.D0, VM.turn, List.map_cons, List.map_nil, List.replicate_succ, List.replicate_zero, List.cons_append, List.nil_append, List.getElem?_cons_zero, List.getElem?_cons_succ, List.set_cons_zero, List.set_cons_succ, Nat.reduceSub, VM.wipe, List.length_cons, List.length_nil, Nat.reduceAdd, x1, x2, x5, x6, x7, x8]
        have nzh := c.nz head hm
        refine ⟨nzh, ?_⟩
        have bs := c.small s ms
        have bh := c.small head hm
        have ls : s.length = head.length := (lw s ms).trans lh.symm
        obtain ⟨σ0, hσ0, hp0⟩ : ∃ σ : Int, (σ = 1 ∨ σ = -1) ∧ 0 < σ * nth head at_ := by
          by_cases h : 0 < nth head at_
          · exact ⟨1, .inl rfl, by omega⟩
          · exact ⟨-1, .inr rfl, by omega⟩
        have bq := (fdiv_sign (s := nth s at_) hσ0 hp0).2.2
        have bsn := bs.nth at_
        refine mn s head _ _ _ _ (fun b mb => mulOk_of (bh b mb) (Nat.lt_of_le_of_lt bq bsn) (by omega) (by omega) (by omega)) (by rw [lw s ms]; show _ ≤ 16777216; omega) ?_
        have lr : (red at_ s head).length = w := (sub1_len ls).trans (lw s ms)
        obtain ⟨y1, y2⟩ := ixv (v := red at_ s head) (at_ := at_) (by omega)
        have y1' : ix (pvis (sub1 s head ((nth s at_).fdiv (nth head at_)))).length (at_ : Int) = some at_ := y1
        have y2' : (pvis (sub1 s head ((nth s at_).fdiv (nth head at_))))[at_]? = some (.int (nth (red at_ s head) at_)) := y2
        simp only [VM.sNil, VM.sCons, VM.sSet, VM.sPar, VM.sSetIx, VM.setIx, VM.sExpr, VM.sRet, VM.sRetN, VM.sIf, VM.sBreak, VM.sCont, VM.sFor, VM.gName, VM.gTup, VM.gEach, VM.eVar, VM.eC, VM.eBin, VM.eNeg, VM.eCmp, VM.eChain, VM.tOf, VM.tCmp, VM.tChain, VM.tAnd, VM.tOr, VM.tNot, VM.tYes, VM.eTest, VM.eAnd, VM.eOr, VM.eNot, VM.eIf, VM.aNil, VM.aCons, VM.eLst, VM.eLstM, VM.eTup, VM.eCall, VM.eIx, VM.getIx, VM.eSl, VM.getSl, VM.iE, VM.iRange1, VM.iRange2, VM.iZip, VM.iRev, VM.eComp, VM.eCompM, VM.eAppend, VM.eInsert, VM.eB1, VM.fLen, VM.fAbs, VM.fInt, VM.fList, VM.fListM, VM.fTuple, VM.fSum, VM.fAll, VM.fAny, VM.fIsi, VM.bLen, VM.seqOf, VM.sq, VM.asL, VM.items, VM.isSeq, VM.truth, VM.opBin, VM.opAdd, VM.opSub, VM.opMul, VM.opFdiv, VM.opMod, VM.opPow, VM.opCm, VM.opEq, VM.frz, VM.isD, VM.eqv, VM.isNon, VM.kdOf, VM.D0, VM.turn, List.map_cons, List.map_nil, List.replicate_succ, List.replicate_zero, List.cons_append, List.nil_append, List.getElem?_cons_zero, List.getElem?_cons_succ, List.set_cons_zero, List.set_cons_succ, Nat.reduceSub, VM.wipe, List.length_cons, List.length_nil, Nat.reduceAdd, ilst, y1', y2']
        refine ⟨trivial, trivial, ?_⟩
        have in4 : ∀ st4 re4 : List Vec, (∀ r ∈ stay, r ∈ st4) → (∀ r ∈ rest', r ∈ re4) → red at_ s head ∈ st4 ++ re4 → ∀ i (hi' : i < left.length), i < (pre ++ [PV.int (pre.length : Nat)]).length → i ≠ least → red at_ left[i] head ∈ st4 ++ re4 := fun st4 re4 k1 k2 k3 i hi' h hne => by
          rw [List.length_append, List.length_singleton] at h
          by_cases he2 : i = pre.length
          · subst he2
            rw [hsd]
            exact k3
          · rcases List.mem_append.mp (i4 i hi' (by omega) hne) with m | m
            · exact List.mem_append_left _ (k1 _ m)
            · exact List.mem_append_right _ (k2 _ m)
        have cnt4 : (if least < (pre ++ [PV.int (pre.length : Nat)]).length then 1 else 0) = (if least < pre.length then 1 else 0 : Nat) := by
          rw [List.length_append, List.length_singleton]
          by_cases h : least < pre.length
          · rw [if_pos h, if_pos (by omega)]
          · rw [if_neg h, if_neg (by omega)]
        have tot : stay.length + rest'.length ≤ 2000 := by
          have : pre.length < left.length := hi
          omega
        by_cases hz : nth (red at_ s head) at_ = 0
        · have hb2 : (!(nth (red at_ s head) at_ == 0)) = false := by rw [hz]; rfl
          refine (if_neg (show ¬ (!(nth (red at_ s head) at_ == 0)) = true by rw [hb2]; exact Bool.false_ne_true)).mpr' ?_
          refine ⟨by decide, by simp; show _ ≤ 16777216; omega, ?_⟩
          refine d4 _ _ ⟨rfl, some (ilst (red at_ s head)), some (.int pre.length), stay, rest' ++ [red at_ s head], pre ++ [.int pre.length], by simp [red, ilst, rl], by simpa using hp, i2, fun r m => ?_, in4 _ _ (fun _ m => m) (fun _ m => List.mem_append_left _ m) (by simp), fun r m => List.mem_append_left _ (i5 r m), ?_⟩
          · rcases List.mem_append.mp m with m | m
            · exact i3 r m
            · rw [List.mem_singleton.mp m]; exact .inr ⟨s, ms, rfl, hz⟩
          · rw [cnt4, List.length_append, List.length_append, List.length_singleton, List.length_singleton]
            omega
        · have hb2 : (!(nth (red at_ s head) at_ == 0)) = true := by
            have : (nth (red at_ s head) at_ == 0) = false := by rw [beq_eq_false_iff_ne]; exact hz
            rw [this]; rfl
          refine (if_pos (show (!(nth (red at_ s head) at_ == 0)) = true from hb2)).mpr' ?_
          refine ⟨by decide, by simp; show _ ≤ 16777216; omega, ?_⟩
          refine d4 _ _ ⟨rfl, some (ilst (red at_ s head)), some (.int pre.length), stay ++ [red at_ s head], rest', pre ++ [.int pre.length], by simp [red, ilst, rl], by simpa using hp, fun r m => ?_, i3, in4 _ _ (fun _ m => List.mem_append_left _ m) (fun _ m => m) (by simp), i5, ?_⟩
          · rcases List.mem_append.mp m with m | m
            · exact i2 r m
            · rw [List.mem_singleton.mp m]; exact ⟨s, ms, rfl, hz⟩
          · rw [cnt4, List.length_append, List.length_append, List.length_singleton, List.length_singleton]
            omega
    · rintro ρ st' ⟨rfl, b3, b6, stay, rest', pre, rfl, hp, i2, i3, i4, i5, i6⟩
      refine ⟨trivial, ?_⟩
      rw [List.append_nil] at hp
      have hpl := range_pre hp
      simp only [VM.sNil, VM.sCons, VM.sSet, VM.sPar, VM.sSetIx, VM.setIx, VM.sExpr, VM.sRet, VM.sRetN, VM.sIf, VM.sBreak, VM.sCont, VM.sFor, VM.gName, VM.gTup, VM.gEach, VM.eVar, VM.eC, VM.eBin, VM.eNeg, VM.eCmp, VM.eChain, VM.tOf, VM.tCmp, VM.tChain, VM.tAnd, VM.tOr, VM.tNot, VM.tYes, VM.eTest, VM.eAnd, VM.eOr, VM.eNot, VM.eIf, VM.aNil, VM.aCons, VM.eLst, VM.eLstM, VM.eTup, VM.eCall, VM.eIx, VM.getIx, VM.eSl, VM.getSl, VM.iE, VM.iRange1, VM.iRange2, VM.iZip, VM.iRev, VM.eComp, VM.eCompM, VM.eAppend, VM.eInsert, VM.eB1, VM.fLen, VM.fAbs, VM.fInt, VM.fList, VM.fListM, VM.fTuple, VM.fSum, VM.fAll, VM.fAny, VM.fIsi, VM.bLen, VM.seqOf, VM.sq, VM.asL, VM.items, VM.isSeq, VM.truth, VM.opBin, VM.opAdd, VM.opSub, VM.opMul, VM.opFdiv, VM.opMod, VM.opPow, VM.opCm, VM.opEq, VM.frz, VM.isD, VM.eqv, VM.isNon, VM.kdOf, VM.D0, VM.turn, List.map_cons, List.map_nil, List.replicate_succ, List.replicate_zero, List.cons_append, List.nil_append, List.getElem?_cons_zero, List.getElem?_cons_succ, List.set_cons_zero, List.set_cons_succ, Nat.reduceSub, VM.wipe, List.length_cons, List.length_nil, Nat.reduceAdd]
      refine hk head (head :: stay) rest' _ _ _ _ _ hm hmn ⟨List.mem_cons_self .., fun r m => ?_, i3, fun s ms => ?_, i5, ?_, stay, rfl, i2⟩
      · rcases List.mem_cons.mp m with e | m
        · exact .inl e
        · exact .inr (i2 r m)
      · obtain ⟨i, hi, rfl⟩ := List.mem_iff_getElem.mp ms
        by_cases he : i = least
        · subst he; exact .inl hh
        · right
          have := i4 i hi (by omega) he
          simp only [List.mem_append, List.mem_cons] at this ⊢
          rcases this with m | m
          · exact .inl (.inr m)
          · exact .inr m
      · rw [if_pos (by omega)] at i6
        rw [List.length_cons]
        omega
theorem cleared_at {FT : Nat → Option FD} {d : Nat} (hF : FT 7 = some ⟨2, 9, T_cleared⟩) (h1 : At FT d SpMinus) : At FT (d + 1) SpCleared := at_of hF h1 fun cs cs' mn go => by
  intro rows w at_ e st k x hl hb hat hw hrl hs hk
  refine go _ _ _ _ rfl ?_
  show (sCons _ (sCons _ (sCons (sWhile _ (clBody cs)) _))) _ _ _
  have ge : ∀ r ∈ rows, ix (pvis r).length (at_ : Int) = some at_ ∧ (pvis r)[at_]? = some (.int (nth r at_)) := fun r m => ixv (by rw [hl r m]; exact hat)
  simp only [VM.sNil, VM.sCons, VM.sSet, VM.sPar, VM.sSetIx, VM.setIx, VM.sExpr, VM.sRet, VM.sRetN, VM.sIf, VM.sBreak, VM.sCont, VM.sFor, VM.gName, VM.gTup, VM.gEach, VM.eVar, VM.eC, VM.eBin, VM.eNeg, VM.eCmp, VM.eChain, VM.tOf, VM.tCmp, VM.tChain, VM.tAnd, VM.tOr, VM.tNot, VM.tYes, VM.eTest, VM.eAnd, VM.eOr, VM.eNot, VM.eIf, VM.aNil, VM.aCons, VM.eLst, VM.eLstM, VM.eTup, VM.eCall, VM.eIx, VM.getIx, VM.eSl, VM.getSl, VM.iE, VM.iRange1, VM.iRange2, VM.iZip, VM.iRev, VM.eComp, VM.eCompM, VM.eAppend, VM.eInsert, VM.eB1, VM.fLen, VM.fAbs, VM.fInt, VM.fList, VM.fListM, VM.fTuple, VM.fSum, VM.fAll, VM.fAny, VM.fIsi, VM.bLen, VM.seqOf, VM.sq, VM.asL, VM.items, VM.isSeq, VM.truth, VM.opBin, VM.opAdd, VM.opSub, VM.opMul, VM.opFdiv, VM.opMod, VM.opPow, VM.opCm, VM.opEq, VM.frz, VM.isD, VM.eqv, VM.isNon, VM.kdOf, VM.D0, VM.turn, List.map_cons, List.map_nil, List.replicate_succ, List.replicate_zero, List.cons_append, List.nil_append, List.getElem?_cons_zero, List.getElem?_cons_succ, List.set_cons_zero, List.set_cons_succ, Nat.reduceSub, VM.wipe, List.length_cons, List.length_nil, Nat.reduceAdd]
  refine ⟨trivial, comp_of ilst (fun r => if (!decide (nth r at_ = 0)) = true then some (ilst r) else none) trivial rows (fun r m k' hk' => ?_) (by show _ ≤ 16777216; omega) ?_⟩
  · obtain ⟨x1, x2⟩ := ge r m
    simp only [VM.sNil, VM.sCons, VM.sSet, VM.sPar, VM.sSetIx, VM.setIx, VM.sExpr, VM.sRet, VM.sRetN, VM.sIf, VM.sBreak, VM.sCont, VM.sFor, VM.gName, VM.gTup, VM.gEach, VM.eVar, VM.eC, VM.eBin, VM.eNeg, VM.eCmp, VM.eChain, VM.tOf, VM.tCmp, VM.tChain, VM.tAnd, VM.tOr, VM.tNot, VM.tYes, VM.eTest, VM.eAnd, VM.eOr, VM.eNot, VM.eIf, VM.aNil, VM.aCons, VM.eLst, VM.eLstM, VM.eTup, VM.eCall, VM.eIx, VM.getIx, VM.eSl, VM.getSl, VM.iE, VM.iRange1, VM.iRange2, VM.iZip, VM.iRev, VM.eComp, VM.eCompM, VM.eAppend, VM.eInsert, VM.eB1, VM.fLen, VM.fAbs, VM.fInt, VM.fList, VM.fListM, VM.fTuple, VM.fSum, VM.fAll, VM.fAny, VM.fIsi, VM.bLen, VM.seqOf, VM.sq, VM.asL, VM.items, VM.isSeq, VM.truth, VM.opBin, VM.opAdd, VM.opSub, VM.opMul, VM.opFdiv, VM.opMod, VM.opPow, VM.opCm, VM.opEq, VM.frz, VM.isD, VM.eqv, VM.isNon, VM.kdOf, VM.D0, VM.turn, List.map_cons, List.map_nil, List.replicate_succ, List.replicate_zero, List.cons_append, List.nil_append, List.getElem?_cons_zero, List.getElem?_cons_succ, List.set_cons_zero, List.set_cons_succ, Nat.reduceSub, VM.wipe, List.length_cons, List.length_nil, Nat.reduceAdd, x1, x2]
    refine ⟨trivial, trivial, ?_⟩
    by_cases z : nth r at_ = 0
    · simpa [z] using hk'
    · simpa [z] using hk'
  rw [fm_filter]
  refine ⟨trivial, comp_of ilst (fun r => if (decide (nth r at_ = 0)) = true then some (ilst r) else none) trivial rows (fun r m k' hk' => ?_) (by show _ ≤ 16777216; omega) ?_⟩
  · obtain ⟨x1, x2⟩ := ge r m
    simp only [VM.sNil, VM.sCons, VM.sSet, VM.sPar, VM.sSetIx, VM.setIx, VM.sExpr, VM.sRet, VM.sRetN, VM.sIf, VM.sBreak, VM.sCont, VM.sFor, VM.gName, VM.gTup, VM.gEach, VM.eVar, VM.eC, VM.eBin, VM.eNeg, VM.eCmp, VM.eChain, VM.tOf, VM.tCmp, VM.tChain, VM.tAnd, VM.tOr, VM.tNot, VM.tYes, VM.eTest, VM.eAnd, VM.eOr, VM.eNot, VM.eIf, VM.aNil, VM.aCons, VM.eLst, VM.eLstM, VM.eTup, VM.eCall, VM.eIx, VM.getIx, VM.eSl, VM.getSl, VM.iE, VM.iRange1, VM.iRange2, VM.iZip, VM.iRev, VM.eComp, VM.eCompM, VM.eAppend, VM.eInsert, VM.eB1, VM.fLen, VM.fAbs, VM.fInt, VM.fList, VM.fListM, VM.fTuple, VM.fSum, VM.fAll, VM.fAny, VM.fIsi, VM.bLen, VM.seqOf, VM.sq, VM.asL, VM.items, VM.isSeq, VM.truth, VM.opBin, VM.opAdd, VM.opSub, VM.opMul, VM.opFdiv, VM.opMod, VM.opPow, VM.opCm, VM.opEq, VM.frz, VM.isD, VM.eqv, VM.isNon, VM.kdOf, VM.D0, VM.turn, List.map_cons, List.map_nil, List.replicate_succ, List.replicate_zero, List.cons_append, List.nil_append, List.getElem?_cons_zero, List.getElem?_cons_succ, List.set_cons_zero, List.set_cons_succ, Nat.reduceSub, VM.wipe, List.length_cons, List.length_nil, Nat.reduceAdd, x1, x2]
    refine ⟨trivial, trivial, ?_⟩
    by_cases z : nth r at_ = 0
    · simpa [z] using hk'
    · simpa [z] using hk'
  rw [fm_filter]
  have c0 := filter_nz at_ rows w e hl hb
  refine while_meas (fun m ρ st' => st' = st ∧ ∃ (a3 a5 a6 a7 a8 : Option PV) (left rest : List Vec), ρ = [some (rl rows), some (.int at_), some (rl left), a3, some (rl rest), a5, a6, a7, a8] ∧ Cl w at_ e rows left rest ∧ (1 < left.length → ∃ r ∈ left, (nth r at_).natAbs ≤ m) ∧ Few at_ rows left rest) ?_ (2 ^ e) _ _ ⟨rfl, _, _, _, _, _, _, _, rfl, c0, fun h => ?_, .inr ⟨rfl, rfl⟩⟩
  · rintro m ρ st' ⟨rfl, a3, a5, a6, a7, a8, left, rest, rfl, c, hm, few⟩ D' d1 d2 d3 d4 d5
    have few2 : 1 < left.length → 1 < (fnz at_ rows).length := fun h => by
      rcases few with f | ⟨f, _⟩
      · exact f
      · rw [← f]; exact h
    simp only [VM.sNil, VM.sCons, VM.sSet, VM.sPar, VM.sSetIx, VM.setIx, VM.sExpr, VM.sRet, VM.sRetN, VM.sIf, VM.sBreak, VM.sCont, VM.sFor, VM.gName, VM.gTup, VM.gEach, VM.eVar, VM.eC, VM.eBin, VM.eNeg, VM.eCmp, VM.eChain, VM.tOf, VM.tCmp, VM.tChain, VM.tAnd, VM.tOr, VM.tNot, VM.tYes, VM.eTest, VM.eAnd, VM.eOr, VM.eNot, VM.eIf, VM.aNil, VM.aCons, VM.eLst, VM.eLstM, VM.eTup, VM.eCall, VM.eIx, VM.getIx, VM.eSl, VM.getSl, VM.iE, VM.iRange1, VM.iRange2, VM.iZip, VM.iRev, VM.eComp, VM.eCompM, VM.eAppend, VM.eInsert, VM.eB1, VM.fLen, VM.fAbs, VM.fInt, VM.fList, VM.fListM, VM.fTuple, VM.fSum, VM.fAll, VM.fAny, VM.fIsi, VM.bLen, VM.seqOf, VM.sq, VM.asL, VM.items, VM.isSeq, VM.truth, VM.opBin, VM.opAdd, VM.opSub, VM.opMul, VM.opFdiv, VM.opMod, VM.opPow, VM.opCm, VM.opEq, VM.frz, VM.isD, VM.eqv, VM.isNon, VM.kdOf, VM.D0, VM.turn, List.map_cons, List.map_nil, List.replicate_succ, List.replicate_zero, List.cons_append, List.nil_append, List.getElem?_cons_zero, List.getElem?_cons_succ, List.set_cons_zero, List.set_cons_succ, Nat.reduceSub, VM.wipe, List.length_cons, List.length_nil, Nat.reduceAdd, List.length_map]
    by_cases h : 1 < left.length
    · have h' : (1 : Int) < (left.length : Int) := by omega
      simp only [h', decide_true, if_true]
      refine cl_turn mn hl hat hw hrl hs c h fun head late rest' b3 b5 b6 b7 b8 hm1 hm2 I => ?_
      obtain ⟨r0, mr0, er0⟩ := hm h
      have := hm2 r0 mr0
      have nz := c.nz head hm1
      by_cases h2 : 1 < late.length
      · obtain ⟨r, mr, er⟩ := I.less c hm1 h2
        exact d4 (nth r at_).natAbs _ _ (by omega) ⟨rfl, _, _, _, _, _, late, rest', rfl, c.step hl hm1 hm2 I, (fun _ => ⟨r, mr, Nat.le_refl _⟩), .inl (few2 h)⟩
      · exact d4 0 _ _ (by omega) ⟨rfl, _, _, _, _, _, late, rest', rfl, c.step hl hm1 hm2 I, (fun h3 => (h2 h3).elim), .inl (few2 h)⟩
    · have h' : ¬ (1 : Int) < (left.length : Int) := by omega
      simp only [h', decide_false, Bool.false_eq_true, if_false]
      exact ⟨by decide, hk left rest ⟨c, by omega, few⟩⟩
  · cases hf : rows.filter fun r => !decide (nth r at_ = 0) with
    | nil => rw [hf] at h; simp at h
    | cons r l =>
      have mr : r ∈ rows.filter fun r => !decide (nth r at_ = 0) := by rw [hf]; exact List.mem_cons_self ..
      exact ⟨r, List.mem_cons_self .., Nat.le_of_lt ((hb r (List.mem_filter.mp mr).1).nth at_)⟩
end VP
end
section
namespace VP
open VM
def Sm : Nat → PV → Prop
  | _, .non => True
  | _, .bl _ => True
  | _, .int _ => True
  | _, .str _ => True
  | n + 1, .lst xs => xs.length ≤ SZ ∧ ∀ x ∈ xs, Sm n x
  | n + 1, .tup xs => xs.length ≤ SZ ∧ ∀ x ∈ xs, Sm n x
  | _, _ => False
def SpSame (n : Nat) (cs : CS) : Prop := ∀ (y : PV) (st : Store) (k x : KV), Sm n y → k (.bl true) st → cs 16 [y, y] st k x
theorem all_true (n : Nat) : allBl (List.replicate n (PV.bl true)) = some (List.replicate n true) := by
  induction n with
  | zero => rfl
  | succ n ih => rw [List.replicate_succ, allBl, ih]; rfl
theorem all_true2 (n : Nat) : (List.replicate n true).all id = true := by
  induction n with
  | zero => rfl
  | succ n ih => rw [List.replicate_succ, List.all_cons, ih]; rfl
theorem zip_self (xs : List PV) : List.zipWith (fun x y => PV.tup [x, y]) xs xs = xs.map fun x => PV.tup [x, x] := by
  induction xs with
  | nil => rfl
  | cons x xs ih => simp [ih]
theorem same_at {FT : Nat → Option FD} (hF : FT 16 = some ⟨2, 4, T__law_same⟩) : ∀ n, At FT (n + 1) (SpSame n) := by
  intro n
  induction n with
  | zero =>
    refine at_of (C := fun _ => True) hF (fun _ _ => trivial) fun cs cs' _ go => ?_
    intro y st k x hy hk
    refine go _ _ _ _ rfl ?_
    cases y <;> first | (exact hy.elim) | (simp [T__law_same, VM.sNil, VM.sCons, VM.sSet, VM.sPar, VM.sSetIx, VM.setIx, VM.sExpr, VM.sRet, VM.sRetN, VM.sIf, VM.sBreak, VM.sCont, VM.sFor, VM.gName, VM.gTup, VM.gEach, VM.eVar, VM.eC, VM.eBin, VM.eNeg, VM.eCmp, VM.eChain, VM.tOf, VM.tCmp, VM.tChain, VM.tAnd, VM.tOr, VM.tNot, VM.tYes, VM.eTest, VM.eAnd, VM.eOr, VM.eNot, VM.eIf, VM.aNil, VM.aCons, VM.eLst, VM.eLstM, VM.eTup, VM.eCall, VM.eIx, VM.getIx, VM.eSl, VM.getSl, VM.iE, VM.iRange1, VM.iRange2, VM.iZip, VM.iRev, VM.eComp, VM.eCompM, VM.eAppend, VM.eInsert, VM.eB1, VM.fLen, VM.fAbs, VM.fInt, VM.fList, VM.fListM, VM.fTuple, VM.fSum, VM.fAll, VM.fAny, VM.fIsi, VM.bLen, VM.seqOf, VM.sq, VM.asL, VM.items, VM.isSeq, VM.truth, VM.opBin, VM.opAdd, VM.opSub, VM.opMul, VM.opFdiv, VM.opMod, VM.opPow, VM.opCm, VM.opEq, VM.frz, VM.isD, VM.eqv, VM.isNon, VM.kdOf, VM.D0, VM.turn, List.map_cons, List.map_nil, List.replicate_succ, List.replicate_zero, List.cons_append, List.nil_append, List.getElem?_cons_zero, List.getElem?_cons_succ, List.set_cons_zero, List.set_cons_succ, Nat.reduceSub, VM.wipe, List.length_cons, List.length_nil, Nat.reduceAdd, kdIs]; exact hk)
  | succ n ih =>
    refine at_of hF ih fun cs cs' ih go => ?_
    intro y st k x hy hk
    refine go _ _ _ _ rfl ?_
    cases y <;> first | (exact hy.elim) | (simp [T__law_same, VM.sNil, VM.sCons, VM.sSet, VM.sPar, VM.sSetIx, VM.setIx, VM.sExpr, VM.sRet, VM.sRetN, VM.sIf, VM.sBreak, VM.sCont, VM.sFor, VM.gName, VM.gTup, VM.gEach, VM.eVar, VM.eC, VM.eBin, VM.eNeg, VM.eCmp, VM.eChain, VM.tOf, VM.tCmp, VM.tChain, VM.tAnd, VM.tOr, VM.tNot, VM.tYes, VM.eTest, VM.eAnd, VM.eOr, VM.eNot, VM.eIf, VM.aNil, VM.aCons, VM.eLst, VM.eLstM, VM.eTup, VM.eCall, VM.eIx, VM.getIx, VM.eSl, VM.getSl, VM.iE, VM.iRange1, VM.iRange2, VM.iZip, VM.iRev, VM.eComp, VM.eCompM, VM.eAppend, VM.eInsert, VM.eB1, VM.fLen, VM.fAbs, VM.fInt, VM.fList, VM.fListM, VM.fTuple, VM.fSum, VM.fAll, VM.fAny, VM.fIsi, VM.bLen, VM.seqOf, VM.sq, VM.asL, VM.items, VM.isSeq, VM.truth, VM.opBin, VM.opAdd, VM.opSub, VM.opMul, VM.opFdiv, VM.opMod, VM.opPow, VM.opCm, VM.opEq, VM.frz, VM.isD, VM.eqv, VM.isNon, VM.kdOf, VM.D0, VM.turn, List.map_cons, List.map_nil, List.replicate_succ, List.replicate_zero, List.cons_append, List.nil_append, List.getElem?_cons_zero, List.getElem?_cons_succ, List.set_cons_zero, List.set_cons_succ, Nat.reduceSub, VM.wipe, List.length_cons, List.length_nil, Nat.reduceAdd, kdIs]; exact hk) | skip
    · rename_i xs
      obtain ⟨h1, h2⟩ := hy
      have fin : compGo (gTup [gName 2, gName 3]) tYes (eCall cs 16 (aCons (eVar 2) (aCons (eVar 3) aNil))) [2, 3] (fun st' => stays st (.tup xs) st' ∧ stays st (.tup xs) st') (List.zipWith (fun x y => PV.tup [x, y]) xs xs) [] [some (.tup xs), some (.tup xs), none, none] st
          (fun ys st => match allBl ys with | some bs => k (.bl (bs.all id)) st | none => False) := by
        rw [zip_self]
        refine comp_of (fun z => PV.tup [z, z]) (fun _ => some (.bl true)) ⟨trivial, trivial⟩ xs (fun z hz k' hk' => ?_) h1 ?_
        · simp only [VM.sNil, VM.sCons, VM.sSet, VM.sPar, VM.sSetIx, VM.setIx, VM.sExpr, VM.sRet, VM.sRetN, VM.sIf, VM.sBreak, VM.sCont, VM.sFor, VM.gName, VM.gTup, VM.gEach, VM.eVar, VM.eC, VM.eBin, VM.eNeg, VM.eCmp, VM.eChain, VM.tOf, VM.tCmp, VM.tChain, VM.tAnd, VM.tOr, VM.tNot, VM.tYes, VM.eTest, VM.eAnd, VM.eOr, VM.eNot, VM.eIf, VM.aNil, VM.aCons, VM.eLst, VM.eLstM, VM.eTup, VM.eCall, VM.eIx, VM.getIx, VM.eSl, VM.getSl, VM.iE, VM.iRange1, VM.iRange2, VM.iZip, VM.iRev, VM.eComp, VM.eCompM, VM.eAppend, VM.eInsert, VM.eB1, VM.fLen, VM.fAbs, VM.fInt, VM.fList, VM.fListM, VM.fTuple, VM.fSum, VM.fAll, VM.fAny, VM.fIsi, VM.bLen, VM.seqOf, VM.sq, VM.asL, VM.items, VM.isSeq, VM.truth, VM.opBin, VM.opAdd, VM.opSub, VM.opMul, VM.opFdiv, VM.opMod, VM.opPow, VM.opCm, VM.opEq, VM.frz, VM.isD, VM.eqv, VM.isNon, VM.kdOf, VM.D0, VM.turn, List.map_cons, List.map_nil, List.replicate_succ, List.replicate_zero, List.cons_append, List.nil_append, List.getElem?_cons_zero, List.getElem?_cons_succ, List.set_cons_zero, List.set_cons_succ, Nat.reduceSub, VM.wipe, List.length_cons, List.length_nil, Nat.reduceAdd, if_true]
          exact ⟨trivial, ih z st _ _ (h2 z hz) hk'⟩
        · have e : xs.filterMap (fun _ => some (PV.bl true)) = List.replicate xs.length (.bl true) := by
            rw [show (fun _ : PV => some (PV.bl true)) = some ∘ (fun _ => PV.bl true) from rfl, List.filterMap_eq_map, List.map_const']
          rw [e, all_true]
          show k _ _
          rw [all_true2]
          exact hk
      simp only [and_self, zip_self] at fin
      simp [T__law_same, VM.sNil, VM.sCons, VM.sSet, VM.sPar, VM.sSetIx, VM.setIx, VM.sExpr, VM.sRet, VM.sRetN, VM.sIf, VM.sBreak, VM.sCont, VM.sFor, VM.gName, VM.gTup, VM.gEach, VM.eVar, VM.eC, VM.eBin, VM.eNeg, VM.eCmp, VM.eChain, VM.tOf, VM.tCmp, VM.tChain, VM.tAnd, VM.tOr, VM.tNot, VM.tYes, VM.eTest, VM.eAnd, VM.eOr, VM.eNot, VM.eIf, VM.aNil, VM.aCons, VM.eLst, VM.eLstM, VM.eTup, VM.eCall, VM.eIx, VM.getIx, VM.eSl, VM.getSl, VM.iE, VM.iRange1, VM.iRange2, VM.iZip, VM.iRev, VM.eComp, VM.eCompM, VM.eAppend, VM.eInsert, VM.eB1, VM.fLen, VM.fAbs, VM.fInt, VM.fList, VM.fListM, VM.fTuple, VM.fSum, VM.fAll, VM.fAny, VM.fIsi, VM.bLen, VM.seqOf, VM.sq, VM.asL, VM.items, VM.isSeq, VM.truth, VM.opBin, VM.opAdd, VM.opSub, VM.opMul, VM.opFdiv, VM.opMod, VM.opPow, VM.opCm, VM.opEq, VM.frz, VM.isD, VM.eqv, VM.isNon, VM.kdOf, VM.D0, VM.turn, List.map_cons, List.map_nil, List.replicate_succ, List.replicate_zero, List.cons_append, List.nil_append, List.getElem?_cons_zero, List.getElem?_cons_succ, List.set_cons_zero, List.set_cons_succ, Nat.reduceSub, VM.wipe, List.length_cons, List.length_nil, Nat.reduceAdd, kdIs, zip_self]
      exact fin
    · rename_i xs
      obtain ⟨h1, h2⟩ := hy
      have fin : compGo (gTup [gName 2, gName 3]) tYes (eCall cs 16 (aCons (eVar 2) (aCons (eVar 3) aNil))) [2, 3] (fun st' => stays st (.lst xs) st' ∧ stays st (.lst xs) st') (List.zipWith (fun x y => PV.tup [x, y]) xs xs) [] [some (.lst xs), some (.lst xs), none, none] st
          (fun ys st => match allBl ys with | some bs => k (.bl (bs.all id)) st | none => False) := by
        rw [zip_self]
        refine comp_of (fun z => PV.tup [z, z]) (fun _ => some (.bl true)) ⟨trivial, trivial⟩ xs (fun z hz k' hk' => ?_) h1 ?_
        · simp only [VM.sNil, VM.sCons, VM.sSet, VM.sPar, VM.sSetIx, VM.setIx, VM.sExpr, VM.sRet, VM.sRetN, VM.sIf, VM.sBreak, VM.sCont, VM.sFor, VM.gName, VM.gTup, VM.gEach, VM.eVar, VM.eC, VM.eBin, VM.eNeg, VM.eCmp, VM.eChain, VM.tOf, VM.tCmp, VM.tChain, VM.tAnd, VM.tOr, VM.tNot, VM.tYes, VM.eTest, VM.eAnd, VM.eOr, VM.eNot, VM.eIf, VM.aNil, VM.aCons, VM.eLst, VM.eLstM, VM.eTup, VM.eCall, VM.eIx, VM.getIx, VM.eSl, VM.getSl, VM.iE, VM.iRange1, VM.iRange2, VM.iZip, VM.iRev, VM.eComp, VM.eCompM, VM.eAppend, VM.eInsert, VM.eB1, VM.fLen, VM.fAbs, VM.fInt, VM.fList, VM.fListM, VM.fTuple, VM.fSum, VM.fAll, VM.fAny, VM.fIsi, VM.bLen, VM.seqOf, VM.sq, VM.asL, VM.items, VM.isSeq, VM.truth, VM.opBin, VM.opAdd, VM.opSub, VM.opMul, VM.opFdiv, VM.opMod, VM.opPow, VM.opCm, VM.opEq, VM.frz, VM.isD, VM.eqv, VM.isNon, VM.kdOf, VM.D0, VM.turn, List.map_cons, List.map_nil, List.replicate_succ, List.replicate_zero, List.cons_append, List.nil_append, List.getElem?_cons_zero, List.getElem?_cons_succ, List.set_cons_zero, List.set_cons_succ, Nat.reduceSub, VM.wipe, List.length_cons, List.length_nil, Nat.reduceAdd, if_true]
          exact ⟨trivial, ih z st _ _ (h2 z hz) hk'⟩
        · have e : xs.filterMap (fun _ => some (PV.bl true)) = List.replicate xs.length (.bl true) := by
            rw [show (fun _ : PV => some (PV.bl true)) = some ∘ (fun _ => PV.bl true) from rfl, List.filterMap_eq_map, List.map_const']
          rw [e, all_true]
          show k _ _
          rw [all_true2]
          exact hk
      simp only [and_self, zip_self] at fin
      simp [T__law_same, VM.sNil, VM.sCons, VM.sSet, VM.sPar, VM.sSetIx, VM.setIx, VM.sExpr, VM.sRet, VM.sRetN, VM.sIf, VM.sBreak, VM.sCont, VM.sFor, VM.gName, VM.gTup, VM.gEach, VM.eVar, VM.eC, VM.eBin, VM.eNeg, VM.eCmp, VM.eChain, VM.tOf, VM.tCmp, VM.tChain, VM.tAnd, VM.tOr, VM.tNot, VM.tYes, VM.eTest, VM.eAnd, VM.eOr, VM.eNot, VM.eIf, VM.aNil, VM.aCons, VM.eLst, VM.eLstM, VM.eTup, VM.eCall, VM.eIx, VM.getIx, VM.eSl, VM.getSl, VM.iE, VM.iRange1, VM.iRange2, VM.iZip, VM.iRev, VM.eComp, VM.eCompM, VM.eAppend, VM.eInsert, VM.eB1, VM.fLen, VM.fAbs, VM.fInt, VM.fList, VM.fListM, VM.fTuple, VM.fSum, VM.fAll, VM.fAny, VM.fIsi, VM.bLen, VM.seqOf, VM.sq, VM.asL, VM.items, VM.isSeq, VM.truth, VM.opBin, VM.opAdd, VM.opSub, VM.opMul, VM.opFdiv, VM.opMod, VM.opPow, VM.opCm, VM.opEq, VM.frz, VM.isD, VM.eqv, VM.isNon, VM.kdOf, VM.D0, VM.turn, List.map_cons, List.map_nil, List.replicate_succ, List.replicate_zero, List.cons_append, List.nil_append, List.getElem?_cons_zero, List.getElem?_cons_succ, List.set_cons_zero, List.set_cons_succ, Nat.reduceSub, VM.wipe, List.length_cons, List.length_nil, Nat.reduceAdd, kdIs, zip_self]
      exact fin
end VP
end
section
namespace VP
open VM
/-- p over q, in lowest terms, is a over b -/
structure ShOf (n : Nat) (p q a b : Int) : Prop where
  cr : p * b = a * q
  q1 : 1 ≤ q
  b1 : 1 ≤ b
  g : Int.gcd p q = 1
  sp : p.natAbs < 2 ^ n
  sq : q.natAbs < 2 ^ n
theorem ShOf.of {n : Nat} {t b : Int} (hb : 1 ≤ b) (h1 : t.natAbs < 2 ^ n) (h2 : b.natAbs < 2 ^ n) : ShOf n (t.fdiv (Int.gcd t b)) (b.fdiv (Int.gcd t b)) t b := by
  have g0 : 0 < Int.gcd t b := Int.gcd_pos_of_ne_zero_right _ (by omega)
  rw [Int.fdiv_eq_ediv_of_nonneg _ (by omega), Int.fdiv_eq_ediv_of_nonneg _ (by omega)]
  have gg := Int.gcd_ediv_gcd_ediv_gcd g0
  have d1 : t / (Int.gcd t b : Int) * (Int.gcd t b : Int) = t := Int.ediv_mul_cancel (Int.gcd_dvd_left t b)
  have d2 : b / (Int.gcd t b : Int) * (Int.gcd t b : Int) = b := Int.ediv_mul_cancel (Int.gcd_dvd_right t b)
  revert gg d1 d2
  generalize hg : (Int.gcd t b : Int) = g
  have g1 : 1 ≤ g := by omega
  generalize t / g = p
  generalize b / g = q
  intro gg d1 d2
  have np : p.natAbs ≤ t.natAbs := by
    rw [← d1, Int.natAbs_mul]
    exact Nat.le_mul_of_pos_right _ (by omega)
  have nq : q.natAbs ≤ b.natAbs := by
    rw [← d2, Int.natAbs_mul]
    exact Nat.le_mul_of_pos_right _ (by omega)
  refine ⟨?_, ?_, hb, gg, by omega, by omega⟩
  · rw [← d2]
    conv => rhs; rw [← d1]
    grind
  · rcases Int.lt_or_le q 1 with h | h
    · have := Int.mul_le_mul_of_nonneg_right (show q ≤ 0 by omega) (show 0 ≤ g by omega)
      omega
    · exact h
theorem ShOf.to {n : Nat} {p q a b c d : Int} (h : ShOf n p q a b) (hd : 1 ≤ d) (e : a * d = c * b) : ShOf n p q c d := by
  refine ⟨?_, h.q1, hd, h.g, h.sp, h.sq⟩
  have h1 := h.cr
  have hb : b ≠ 0 := by have := h.b1; omega
  apply Int.eq_of_mul_eq_mul_right hb
  grind
theorem ShOf.mono {n m : Nat} {p q a b : Int} (h : ShOf n p q a b) (hm : n ≤ m) : ShOf m p q a b :=
  ⟨h.cr, h.q1, h.b1, h.g, Nat.lt_of_lt_of_le h.sp (Nat.pow_le_pow_right (by decide) hm), Nat.lt_of_lt_of_le h.sq (Nat.pow_le_pow_right (by decide) hm)⟩
theorem dvd1 {p q r : Int} (h : q ∣ p * r) (g : Int.gcd p q = 1) : q ∣ r := by
  have e := Int.dvd_gcd_mul_iff_dvd_mul (k := q) (n := p) (m := r)
  rw [Int.gcd_comm, g] at e
  simpa using e.mpr h
/-- the terms are no more than one way -/
theorem ShOf.eq_iff {n m : Nat} {p q a b p' q' c d : Int} (h : ShOf n p q a b) (h' : ShOf m p' q' c d) : (p = p' ∧ q = q') ↔ a * d = c * b := by
  have h1 := h.cr
  have h2 := h'.cr
  have q1 := h.q1
  have q2 := h'.q1
  have b1 := h.b1
  have d1 := h'.b1
  constructor
  · rintro ⟨rfl, rfl⟩
    apply Int.eq_of_mul_eq_mul_right (show q ≠ 0 by omega)
    grind
  · intro e
    have x : p * q' = p' * q := by
      apply Int.eq_of_mul_eq_mul_right (show b * d ≠ 0 from Int.mul_ne_zero (by omega) (by omega))
      have e1 : p * q' * (b * d) = (p * b) * (q' * d) := by grind
      have e2 : p' * q * (b * d) = (p' * d) * (q * b) := by grind
      rw [e1, e2, h1, h2]
      grind
    have d1 : q ∣ q' := by
      have : q ∣ p * q' := ⟨p', by grind⟩
      exact dvd1 this h.g
    have d2 : q' ∣ q := by
      have : q' ∣ p' * q := ⟨p, by grind⟩
      exact dvd1 this h'.g
    have eq : q = q' := Int.le_antisymm (Int.le_of_dvd (by omega) d1) (Int.le_of_dvd (by omega) d2)
    refine ⟨?_, eq⟩
    rw [← eq] at x
    exact Int.eq_of_mul_eq_mul_right (show q ≠ 0 by omega) x
theorem ShOf.int {p q a b i : Int} {n : Nat} (h : ShOf n p q a b) : (q = 1 ∧ p = i) ↔ a = i * b := by
  have e := h.eq_iff (ShOf.of (n := i.natAbs + 1) (t := i) (b := 1) (by decide) (by
    have := Nat.lt_two_pow_self (n := i.natAbs + 1)
    omega) (by
    have := Nat.lt_two_pow_self (n := i.natAbs + 1)
    show 1 < _
    omega))
  have g1 : Int.gcd i 1 = 1 := Int.gcd_one_right i
  rw [g1] at e
  rw [show i.fdiv ((1 : Nat) : Int) = i from Int.fdiv_one i, show (1 : Int).fdiv ((1 : Nat) : Int) = 1 from rfl, Int.mul_one] at e
  rw [← e]
  exact And.comm
theorem sz_mul {n m : Nat} {i j : Int} (hi : i.natAbs < 2 ^ n) (hj : j.natAbs < 2 ^ m) : (i * j).natAbs < 2 ^ (n + m) := by
  rw [Int.natAbs_mul, Nat.pow_add]
  exact Nat.mul_lt_mul_of_lt_of_lt hi hj
theorem sz_add {n : Nat} {i j : Int} (hi : i.natAbs < 2 ^ n) (hj : j.natAbs < 2 ^ n) : (i + j).natAbs < 2 ^ (n + 1) := by
  rw [Nat.pow_succ]
  omega
theorem sz_sub {n : Nat} {i j : Int} (hi : i.natAbs < 2 ^ n) (hj : j.natAbs < 2 ^ n) : (i - j).natAbs < 2 ^ (n + 1) := by
  rw [Nat.pow_succ]
  omega
theorem sz_neg {n : Nat} {i : Int} (hi : i.natAbs < 2 ^ n) : (-i).natAbs < 2 ^ n := by omega
theorem sz_mono {n m : Nat} {i : Int} (hi : i.natAbs < 2 ^ n) (h : n ≤ m) : i.natAbs < 2 ^ m := Nat.lt_of_lt_of_le hi (Nat.pow_le_pow_right (by decide) h)
theorem mo {n m : Nat} {i j : Int} (hi : i.natAbs < 2 ^ n) (hj : j.natAbs < 2 ^ m) (h : n + m ≤ 1000000) : MulOk i j :=
  mulOk_of (a := n + 1) (b := m + 1) (sz_mono hi (by omega)) (sz_mono hj (by omega)) (by omega) (by omega) (by omega)
abbrev shv (p q : Int) : PV := .obj 0 [85, 69] [.int p, .int q]
def isI : PV → Bool
  | .int _ => true
  | _ => false
def SpWh (cs : CS) : Prop := ∀ (v : PV) (st : Store) (k x : KV), isFlat v = true → k (.bl (isI v)) st → cs 27 [v] st k x
theorem wh_at {FT : Nat → Option FD} (hF : FT 27 = some ⟨1, 1, T_is_whole_number⟩) : At FT 1 SpWh := at_of (C := fun _ => True) hF (fun _ _ => trivial) fun cs cs' _ go => by
  intro v st k x hv hk
  refine go _ _ _ _ rfl ?_
  cases v <;> first | (cases hv; done) | (simp [T_is_whole_number, VM.sNil, VM.sCons, VM.sSet, VM.sPar, VM.sSetIx, VM.setIx, VM.sExpr, VM.sRet, VM.sRetN, VM.sIf, VM.sBreak, VM.sCont, VM.sFor, VM.gName, VM.gTup, VM.gEach, VM.eVar, VM.eC, VM.eBin, VM.eNeg, VM.eCmp, VM.eChain, VM.tOf, VM.tCmp, VM.tChain, VM.tAnd, VM.tOr, VM.tNot, VM.tYes, VM.eTest, VM.eAnd, VM.eOr, VM.eNot, VM.eIf, VM.aNil, VM.aCons, VM.eLst, VM.eLstM, VM.eTup, VM.eCall, VM.eIx, VM.getIx, VM.eSl, VM.getSl, VM.iE, VM.iRange1, VM.iRange2, VM.iZip, VM.iRev, VM.eComp, VM.eCompM, VM.eAppend, VM.eInsert, VM.eB1, VM.fLen, VM.fAbs, VM.fInt, VM.fList, VM.fListM, VM.fTuple, VM.fSum, VM.fAll, VM.fAny, VM.fIsi, VM.bLen, VM.seqOf, VM.sq, VM.asL, VM.items, VM.isSeq, VM.truth, VM.opBin, VM.opAdd, VM.opSub, VM.opMul, VM.opFdiv, VM.opMod, VM.opPow, VM.opCm, VM.opEq, VM.frz, VM.isD, VM.eqv, VM.isNon, VM.kdOf, VM.D0, VM.turn, List.map_cons, List.map_nil, List.replicate_succ, List.replicate_zero, List.cons_append, List.nil_append, List.getElem?_cons_zero, List.getElem?_cons_succ, List.set_cons_zero, List.set_cons_succ, Nat.reduceSub, VM.wipe, List.length_cons, List.length_nil, Nat.reduceAdd, kdIs, fIsi, eB1, isI] at hk ⊢; exact hk)
def SpInit (cs : CS) : Prop := ∀ (t b : Int) (st : Store) (i : Nat) (k x : KV), st[i]? = some (.ins 0 [] []) → 1 ≤ b → k .non (st.set i (.ins 0 [85, 69] [.int (t.fdiv (Int.gcd t b)), .int (b.fdiv (Int.gcd t b))])) → cs 28 [.ref i, .int t, .int b] st k x
theorem init_at {FT : Nat → Option FD} {d : Nat} (hF : FT 28 = some ⟨3, 4, T_Share___init__⟩) (h : At FT d SpWh) : At FT (d + 1) SpInit := at_of hF h fun cs cs' W go => by
  intro t b st i k x hi hb hk
  refine go _ _ _ _ rfl ?_
  have g0 : 0 < Int.gcd t b := Int.gcd_pos_of_ne_zero_right _ (by omega)
  have il : i < st.length := by
    cases e : st[i]? with
    | none => rw [e] at hi; cases hi
    | some o => exact (List.getElem?_eq_some_iff.mp e).1
  have b1 : decide (b < 1) = false := by simpa using hb
  simp only [T_Share___init__, sCons, sIf, tNot, tOf, eCall, aCons, aNil, eVar, List.map_cons, List.map_nil, List.replicate_succ, List.replicate_zero, List.cons_append, List.nil_append, Nat.reduceSub, List.getElem?_cons_zero, List.getElem?_cons_succ]
  refine W _ _ _ _ rfl ?_
  simp only [isI, truth, Bool.not_true, Bool.false_eq_true, if_false, sNil, tOr, tNot, tOf, eCall, aCons, aNil, eVar, List.getElem?_cons_zero, List.getElem?_cons_succ]
  refine W _ _ _ _ rfl ?_
  simp only [isI, truth, Bool.not_true, Bool.false_eq_true, if_false, sNil, tCmp, eVar, eC, List.getElem?_cons_zero, List.getElem?_cons_succ, opCm, b1, sSet, eGcd, gName, List.set_cons_zero, List.set_cons_succ, sSetFld, eBin, opBin, opFdiv]
  refine ⟨by unfold DivOk; omega, ?_⟩
  simp only [eVar, List.set_cons_zero, List.set_cons_succ, List.getElem?_cons_zero, List.getElem?_cons_succ]
  rw [hi]
  refine ⟨rfl, by decide, ?_⟩
  simp only [sSetFld, eBin, eVar, List.getElem?_cons_zero, List.getElem?_cons_succ, opBin, opFdiv, List.set_cons_zero, List.set_cons_succ]
  refine ⟨by unfold DivOk; omega, ?_⟩
  try simp only [eVar, List.set_cons_zero, List.set_cons_succ, List.getElem?_cons_zero, List.getElem?_cons_succ]
  rw [set_self hi]
  refine ⟨rfl, by decide, ?_⟩
  rw [List.set_set]
  exact hk
theorem new_k {cs : CS} (I : SpInit cs) {n : Nat} {t b : Int} {st : Store} {k x : KV} (hb : 1 ≤ b) (h1 : t.natAbs < 2 ^ n) (h2 : b.natAbs < 2 ^ n) (hk : ∀ p q, ShOf n p q t b → k (shv p q) (st ++ [.dead])) :
    cs 28 [.ref st.length, .int t, .int b] (st ++ [.ins 0 [] []]) (fun v st' => isNon v = true ∧ match st'[st.length]? with
      | some (.ins c' ks vs) => k (.obj c' ks vs) (st'.set st.length .dead)
      | _ => False) x := by
  refine I t b _ _ _ _ (by simp) hb ⟨rfl, ?_⟩
  have e : ∀ o o' : SO, (st ++ [o]).set st.length o' = st ++ [o'] := fun o o' => by simp
  have e2 : ∀ o : SO, (st ++ [o])[st.length]? = some o := fun o => by simp
  rw [e, e2]
  show k _ _
  rw [e]
  exact hk _ _ (ShOf.of hb h1 h2)
theorem new_e {cs : CS} (I : SpInit cs) {n : Nat} {t b : Int} {T : TA} {ρ : Env} {st : Store} {k x : KV} (hT : ∀ (k : List PV → Store → Prop), k [.int t, .int b] st → T ρ st k x) (hb : 1 ≤ b) (h1 : t.natAbs < 2 ^ n) (h2 : b.natAbs < 2 ^ n) (hk : ∀ p q, ShOf n p q t b → k (shv p q) (st ++ [.dead])) : eNew cs 0 28 T ρ st k x := hT _ (new_k I hb h1 h2 hk)
structure CsS (cs : CS) : Prop where
  wh : SpWh cs
  ini : SpInit cs
/-- an operator on two shares -/
def SpSS (f : Nat) (F : Int → Int → Int → Int → Int) (cs : CS) : Prop := ∀ (n : Nat) (p q a b p' q' c d : Int) (st : Store) (k x : KV), n ≤ 1000 → ShOf n p q a b → ShOf n p' q' c d → (∀ r s, ShOf (n + n + 1) r s (F a b c d) (b * d) → k (shv r s) (st ++ [.dead])) → cs f [shv p q, shv p' q'] st k x
/-- an operator on a share and a whole number -/
def SpSI (f : Nat) (F : Int → Int → Int → Int) (cs : CS) : Prop := ∀ (n : Nat) (p q a b i : Int) (st : Store) (k x : KV), n ≤ 1000 → ShOf n p q a b → i.natAbs < 2 ^ n → (∀ r s, ShOf (n + n + 1) r s (F a b i) b → k (shv r s) (st ++ [.dead])) → cs f [shv p q, .int i] st k x
theorem fld85 {cs : CS} {p q : Int} {st : Store} {k x : KV} (h : k (.int p) st) : fldRun cs [] [0] 85 (shv p q) st k x := ⟨rfl, h⟩
theorem fld69 {cs : CS} {p q : Int} {st : Store} {k x : KV} (h : k (.int q) st) : fldRun cs [] [0] 69 (shv p q) st k x := ⟨rfl, h⟩
theorem fld85e {cs : CS} {p q : Int} : fldRun cs [] [0] 85 (shv p q) = fun st k x => (true = true) ∧ k (.int p) st := rfl
theorem fld69e {cs : CS} {p q : Int} : fldRun cs [] [0] 69 (shv p q) = fun st k x => (true = true) ∧ k (.int q) st := rfl
theorem isi_sh {p q : Int} {st : Store} {k : KV} (h : k (.bl true) st) : fIsiO [0] [0] (shv p q) st k := ⟨rfl, h⟩
theorem isi_int {i : Int} {st : Store} {k : KV} (h : k (.bl false) st) : fIsiO [0] [0] (.int i) st k := ⟨by simp [kdOf], h⟩
theorem pos_mul {a b : Int} (ha : 1 ≤ a) (hb : 1 ≤ b) : 1 ≤ a * b := by
  have := Int.mul_le_mul ha hb (by decide) (by omega)
  omega
end VP
end
section
namespace VP
open VM
theorem add_at {FT : Nat → Option FD} {d : Nat} (hF : FT 29 = some ⟨2, 3, T_Share___add__⟩) (h : At FT d CsS) : At FT (d + 1) (fun cs => SpSS 29 (fun a b c d => a * d + c * b) cs ∧ SpSI 29 (fun a b i => a + i * b) cs) := at_of hF h fun cs cs' C go => by
  constructor
  · intro n p q a b p' q' c d st k x hn h h' hk
    refine go _ _ _ _ rfl ?_
    have q1 := h.q1
    have q2 := h'.q1
    simp only [T_Share___add__, sCons, sIf, tOf, eB1, eVar, List.map_cons, List.map_nil, List.replicate_succ, List.replicate_zero, List.cons_append, List.nil_append, Nat.reduceSub, List.getElem?_cons_zero, List.getElem?_cons_succ]
    refine isi_sh ?_
    simp only [truth, if_true, sSet, eBin, eFld, eVar, fld85e, fld69e, List.getElem?_cons_zero, List.getElem?_cons_succ, opBin, opMul, opAdd, opSub, gName, List.set_cons_zero, List.set_cons_succ, true_and, sRet]
    refine ⟨mo h.sp h'.sq (by omega), mo h'.sp h.sq (by omega), ?_⟩
    refine new_e (t := p * q' + p' * q) (b := q * q') C.ini (fun k hk => ?_) (pos_mul q1 q2) (sz_add (sz_mul h.sp h'.sq) (sz_mul h'.sp h.sq)) (sz_mono (sz_mul h.sq h'.sq) (by omega)) fun r s hr => hk r s (hr.to (pos_mul h.b1 h'.b1) ?_)
    · simp only [aDfl, aCons, aNil, eBin, eFld, eVar, fld85e, fld69e, List.getElem?_cons_zero, List.getElem?_cons_succ, opBin, opMul, opAdd, opSub, true_and, List.append_nil]
      exact ⟨mo h.sq h'.sq (by omega), hk⟩
    · have h1 := h.cr
      have h2 := h'.cr
      grind
  · intro n p q a b i st k x hn h hi hk
    refine go _ _ _ _ rfl ?_
    have q1 := h.q1
    simp only [T_Share___add__, sCons, sIf, tOf, eB1, eCall, aCons, aNil, eVar, List.map_cons, List.map_nil, List.replicate_succ, List.replicate_zero, List.cons_append, List.nil_append, Nat.reduceSub, List.getElem?_cons_zero, List.getElem?_cons_succ]
    refine isi_int ?_
    simp only [truth, Bool.false_eq_true, if_false, sNil, sCons, sIf, tOf, eCall, aCons, aNil, eVar, List.getElem?_cons_zero, List.getElem?_cons_succ]
    refine C.wh _ _ _ _ rfl ?_
    simp only [isI, truth, if_true, sRet]
    refine new_e (t := p + i * q) (b := q) C.ini (fun k hk => ?_) q1 (sz_add (sz_mono h.sp (by omega)) (sz_mul hi h.sq)) (sz_mono h.sq (by omega)) fun r s hr => hk r s (hr.to h.b1 ?_)
    · simp only [aDfl, aCons, aNil, eBin, eFld, eVar, fld85e, fld69e, List.getElem?_cons_zero, List.getElem?_cons_succ, opBin, opMul, opAdd, opSub, true_and, List.append_nil]
      exact ⟨mo hi h.sq (by omega), hk⟩
    · have h1 := h.cr
      grind
theorem sub_at {FT : Nat → Option FD} {d : Nat} (hF : FT 34 = some ⟨2, 3, T_Share___sub__⟩) (h : At FT d CsS) : At FT (d + 1) (fun cs => SpSS 34 (fun a b c d => a * d - c * b) cs ∧ SpSI 34 (fun a b i => a - i * b) cs) := at_of hF h fun cs cs' C go => by
  constructor
  · intro n p q a b p' q' c d st k x hn h h' hk
    refine go _ _ _ _ rfl ?_
    have q1 := h.q1
    have q2 := h'.q1
    simp only [T_Share___sub__, sCons, sIf, tOf, eB1, eVar, List.map_cons, List.map_nil, List.replicate_succ, List.replicate_zero, List.cons_append, List.nil_append, Nat.reduceSub, List.getElem?_cons_zero, List.getElem?_cons_succ]
    refine isi_sh ?_
    simp only [truth, if_true, sSet, eBin, eFld, eVar, fld85e, fld69e, List.getElem?_cons_zero, List.getElem?_cons_succ, opBin, opMul, opAdd, opSub, gName, List.set_cons_zero, List.set_cons_succ, true_and, sRet]
    refine ⟨mo h.sp h'.sq (by omega), mo h'.sp h.sq (by omega), ?_⟩
    refine new_e (t := p * q' - p' * q) (b := q * q') C.ini (fun k hk => ?_) (pos_mul q1 q2) (sz_sub (sz_mul h.sp h'.sq) (sz_mul h'.sp h.sq)) (sz_mono (sz_mul h.sq h'.sq) (by omega)) fun r s hr => hk r s (hr.to (pos_mul h.b1 h'.b1) ?_)
    · simp only [aDfl, aCons, aNil, eBin, eFld, eVar, fld85e, fld69e, List.getElem?_cons_zero, List.getElem?_cons_succ, opBin, opMul, opAdd, opSub, true_and, List.append_nil]
      exact ⟨mo h.sq h'.sq (by omega), hk⟩
    · have h1 := h.cr
      have h2 := h'.cr
      grind
  · intro n p q a b i st k x hn h hi hk
    refine go _ _ _ _ rfl ?_
    have q1 := h.q1
    simp only [T_Share___sub__, sCons, sIf, tOf, eB1, eCall, aCons, aNil, eVar, List.map_cons, List.map_nil, List.replicate_succ, List.replicate_zero, List.cons_append, List.nil_append, Nat.reduceSub, List.getElem?_cons_zero, List.getElem?_cons_succ]
    refine isi_int ?_
    simp only [truth, Bool.false_eq_true, if_false, sNil, sCons, sIf, tOf, eCall, aCons, aNil, eVar, List.getElem?_cons_zero, List.getElem?_cons_succ]
    refine C.wh _ _ _ _ rfl ?_
    simp only [isI, truth, if_true, sRet]
    refine new_e (t := p - i * q) (b := q) C.ini (fun k hk => ?_) q1 (sz_sub (sz_mono h.sp (by omega)) (sz_mul hi h.sq)) (sz_mono h.sq (by omega)) fun r s hr => hk r s (hr.to h.b1 ?_)
    · simp only [aDfl, aCons, aNil, eBin, eFld, eVar, fld85e, fld69e, List.getElem?_cons_zero, List.getElem?_cons_succ, opBin, opMul, opAdd, opSub, true_and, List.append_nil]
      exact ⟨mo hi h.sq (by omega), hk⟩
    · have h1 := h.cr
      grind
theorem radd_at {FT : Nat → Option FD} {d : Nat} (hF : FT 30 = some ⟨2, 2, T_Share___radd__⟩) (h : At FT d CsS) : At FT (d + 1) (SpSI 30 (fun a b i => a + i * b)) := at_of hF h fun cs cs' C go => by
  intro n p q a b i st k x hn h hi hk
  refine go _ _ _ _ rfl ?_
  have q1 := h.q1
  simp only [T_Share___radd__, sCons, sIf, tOf, eB1, eCall, aCons, aNil, eVar, List.map_cons, List.map_nil, List.replicate_succ, List.replicate_zero, List.cons_append, List.nil_append, Nat.reduceSub, List.getElem?_cons_zero, List.getElem?_cons_succ]
  refine C.wh _ _ _ _ rfl ?_
  simp only [isI, truth, if_true, sRet]
  refine new_e (t := p + i * q) (b := q) C.ini (fun k hk => ?_) q1 (sz_add (sz_mono h.sp (by omega)) (sz_mul hi h.sq)) (sz_mono h.sq (by omega)) fun r s hr => hk r s (hr.to h.b1 ?_)
  · simp only [aDfl, aCons, aNil, eBin, eFld, eVar, fld85e, fld69e, List.getElem?_cons_zero, List.getElem?_cons_succ, opBin, opMul, opAdd, opSub, true_and, List.append_nil]
    exact ⟨mo hi h.sq (by omega), hk⟩
  · have h1 := h.cr
    grind
theorem rsub_at {FT : Nat → Option FD} {d : Nat} (hF : FT 35 = some ⟨2, 2, T_Share___rsub__⟩) (h : At FT d CsS) : At FT (d + 1) (SpSI 35 (fun a b i => i * b - a)) := at_of hF h fun cs cs' C go => by
  intro n p q a b i st k x hn h hi hk
  refine go _ _ _ _ rfl ?_
  have q1 := h.q1
  simp only [T_Share___rsub__, sCons, sIf, tOf, eB1, eCall, aCons, aNil, eVar, List.map_cons, List.map_nil, List.replicate_succ, List.replicate_zero, List.cons_append, List.nil_append, Nat.reduceSub, List.getElem?_cons_zero, List.getElem?_cons_succ]
  refine C.wh _ _ _ _ rfl ?_
  simp only [isI, truth, if_true, sRet]
  refine new_e (t := i * q - p) (b := q) C.ini (fun k hk => ?_) q1 (sz_sub (sz_mul hi h.sq) (sz_mono h.sp (by omega))) (sz_mono h.sq (by omega)) fun r s hr => hk r s (hr.to h.b1 ?_)
  · simp only [aDfl, aCons, aNil, eBin, eFld, eVar, fld85e, fld69e, List.getElem?_cons_zero, List.getElem?_cons_succ, opBin, opMul, opAdd, opSub, true_and, List.append_nil]
    exact ⟨mo hi h.sq (by omega), hk⟩
  · have h1 := h.cr
    grind
theorem rmul_at {FT : Nat → Option FD} {d : Nat} (hF : FT 37 = some ⟨2, 2, T_Share___rmul__⟩) (h : At FT d CsS) : At FT (d + 1) (SpSI 37 (fun a b i => a * i)) := at_of hF h fun cs cs' C go => by
  intro n p q a b i st k x hn h hi hk
  refine go _ _ _ _ rfl ?_
  have q1 := h.q1
  simp only [T_Share___rmul__, sCons, sIf, tOf, eB1, eCall, aCons, aNil, eVar, List.map_cons, List.map_nil, List.replicate_succ, List.replicate_zero, List.cons_append, List.nil_append, Nat.reduceSub, List.getElem?_cons_zero, List.getElem?_cons_succ]
  refine C.wh _ _ _ _ rfl ?_
  simp only [isI, truth, if_true, sRet]
  refine new_e (t := p * i) (b := q) C.ini (fun k hk => ?_) q1 (sz_mono (sz_mul h.sp hi) (by omega)) (sz_mono h.sq (by omega)) fun r s hr => hk r s (hr.to h.b1 ?_)
  · simp only [aDfl, aCons, aNil, eBin, eFld, eVar, fld85e, fld69e, List.getElem?_cons_zero, List.getElem?_cons_succ, opBin, opMul, opAdd, opSub, true_and, List.append_nil]
    exact ⟨mo h.sp hi (by omega), hk⟩
  · have h1 := h.cr
    grind
theorem mul_at {FT : Nat → Option FD} {d : Nat} (hF : FT 36 = some ⟨2, 2, T_Share___mul__⟩) (h : At FT d CsS) : At FT (d + 1) (fun cs => SpSS 36 (fun a b c d => a * c) cs ∧ SpSI 36 (fun a b i => a * i) cs) := at_of hF h fun cs cs' C go => by
  constructor
  · intro n p q a b p' q' c d st k x hn h h' hk
    refine go _ _ _ _ rfl ?_
    have q1 := h.q1
    have q2 := h'.q1
    simp only [T_Share___mul__, sCons, sIf, tOf, eB1, eVar, List.map_cons, List.map_nil, List.replicate_succ, List.replicate_zero, List.cons_append, List.nil_append, Nat.reduceSub, List.getElem?_cons_zero, List.getElem?_cons_succ]
    refine isi_sh ?_
    simp only [truth, if_true, sRet]
    refine new_e (t := p * p') (b := q * q') C.ini (fun k hk => ?_) (pos_mul q1 q2) (sz_mono (sz_mul h.sp h'.sp) (by omega)) (sz_mono (sz_mul h.sq h'.sq) (by omega)) fun r s hr => hk r s (hr.to (pos_mul h.b1 h'.b1) ?_)
    · simp only [aDfl, aCons, aNil, eBin, eFld, eVar, fld85e, fld69e, List.getElem?_cons_zero, List.getElem?_cons_succ, opBin, opMul, opAdd, opSub, true_and, List.append_nil]
      exact ⟨mo h.sp h'.sp (by omega), mo h.sq h'.sq (by omega), hk⟩
    · have h1 := h.cr
      have h2 := h'.cr
      have e1 : p * p' * (b * d) = (p * b) * (p' * d) := by grind
      rw [e1, h1, h2]
      grind
  · intro n p q a b i st k x hn h hi hk
    refine go _ _ _ _ rfl ?_
    have q1 := h.q1
    simp only [T_Share___mul__, sCons, sIf, tOf, eB1, eCall, aCons, aNil, eVar, List.map_cons, List.map_nil, List.replicate_succ, List.replicate_zero, List.cons_append, List.nil_append, Nat.reduceSub, List.getElem?_cons_zero, List.getElem?_cons_succ]
    refine isi_int ?_
    simp only [truth, Bool.false_eq_true, if_false, sNil, sCons, sIf, tOf, eCall, aCons, aNil, eVar, List.getElem?_cons_zero, List.getElem?_cons_succ]
    refine C.wh _ _ _ _ rfl ?_
    simp only [isI, truth, if_true, sRet]
    refine new_e (t := p * i) (b := q) C.ini (fun k hk => ?_) q1 (sz_mono (sz_mul h.sp hi) (by omega)) (sz_mono h.sq (by omega)) fun r s hr => hk r s (hr.to h.b1 ?_)
    · simp only [aDfl, aCons, aNil, eBin, eFld, eVar, fld85e, fld69e, List.getElem?_cons_zero, List.getElem?_cons_succ, opBin, opMul, opAdd, opSub, true_and, List.append_nil]
      exact ⟨mo h.sp hi (by omega), hk⟩
    · have h1 := h.cr
      grind
def SpNeg (cs : CS) : Prop := ∀ (n : Nat) (p q a b : Int) (st : Store) (k x : KV), n ≤ 1000 → ShOf n p q a b → (∀ r s, ShOf n r s (-a) b → k (shv r s) (st ++ [.dead])) → cs 38 [shv p q] st k x
theorem neg_at {FT : Nat → Option FD} {d : Nat} (hF : FT 38 = some ⟨1, 1, T_Share___neg__⟩) (h : At FT d CsS) : At FT (d + 1) SpNeg := at_of hF h fun cs cs' C go => by
  intro n p q a b st k x hn h hk
  refine go _ _ _ _ rfl ?_
  simp only [T_Share___neg__, sRet]
  refine new_e (t := -p) (b := q) C.ini (fun k hk => ?_) h.q1 (sz_neg h.sp) h.sq fun r s hr => hk r s (hr.to h.b1 ?_)
  · simp only [aDfl, aCons, aNil, eNeg, eFld, eVar, fld85e, fld69e, true_and, List.append_nil, List.map_cons, List.map_nil, List.replicate_succ, List.replicate_zero, List.cons_append, List.nil_append, Nat.reduceSub, List.getElem?_cons_zero, List.getElem?_cons_succ]
    exact hk
  · have h1 := h.cr
    grind
structure SpEq (cs : CS) : Prop where
  ss : ∀ (n m : Nat) (p q a b p' q' c d : Int) (st : Store) (k x : KV), ShOf n p q a b → ShOf m p' q' c d → k (.bl (decide (a * d = c * b))) st → cs 39 [shv p q, shv p' q'] st k x
  si : ∀ (n : Nat) (p q a b i : Int) (st : Store) (k x : KV), ShOf n p q a b → k (.bl (decide (a = i * b))) st → cs 39 [shv p q, .int i] st k x
  so : ∀ (p q : Int) (v : PV) (st : Store) (k x : KV), isFlat v = true → isI v = false → k (.bl false) st → cs 39 [shv p q, v] st k x
theorem eq_int {i j : Int} {st : Store} {k : Bool → Store → Prop} : opEq (.int i) (.int j) st k = (true = true ∧ true = true ∧ k (i == j) st) := rfl
theorem eq_at {FT : Nat → Option FD} {d : Nat} (hF : FT 39 = some ⟨2, 2, T_Share___eq__⟩) (h : At FT d CsS) : At FT (d + 1) SpEq := at_of hF h fun cs cs' C go => by
  refine ⟨?_, ?_, ?_⟩
  · intro n m p q a b p' q' c d st k x h h' hk
    refine go _ _ _ _ rfl ?_
    simp only [T_Share___eq__, sCons, sIf, tOf, eB1, eVar, List.map_cons, List.map_nil, List.replicate_succ, List.replicate_zero, List.cons_append, List.nil_append, Nat.reduceSub, List.getElem?_cons_zero, List.getElem?_cons_succ]
    refine isi_sh ?_
    simp only [truth, if_true, sRet, eAnd, eCmp, eFld, eVar, fld85e, fld69e, true_and, List.getElem?_cons_zero, List.getElem?_cons_succ, opCm, eq_int]
    have e := h.eq_iff h'
    by_cases hp : p = p'
    · simp only [hp, beq_self_eq_true]
      have : (q == q') = decide (a * d = c * b) := by
        rw [Bool.eq_iff_iff, beq_iff_eq, decide_eq_true_iff, ← e]
        exact ⟨fun z => ⟨hp, z⟩, fun z => z.2⟩
      rw [this]
      exact hk
    · have e0 : (p == p') = false := by simpa using hp
      simp only [e0]
      have : decide (a * d = c * b) = false := by
        rw [decide_eq_false_iff_not, ← e]
        exact fun z => hp z.1
      rw [this] at hk
      exact hk
  · intro n p q a b i st k x h hk
    refine go _ _ _ _ rfl ?_
    simp only [T_Share___eq__, sCons, sIf, tOf, eB1, eVar, List.map_cons, List.map_nil, List.replicate_succ, List.replicate_zero, List.cons_append, List.nil_append, Nat.reduceSub, List.getElem?_cons_zero, List.getElem?_cons_succ]
    refine isi_int ?_
    simp only [truth, Bool.false_eq_true, if_false, sNil, sRet, eAnd, eCall, aCons, aNil, eVar, List.getElem?_cons_zero, List.getElem?_cons_succ]
    refine C.wh _ _ _ _ rfl ?_
    simp only [isI, truth, if_true, eAnd, eCmp, eFld, eVar, eC, fld85e, fld69e, true_and, List.getElem?_cons_zero, List.getElem?_cons_succ, opCm, eq_int]
    have e := h.int (i := i)
    by_cases hq : q = 1
    · simp only [hq, beq_self_eq_true]
      have : (p == i) = decide (a = i * b) := by
        rw [Bool.eq_iff_iff, beq_iff_eq, decide_eq_true_iff, ← e]
        exact ⟨fun z => ⟨hq, z⟩, fun z => z.2⟩
      rw [this]
      exact hk
    · have e0 : (q == 1) = false := by simpa using hq
      simp only [e0]
      have : decide (a = i * b) = false := by
        rw [decide_eq_false_iff_not, ← e]
        exact fun z => hq z.1
      rw [this] at hk
      exact hk
  · intro p q v st k x hv hi hk
    refine go _ _ _ _ rfl ?_
    simp only [T_Share___eq__, sCons, sIf, tOf, eB1, eVar, List.map_cons, List.map_nil, List.replicate_succ, List.replicate_zero, List.cons_append, List.nil_append, Nat.reduceSub, List.getElem?_cons_zero, List.getElem?_cons_succ]
    have is : ∀ k : KV, k (.bl false) st → fIsiO [0] [0] v st k := fun k hk => by
      cases v <;> first | (cases hv; done) | exact ⟨by simp [kdOf], hk⟩
    refine is _ ?_
    simp only [truth, Bool.false_eq_true, if_false, sNil, sRet, eAnd, eCall, aCons, aNil, eVar, List.getElem?_cons_zero, List.getElem?_cons_succ]
    refine C.wh _ _ _ _ hv ?_
    simp only [hi, truth]
    exact hk
def SpTop (cs : CS) : Prop := ∀ (p q : Int) (st : Store) (k x : KV), k (.int p) st → cs 32 [shv p q] st k x
def SpBot (cs : CS) : Prop := ∀ (p q : Int) (st : Store) (k x : KV), k (.int q) st → cs 31 [shv p q] st k x
theorem top_at {FT : Nat → Option FD} (hF : FT 32 = some ⟨1, 1, T_Share_top⟩) : At FT 1 SpTop := at_of (C := fun _ => True) hF (fun _ _ => trivial) fun cs cs' _ go => by
  intro p q st k x hk
  refine go _ _ _ _ rfl ?_
  exact ⟨rfl, hk⟩
theorem bot_at {FT : Nat → Option FD} (hF : FT 31 = some ⟨1, 1, T_Share_bottom⟩) : At FT 1 SpBot := at_of (C := fun _ => True) hF (fun _ _ => trivial) fun cs cs' _ go => by
  intro p q st k x hk
  refine go _ _ _ _ rfl ?_
  exact ⟨rfl, hk⟩
def SpIs (cs : CS) : Prop := ∀ (n : Nat) (r s a b : Int) (st : Store) (k x : KV), n ≤ 10000 → ShOf n r s a b → a.natAbs < 2 ^ 10000 → b.natAbs < 2 ^ 10000 → k (.bl true) st → cs 33 [shv r s, .int a, .int b] st k x
theorem gcd_fmod {a b : Int} (hb : 0 < b) : Int.gcd b (a.fmod b) = Int.gcd a b := by
  rw [Int.fmod_eq_emod_of_nonneg _ (by omega)]
  have := Int.gcd_add_mul_left_right b (a % b) (a / b)
  rw [Int.emod_add_mul_ediv] at this
  rw [← this, Int.gcd_comm]
theorem gcd_zero_abs {a : Int} (h : Int.gcd a 0 = 1) : a.natAbs = 1 := by simpa using h
theorem is_at {FT : Nat → Option FD} (hF : FT 33 = some ⟨3, 5, T__law_is⟩) (h1 : At FT 1 SpTop) (h2 : At FT 1 SpBot) : At FT 2 SpIs := at_of (C := fun cs => SpTop cs ∧ SpBot cs) hF (fun n hn => ⟨h1 n hn, h2 n hn⟩) fun cs cs' C go => by
  obtain ⟨T, B⟩ := C
  have ft : ∀ {r s : Int} {st : Store} {k x : KV}, k (.int r) st → fldRun cs [(0, 32)] [] 113 (shv r s) st k x := fun h => T _ _ _ _ _ h
  have fb : ∀ {r s : Int} {st : Store} {k x : KV}, k (.int s) st → fldRun cs [(0, 31)] [] 17 (shv r s) st k x := fun h => B _ _ _ _ _ h
  intro n r s a b st k x hn h sa sb hk
  refine go _ _ _ _ rfl ?_
  have s1 := h.q1
  have d1 : decide (s < 1) = false := by simpa using s1
  simp only [T__law_is, sCons, sIf, tOr, tNot, tOf, eB1, eVar, List.map_cons, List.map_nil, List.replicate_succ, List.replicate_zero, List.cons_append, List.nil_append, Nat.reduceSub, List.getElem?_cons_zero, List.getElem?_cons_succ]
  refine isi_sh ?_
  simp only [truth, Bool.not_true, Bool.false_eq_true, if_false, tOr, tCmp, eFld, eVar, List.getElem?_cons_zero, List.getElem?_cons_succ]
  refine fb ?_
  simp only [eC, opCm, d1, Bool.false_eq_true, if_false, eBin, eFld, eVar, List.getElem?_cons_zero, List.getElem?_cons_succ]
  refine ft ?_
  simp only [opBin, opMul]
  refine ⟨mo h.sp sb (by omega), fb ?_⟩
  refine ⟨mo sa h.sq (by omega), ?_⟩
  have e0 : (r * b == a * s) = true := by rw [h.cr]; simp
  simp only [eq_int, e0, true_and, Bool.not_true, Bool.false_eq_true, if_false, sNil, sCons, sPar, aCons, aNil, eFld, eVar, List.getElem?_cons_zero, List.getElem?_cons_succ]
  refine ft (fb ?_)
  simp only [List.map_cons, List.map_nil, gEach, gName, List.set_cons_zero, List.set_cons_succ]
  refine while_meas (fun m ρ st' => st' = st ∧ ∃ u v : Int, ρ = [some (shv r s), some (.int a), some (.int b), some (.int u), some (.int v)] ∧ Int.gcd u v = 1 ∧ 0 ≤ v ∧ m = v.natAbs) ?_ s.natAbs _ _ ⟨rfl, r, s, rfl, h.g, by omega, rfl⟩
  rintro m ρ st' ⟨rfl, u, v, rfl, g, v0, rfl⟩ D' e1 e2 e3 nx ct
  simp only [tCmp, eVar, eC, List.getElem?_cons_zero, List.getElem?_cons_succ, opCm, eq_int, true_and]
  by_cases hv : v = 0
  · subst hv
    simp only [beq_self_eq_true, Bool.not_true, Bool.false_eq_true, if_false, sRet, eCmp, eB1, fAbs, eVar, eC, List.getElem?_cons_zero, List.getElem?_cons_succ, opCm, eq_int, true_and, gcd_zero_abs g]
    exact hk
  · have e0 : (v == 0) = false := by simpa using hv
    have v1 : 0 < v := by omega
    simp only [e0, Bool.not_false, if_true, sPar, aCons, aNil, eBin, eB1, fInt, eVar, List.getElem?_cons_zero, List.getElem?_cons_succ, opBin, opMod, List.map_cons, List.map_nil, gEach, gName, List.set_cons_zero, List.set_cons_succ]
    refine ⟨hv, nx (u.fmod v).natAbs _ _ ?_ ⟨rfl, v, u.fmod v, rfl, by rw [gcd_fmod v1]; exact g, Int.fmod_nonneg_of_pos _ v1, rfl⟩⟩
    have := Int.fmod_nonneg_of_pos u v1
    have := Int.fmod_lt_of_pos u v1
    omega
def SpNum (cs : CS) : Prop := ∀ (r : Nat) (st : Store), Dr cs 26 [] r 4 st fun v _ => ∃ c : Int, v = .int c ∧ c.natAbs ≤ 1000000000
theorem number_at {FT : Nat → Option FD} {d : Nat} (hF : FT 26 = some ⟨1, 1, T__law_number⟩) (h1 : At FT d SpTake) (h2 : At FT d SpOf) : At FT (d + 1) SpNum := at_of (C := fun cs => SpTake cs ∧ SpOf cs) hF (fun n hn => ⟨h1 n hn, h2 n hn⟩) fun cs cs' C go => by
  obtain ⟨tk, of⟩ := C
  intro r st b k x hb hk
  refine go _ _ _ _ rfl ?_
  simp only [T__law_number, sRet, eCall, eLst, eNeg, eBin, aCons, aNil, eVar, eC, List.map_cons, List.map_nil, List.replicate_succ, List.replicate_zero, List.cons_append, List.nil_append, Nat.reduceSub, List.getElem?_cons_zero, List.getElem?_cons_succ]
  refine tk r 41 (by decide) st (b + 3) _ _ hb fun v st1 hv hb1 k1 => ?_
  obtain ⟨d1, rfl, d10, d11⟩ := hv
  simp only [opBin, opSub, opPow]
  refine ⟨⟨by decide, by decide, by decide⟩, ?_⟩
  refine tk r ((10 : Int) ^ Int.toNat 6) (by decide) st1 (b + 2) _ _ hb1 fun v st2 hv hb2 k2 => ?_
  obtain ⟨d2, rfl, d20, d21⟩ := hv
  refine ⟨⟨by decide, by decide, by decide⟩, ?_⟩
  refine tk r ((10 : Int) ^ Int.toNat 9) (by decide) st2 (b + 1) _ _ hb2 fun v st3 hv hb3 k3 => ?_
  obtain ⟨d3, rfl, d30, d31⟩ := hv
  have e6 : (10 : Int) ^ Int.toNat 6 = 1000000 := by decide
  have e9 : (10 : Int) ^ Int.toNat 9 = 1000000000 := by decide
  rw [e6] at d21
  rw [e9] at d31
  refine ⟨by show 8 ≤ 16777216; decide, ?_⟩
  refine of r (.lst _) _ st3 rfl (by simp) (by simp) (fun _ e => by cases e) b _ _ hb3 fun v st4 hv hb4 k4 => ?_
  refine hk _ _ ?_ hb4 (((k1.trans k2).trans k3).trans k4)
  simp only [List.mem_cons, List.not_mem_nil, or_false] at hv
  rcases hv with h | h | h | h | h | h | h | h <;> exact ⟨_, h, by omega⟩
end VP
end
section
namespace VP
open VM
def LET : List Nat := [97, 98, 99, 100, 101, 102, 103, 104, 105, 106, 107, 108, 109, 110, 111, 112, 113, 114, 115, 116, 117, 118, 119, 120, 121, 122]
def nmS (s : List Nat) : Bool := decide (1 ≤ s.length) && decide (s.length ≤ 6) && s.all fun c => decide (c ∈ LET)
def nmB : PV → Bool
  | .str s => nmS s
  | _ => false
def SpNm (f : Nat) (cs : CS) : Prop := ∀ (n : Nat) (v : PV) (st : Store) (k x : KV), Sm n v → k (.bl (nmB v)) st → cs f [v] st k x
theorem allBl_map {α : Type} (g : α → Bool) : ∀ xs : List α, allBl (xs.map fun x => PV.bl (g x)) = some (xs.map g)
  | [] => rfl
  | x :: xs => by
    rw [List.map_cons]
    unfold allBl
    rw [allBl_map g xs]
    rfl
theorem all_id {α : Type} (g : α → Bool) (xs : List α) : (xs.map g).all id = xs.all g := by
  rw [List.all_map]
  rfl
theorem all_fin {α : Type} (g : α → Bool) (xs : List α) {st : Store} {k : KV} (h : k (.bl (xs.all g)) st) : fAll (.lst (xs.map fun x => PV.bl (g x))) st k := by
  unfold fAll
  simp only [asL, allBl_map, all_id]
  exact h
abbrev nmT (cs : CS) : TS := sCons (sIf (tOr (tNot (tOf (eB1 (fIsi [.str]) (eVar 0)))) (tNot (tChain .le .le (eC (.int 1)) (eB1 fLen (eVar 0)) (eC (.int 6)))))
    (sRet (eC (.bl false))) sNil)
    (sRet (eB1 fAll (eComp (iE (eVar 0)) (gName 1) tYes (eCmp .isin (eVar 1) (eC (.str [97, 98, 99, 100, 101, 102, 103, 104, 105, 106, 107, 108, 109, 110, 111, 112, 113, 114, 115, 116, 117, 118, 119, 120, 121, 122]))) [1])))
theorem isi_sm {n : Nat} {v : PV} {ts : List Ty} {st : Store} {k : KV} (h : Sm n v) (hk : k (.bl (ts.any (kdIs (kdOf st v)))) st) : fIsi ts v st k := by
  refine ⟨?_, hk⟩
  cases n <;> cases v <;> first | (exact h.elim) | (intro e; cases e)
theorem nm_body {cs : CS} {n : Nat} {v : PV} {st : Store} {k x : KV} (hv : Sm n v) (hk : k (.bl (nmB v)) st) : nmT cs (D0 k x) [some v, none] st := by
  simp only [nmT, sCons, sIf, tOr, tNot, tOf, eB1, eVar, List.getElem?_cons_zero, List.getElem?_cons_succ]
  refine isi_sm hv ?_
  by_cases hs : ∃ s, v = .str s
  · obtain ⟨s, rfl⟩ := hs
    have nm : nmB (.str s) = nmS s := rfl
    rw [nm] at hk
    unfold nmS at hk
    simp only [kdOf, kdIs, List.any_cons, List.any_nil, Bool.or_false, truth, Bool.not_true, Bool.false_eq_true, if_false, tNot, tChain, eC, eB1, fLen, bLen, eVar, List.getElem?_cons_zero, opCm]
    by_cases h1 : 1 ≤ s.length
    · have e1 : decide ((1 : Int) ≤ (s.length : Int)) = true := by simp; omega
      rw [e1]
      simp only [if_true]
      by_cases h2 : s.length ≤ 6
      · have e2 : decide ((s.length : Int) ≤ 6) = true := by simp; omega
        rw [e2]
        simp only [Bool.not_true, Bool.false_eq_true, if_false, sNil, sRet, eB1, eComp, iE, eVar, List.getElem?_cons_zero, items, isSeq, signs]
        simp only [decide_eq_true h1, decide_eq_true h2, Bool.true_and] at hk
        refine ⟨trivial, comp_of (fun c => .str [c]) (fun c => some (.bl (decide (c ∈ LET)))) trivial s (fun c hc k' hk' => ?_) (by show _ ≤ 16777216; omega) ?_⟩
        · simp only [turn, gName, tYes, wipe, List.set_cons_zero, List.set_cons_succ, if_true, eCmp, eVar, eC, List.getElem?_cons_zero, List.getElem?_cons_succ, opCm, opIn]
          exact hk'
        · rw [show (fun c : Nat => some (PV.bl (decide (c ∈ LET)))) = some ∘ (fun c => PV.bl (decide (c ∈ LET))) from rfl, List.filterMap_eq_map]
          exact all_fin (fun c => decide (c ∈ LET)) s hk
      · have e2 : decide ((s.length : Int) ≤ 6) = false := by simp; omega
        rw [e2]
        simp only [Bool.not_false, if_true, sRet, eC]
        simp only [decide_eq_true h1, decide_eq_false h2, Bool.and_false, Bool.false_and] at hk
        exact hk
    · have e1 : decide ((1 : Int) ≤ (s.length : Int)) = false := by simp; omega
      rw [e1]
      simp only [Bool.false_eq_true, if_false, Bool.not_false, if_true, sRet, eC]
      simp only [decide_eq_false h1, Bool.false_and] at hk
      exact hk
  · have e0 : ([Ty.str].any (kdIs (kdOf st v))) = false := by
      cases n <;> cases v <;> first | (exact hv.elim) | rfl | (exact (hs ⟨_, rfl⟩).elim)
    have e1 : nmB v = false := by
      cases v <;> first | rfl | (exact (hs ⟨_, rfl⟩).elim)
    rw [e0]
    rw [e1] at hk
    simp only [truth, Bool.not_false, if_true, sRet, eC]
    exact hk
theorem name_at {FT : Nat → Option FD} (hF : FT 41 = some ⟨1, 2, T_is_name⟩) : At FT 1 (SpNm 41) := at_of (C := fun _ => True) hF (fun _ _ => trivial) fun cs cs' _ go => by
  intro n v st k x hv hk
  exact go _ _ _ _ rfl (nm_body (cs := cs) hv hk)
theorem right_at {FT : Nat → Option FD} (hF : FT 42 = some ⟨1, 2, T__law_right_name⟩) : At FT 1 (SpNm 42) := at_of (C := fun _ => True) hF (fun _ _ => trivial) fun cs cs' _ go => by
  intro n v st k x hv hk
  exact go _ _ _ _ rfl (nm_body (cs := cs) hv hk)
def inB (v : PV) (a b : Int) : Bool := match v with
  | .int i => decide (a ≤ i) && decide (i ≤ b)
  | _ => false
def SpIn (cs : CS) : Prop := ∀ (n : Nat) (v : PV) (a b : Int) (st : Store) (k x : KV), Sm n v → k (.bl (inB v a b)) st → cs 45 [v, .int a, .int b] st k x
theorem in_at {FT : Nat → Option FD} (hF : FT 45 = some ⟨3, 3, T_is_integer⟩) : At FT 1 SpIn := at_of (C := fun _ => True) hF (fun _ _ => trivial) fun cs cs' _ go => by
  intro n v a b st k x hv hk
  refine go _ _ _ _ rfl ?_
  simp only [T_is_integer, sRet, eAnd, eNot, eB1, eChain, eVar, List.map_cons, List.map_nil, List.replicate_zero, List.append_nil, List.getElem?_cons_zero, List.getElem?_cons_succ, Nat.reduceSub]
  refine isi_sm hv ?_
  by_cases hi : ∃ i, v = .int i
  · obtain ⟨i, rfl⟩ := hi
    simp only [kdOf, kdIs, List.any_cons, List.any_nil, Bool.or_false, truth]
    refine isi_sm hv ?_
    simp only [kdOf, kdIs, List.any_cons, List.any_nil, Bool.or_false, truth, Bool.not_false, opCm]
    simp only [inB] at hk
    by_cases h1 : a ≤ i
    · simp only [decide_eq_true h1, if_true, Bool.true_and] at hk ⊢
      exact hk
    · simp only [decide_eq_false h1, Bool.false_eq_true, if_false, Bool.false_and] at hk ⊢
      exact hk
  · have e1 : inB v a b = false := by
      cases v <;> first | rfl | (exact (hi ⟨_, rfl⟩).elim)
    rw [e1] at hk
    by_cases hb : ∃ i, v = .bl i
    · obtain ⟨i, rfl⟩ := hb
      simp only [kdOf, kdIs, List.any_cons, List.any_nil, Bool.or_false, truth]
      refine isi_sm hv ?_
      simp only [kdOf, kdIs, List.any_cons, List.any_nil, Bool.or_false, truth, Bool.not_true]
      exact hk
    · have e0 : ([Ty.int].any (kdIs (kdOf st v))) = false := by
        cases n <;> cases v <;> first | (exact hv.elim) | rfl | (exact (hi ⟨_, rfl⟩).elim) | (exact (hb ⟨_, rfl⟩).elim)
      rw [e0]
      simp only [truth]
      exact hk
end VP
end
section
namespace VP
open VM
def tmB : PV → Bool
  | .tup xs => match xs with | [a, b] => nmB a && inB b (-1000) 1000 | _ => false
  | _ => false
theorem sm_tup {n : Nat} {xs : List PV} (h : Sm n (.tup xs)) : xs.length ≤ SZ ∧ ∃ m, n = m + 1 ∧ ∀ x ∈ xs, Sm m x := by
  cases n with
  | zero => exact h.elim
  | succ n => exact ⟨h.1, n, rfl, h.2⟩
theorem not_tup {n : Nat} {v : PV} (h : Sm n v) (hn : ¬ ∃ xs, v = .tup xs) (st : Store) : ([Ty.tuple].any (kdIs (kdOf st v))) = false := by
  cases n <;> cases v <;> first | (exact h.elim) | rfl | (exact (hn ⟨_, rfl⟩).elim)
theorem len_ne {n : Nat} {m : Int} {st : Store} {k : Bool → Store → Prop} : opCm .ne (.int n) (.int m) st k = (true = true ∧ true = true ∧ k (!((n : Int) == m)) st) := rfl
theorem ix_tup {xs : List PV} {i : Nat} {x : PV} {st : Store} {k : KV} (h : xs[i]? = some x) (hk : k x st) : getIx (.tup xs) (.int i) st k := by
  have hl : i < xs.length := (List.getElem?_eq_some_iff.mp h).1
  have e : ix xs.length (i : Int) = some i := by
    unfold ix
    rw [if_pos (by omega), if_pos (by omega)]
    rfl
  unfold getIx
  simp only [e, h]
  exact hk
def SpTerm (cs : CS) : Prop := ∀ (n : Nat) (v : PV) (st : Store) (k x : KV), Sm n v → k (.bl (tmB v)) st → cs 47 [v] st k x
theorem term_at {FT : Nat → Option FD} {d : Nat} (hF : FT 47 = some ⟨1, 1, T_is_term⟩) (h1 : At FT d (SpNm 41)) (h2 : At FT d SpIn) : At FT (d + 1) SpTerm := at_of (C := fun cs => SpNm 41 cs ∧ SpIn cs) hF (fun n hn => ⟨h1 n hn, h2 n hn⟩) fun cs cs' C go => by
  obtain ⟨N, I⟩ := C
  intro n v st k x hv hk
  refine go _ _ _ _ rfl ?_
  simp only [T_is_term, sCons, sIf, tOr, tNot, tOf, eB1, eVar, List.map_cons, List.map_nil, List.replicate_zero, List.append_nil, Nat.reduceSub, List.getElem?_cons_zero, List.getElem?_cons_succ]
  refine isi_sm hv ?_
  by_cases ht : ∃ xs, v = .tup xs
  · obtain ⟨xs, rfl⟩ := ht
    obtain ⟨hl, m, rfl, hx⟩ := sm_tup hv
    simp only [kdOf, kdIs, List.any_cons, List.any_nil, Bool.or_false, truth, Bool.not_true, Bool.false_eq_true, if_false, tCmp, eB1, fLen, bLen, eVar, eC, List.getElem?_cons_zero, len_ne, true_and]
    by_cases h2 : xs.length = 2
    · obtain ⟨a, b, rfl⟩ : ∃ a b, xs = [a, b] := by
        match xs, h2 with
        | [a, b], _ => exact ⟨a, b, rfl⟩
      have e0 : (!((([a, b] : List PV).length : Int) == 2)) = false := rfl
      rw [e0]
      simp only [Bool.false_eq_true, if_false, sNil, sRet, eAnd, eCall, aCons, aNil, eIx, eVar, eC, List.getElem?_cons_zero]
      refine ix_tup (i := 0) rfl (N m a _ _ _ (hx a (by simp)) ?_)
      simp only [tmB] at hk
      cases ha : nmB a with
      | false =>
        rw [ha] at hk
        simp only [truth]
        exact hk
      | true =>
        rw [ha] at hk
        simp only [truth, eCall, aCons, aNil, eIx, eNeg, eVar, eC, List.getElem?_cons_zero]
        exact ix_tup (i := 1) rfl (I m b (-1000) 1000 _ _ _ (hx b (by simp)) hk)
    · have e0 : (!((xs.length : Int) == 2)) = true := by
        have : ((xs.length : Int) == 2) = false := by
          rw [beq_eq_false_iff_ne]
          omega
        rw [this]
        rfl
      rw [e0]
      have e1 : tmB (.tup xs) = false := by
        unfold tmB
        match xs, h2 with
        | [], _ => rfl
        | [_], _ => rfl
        | [_, _], h => exact (h rfl).elim
        | _ :: _ :: _ :: _, _ => rfl
      rw [e1] at hk
      simp only [if_true, sRet, eC]
      exact hk
  · rw [not_tup hv ht]
    have e1 : tmB v = false := by
      cases v <;> first | rfl | (exact (ht ⟨_, rfl⟩).elim)
    rw [e1] at hk
    simp only [truth, Bool.not_false, if_true, sRet, eC]
    exact hk
/-- the text of a right term's name -/
def tmN : PV → List Nat
  | .tup (.str s :: _) => s
  | _ => []
def tsB : PV → Bool
  | .tup xs => decide (xs.length ≤ 12) && xs.all tmB && decide (dcnt (xs.map tmN).reverse = xs.length)
  | _ => false
theorem tm_cases {v : PV} (h : tmB v = true) : ∃ s i, v = .tup [.str s, .int i] ∧ nmS s = true ∧ -1000 ≤ i ∧ i ≤ 1000 := by
  cases v <;> simp only [tmB] at h <;> try (cases h; done)
  split at h
  · rename_i a b
    rw [Bool.and_eq_true] at h
    obtain ⟨h1, h2⟩ := h
    cases a <;> simp only [nmB] at h1 <;> try (cases h1; done)
    cases b <;> simp only [inB] at h2 <;> try (cases h2; done)
    rw [Bool.and_eq_true, decide_eq_true_iff, decide_eq_true_iff] at h2
    exact ⟨_, _, rfl, h1, h2.1, h2.2⟩
  · cases h
theorem asStrs_map (ss : List (List Nat)) : asStrs (ss.map PV.str) = some ss := by
  induction ss with
  | nil => rfl
  | cons s ss ih => rw [List.map_cons, asStrs, ih]
def SpTerms (cs : CS) : Prop := ∀ (n : Nat) (v : PV) (st : Store) (k x : KV), Sm n v → k (.bl (tsB v)) st → cs 48 [v] st k x
theorem terms_at {FT : Nat → Option FD} {d : Nat} (hF : FT 48 = some ⟨1, 3, T_is_terms⟩) (h1 : At FT d SpTerm) : At FT (d + 1) SpTerms := at_of hF h1 fun cs cs' C go => by
  intro n v st k x hv hk
  refine go _ _ _ _ rfl ?_
  simp only [T_is_terms, sCons, sIf, tOr, tNot, tOf, eB1, eVar, List.map_cons, List.map_nil, List.replicate_succ, List.replicate_zero, List.cons_append, List.nil_append, Nat.reduceSub, List.getElem?_cons_zero, List.getElem?_cons_succ]
  refine isi_sm hv ?_
  by_cases ht : ∃ xs, v = .tup xs
  · obtain ⟨xs, rfl⟩ := ht
    obtain ⟨hl, m, rfl, hx⟩ := sm_tup hv
    simp only [kdOf, kdIs, List.any_cons, List.any_nil, Bool.or_false, truth, Bool.not_true, Bool.false_eq_true, if_false, tCmp, eB1, fLen, bLen, eVar, eC, List.getElem?_cons_zero, opCm]
    simp only [tsB] at hk
    by_cases h2 : xs.length ≤ 12
    · have e0 : decide ((12 : Int) < (xs.length : Int)) = false := by simp; omega
      rw [e0]
      rw [decide_eq_true h2, Bool.true_and] at hk
      simp only [Bool.false_eq_true, if_false, sNil, sCons, sIf, tNot, tOf, eB1, eComp, iE, eVar, List.getElem?_cons_zero, items, isSeq]
      refine ⟨trivial, comp_map (fun v => .bl (tmB v)) trivial xs (fun y hy k' hk' => ?_) (by show _ ≤ 16777216; omega) ?_⟩
      · simp only [turn, gName, tYes, wipe, List.set_cons_zero, List.set_cons_succ, if_true, eCall, aCons, aNil, eVar, List.getElem?_cons_zero, List.getElem?_cons_succ]
        exact C m y _ _ _ (hx y hy) hk'
      · refine all_fin tmB xs ?_
        cases ha : xs.all tmB with
        | false =>
          rw [ha] at hk
          simp only [truth, Bool.not_false, if_true, sRet, eC]
          exact hk
        | true =>
          rw [ha, Bool.true_and] at hk
          simp only [truth, Bool.not_true, Bool.false_eq_true, if_false, sNil, sCons, sSet, eComp, iE, eVar, List.getElem?_cons_zero, items, isSeq]
          refine ⟨trivial, comp_map (fun v => .str (tmN v)) trivial xs (fun y hy k' hk' => ?_) (by show _ ≤ 16777216; omega) ?_⟩
          · obtain ⟨s, i, rfl, _⟩ := tm_cases (List.all_eq_true.mp ha y hy)
            simp only [turn, gName, tYes, wipe, List.set_cons_zero, List.set_cons_succ, if_true, eIx, eVar, eC, List.getElem?_cons_zero, List.getElem?_cons_succ]
            exact ix_tup (i := 0) rfl hk'
          · have em : xs.map (fun v => PV.str (tmN v)) = (xs.map tmN).map PV.str := by rw [List.map_map]; rfl
            rw [em]
            simp only [gName, List.set_cons_zero, List.set_cons_succ, sRet, eCmp, eLenSet, eB1, fLen, bLen, eVar, List.getElem?_cons_zero, List.getElem?_cons_succ, asL, asStrs_map, opCm, eq_int, true_and, List.length_map, Option.map]
            refine ⟨by omega, ?_⟩
            have e9 : ((dcnt (xs.map tmN).reverse : Int) == (xs.length : Int)) = decide (dcnt (xs.map tmN).reverse = xs.length) := by
              rw [Bool.eq_iff_iff, beq_iff_eq, decide_eq_true_iff]
              omega
            rw [e9]
            exact hk
    · have e0 : decide ((12 : Int) < (xs.length : Int)) = true := by simp; omega
      rw [e0]
      rw [decide_eq_false h2, Bool.false_and, Bool.false_and] at hk
      simp only [if_true, sRet, eC]
      exact hk
  · rw [not_tup hv ht]
    have e1 : tsB v = false := by
      cases v <;> first | rfl | (exact (ht ⟨_, rfl⟩).elim)
    rw [e1] at hk
    simp only [truth, Bool.not_false, if_true, sRet, eC]
    exact hk
def rwB : PV → Bool
  | .tup xs => match xs with | [t, v, m] => tsB t && (inB v (-1000000000000) 1000000000000 && (inB m 0 1000000 && !eqv m (.int 1))) | _ => false
  | _ => false
def SpRow (cs : CS) : Prop := ∀ (n : Nat) (v : PV) (st : Store) (k x : KV), Sm n v → k (.bl (rwB v)) st → cs 49 [v] st k x
theorem row_at {FT : Nat → Option FD} {d : Nat} (hF : FT 49 = some ⟨1, 1, T_is_row⟩) (h1 : At FT d SpTerms) (h2 : At FT d SpIn) : At FT (d + 1) SpRow := at_of (C := fun cs => SpTerms cs ∧ SpIn cs) hF (fun n hn => ⟨h1 n hn, h2 n hn⟩) fun cs cs' C go => by
  obtain ⟨N, I⟩ := C
  intro n v st k x hv hk
  refine go _ _ _ _ rfl ?_
  simp only [T_is_row, sCons, sIf, tOr, tNot, tOf, eB1, eVar, List.map_cons, List.map_nil, List.replicate_zero, List.append_nil, Nat.reduceSub, List.getElem?_cons_zero, List.getElem?_cons_succ]
  refine isi_sm hv ?_
  by_cases ht : ∃ xs, v = .tup xs
  · obtain ⟨xs, rfl⟩ := ht
    obtain ⟨hl, m, rfl, hx⟩ := sm_tup hv
    simp only [kdOf, kdIs, List.any_cons, List.any_nil, Bool.or_false, truth, Bool.not_true, Bool.false_eq_true, if_false, tOr, tCmp, eB1, fLen, bLen, eVar, eC, List.getElem?_cons_zero, len_ne, true_and]
    by_cases h2 : xs.length = 3
    · obtain ⟨a, b, c, rfl⟩ : ∃ a b c, xs = [a, b, c] := by
        match xs, h2 with
        | [a, b, c], _ => exact ⟨a, b, c, rfl⟩
      have e0 : (!((([a, b, c] : List PV).length : Int) == 3)) = false := rfl
      rw [e0]
      simp only [Bool.false_eq_true, if_false, tNot, tOf, eCall, aCons, aNil, eIx, eVar, eC, List.getElem?_cons_zero]
      refine ix_tup (i := 0) rfl (N m a _ _ _ (hx a (by simp)) ?_)
      simp only [rwB] at hk
      cases ha : tsB a with
      | false =>
        rw [ha] at hk
        simp only [truth, Bool.not_false, if_true, sRet, eC]
        exact hk
      | true =>
        rw [ha, Bool.true_and] at hk
        simp only [truth, Bool.not_true, Bool.false_eq_true, if_false, sNil, sCons, sIf, tNot, tOf, eCall, aCons, aNil, eIx, eNeg, eVar, eC, List.getElem?_cons_zero]
        refine ix_tup (i := 1) rfl (I m b (-1000000000000) 1000000000000 _ _ _ (hx b (by simp)) ?_)
        cases hb : inB b (-1000000000000) 1000000000000 with
        | false =>
          rw [hb] at hk
          simp only [truth, Bool.not_false, if_true, sRet, eC]
          exact hk
        | true =>
          rw [hb, Bool.true_and] at hk
          simp only [truth, Bool.not_true, Bool.false_eq_true, if_false, sNil, sRet, eAnd, eCmp, eCall, aCons, aNil, eIx, eVar, eC, List.getElem?_cons_zero]
          refine ix_tup (i := 2) rfl (I m c 0 1000000 _ _ _ (hx c (by simp)) ?_)
          cases hc : inB c 0 1000000 with
          | false =>
            rw [hc] at hk
            simp only [truth]
            exact hk
          | true =>
            rw [hc, Bool.true_and] at hk
            simp only [truth]
            refine ix_tup (i := 2) rfl ?_
            cases c <;> simp only [inB] at hc <;> first | (cases hc; done) | exact ⟨rfl, rfl, hk⟩
    · have e0 : (!((xs.length : Int) == 3)) = true := by
        have : ((xs.length : Int) == 3) = false := by
          rw [beq_eq_false_iff_ne]
          omega
        rw [this]
        rfl
      rw [e0]
      have e1 : rwB (.tup xs) = false := by
        unfold rwB
        match xs, h2 with
        | [], _ => rfl
        | [_], _ => rfl
        | [_, _], _ => rfl
        | [_, _, _], h => exact (h rfl).elim
        | _ :: _ :: _ :: _ :: _, _ => rfl
      rw [e1] at hk
      simp only [if_true, sRet, eC]
      exact hk
  · rw [not_tup hv ht]
    have e1 : rwB v = false := by
      cases v <;> first | rfl | (exact (ht ⟨_, rfl⟩).elim)
    rw [e1] at hk
    simp only [truth, Bool.not_false, if_true, sRet, eC]
    exact hk
end VP
end
section
namespace VP
open VM
def wrap : Nat → PV
  | 0 => .tup []
  | n + 1 => .tup [wrap n]
def SpNest (cs : CS) : Prop := ∀ (st : Store) (k x : KV), k (wrap 5) st → cs 43 [] st k x
theorem nest_at {FT : Nat → Option FD} (hF : FT 43 = some ⟨0, 2, T__law_nest⟩) : At FT 1 SpNest := at_of (C := fun _ => True) hF (fun _ _ => trivial) fun cs cs' _ go => by
  intro st k x hk
  refine go _ _ _ _ rfl ?_
  simp only [T__law_nest, sCons, sSet, sFor, iRange1, eTup, aNil, aCons, eC, gName, List.map_nil, List.nil_append, List.replicate_succ, List.replicate_zero, Nat.reduceSub, List.set_cons_zero]
  refine ⟨by show 0 ≤ 16777216; decide, by unfold i62; decide, ?_⟩
  refine for_inv (fun rem ρ st' => st' = st ∧ rem.length ≤ 5 ∧ ∃ c, ρ = [some (wrap (5 - rem.length)), c]) ?_ ?_ _ _ _ ⟨rfl, by decide, none, rfl⟩
  · rintro v rem ρ st' ⟨rfl, h5, c, rfl⟩
    refine ⟨trivial, fun D' d1 d2 d3 d4 d5 => ?_⟩
    simp only [gName, List.set_cons_zero, List.set_cons_succ, sSet, eTup, aCons, aNil, eVar, List.getElem?_cons_zero]
    refine ⟨by show 1 ≤ 16777216; decide, ?_⟩
    rw [List.length_cons] at h5
    refine d4 _ _ ⟨rfl, by omega, some v, ?_⟩
    have e : 5 - rem.length = (5 - (v :: rem).length) + 1 := by
      rw [List.length_cons]
      omega
    rw [e]
    rfl
  · rintro ρ st' ⟨rfl, _, c, rfl⟩
    exact ⟨trivial, hk⟩
theorem sm_wrap (n : Nat) : ∀ k, k < n → Sm n (wrap k) := by
  induction n with
  | zero => intro k h; omega
  | succ n ih =>
    intro k h
    cases k with
    | zero => exact ⟨by decide, fun _ m => nomatch m⟩
    | succ k => exact ⟨by show 1 ≤ 16777216; decide, fun y m => by rw [List.mem_singleton.mp m]; exact ih k (by omega)⟩
def SpOdd (cs : CS) : Prop := ∀ (r : Nat) (st : Store), Dr cs 44 [] r 1 st fun v _ => nmB v = false ∧ Sm 8 v
theorem odd_at {FT : Nat → Option FD} {d : Nat} (hF : FT 44 = some ⟨1, 1, T__law_odd⟩) (h1 : At FT d SpOf) (h2 : At FT d SpNest) : At FT (d + 1) SpOdd := at_of (C := fun cs => SpOf cs ∧ SpNest cs) hF (fun n hn => ⟨h1 n hn, h2 n hn⟩) fun cs cs' C go => by
  obtain ⟨of, ns⟩ := C
  intro r st b k x hb hk
  refine go _ _ _ _ rfl ?_
  simp only [T__law_odd, sRet, eCall, eLst, eTup, eNeg, aCons, aNil, eVar, eC, List.map_cons, List.map_nil, List.replicate_zero, List.append_nil, Nat.reduceSub, List.getElem?_cons_zero]
  refine ⟨by show 1 ≤ 16777216; decide, by show 1 ≤ 16777216; decide, ns _ _ _ ⟨by show 13 ≤ 16777216; decide, ?_⟩⟩
  refine of r (.lst _) _ st rfl (by simp) (by simp) (fun _ e => by cases e) b _ _ hb fun v st' hv hb' kp => ?_
  refine hk _ _ ?_ hb' kp
  have one : ∀ s, Sm 8 (.tup [.str s]) ∧ Sm 8 (.lst [.str s]) := fun s => ⟨⟨by show 1 ≤ 16777216; decide, fun y m => by rw [List.mem_singleton.mp m]; trivial⟩, ⟨by show 1 ≤ 16777216; decide, fun y m => by rw [List.mem_singleton.mp m]; trivial⟩⟩
  simp only [List.mem_cons, List.not_mem_nil, or_false] at hv
  rcases hv with h | h | h | h | h | h | h | h | h | h | h | h | h <;> subst h
  · exact ⟨rfl, trivial⟩
  · exact ⟨rfl, trivial⟩
  · exact ⟨rfl, trivial⟩
  · exact ⟨rfl, trivial⟩
  · exact ⟨by decide, trivial⟩
  · exact ⟨by decide, trivial⟩
  · exact ⟨by decide, trivial⟩
  · exact ⟨by decide, trivial⟩
  · exact ⟨rfl, (one _).1⟩
  · exact ⟨rfl, (one _).2⟩
  · exact ⟨rfl, trivial⟩
  · exact ⟨by decide, trivial⟩
  · exact ⟨rfl, sm_wrap 8 5 (by decide)⟩
def SpMd (cs : CS) : Prop := ∀ (r : Nat) (st : Store), Dr cs 22 [] r 3 st fun v _ => ∃ m : Int, v = .int m ∧ 0 ≤ m ∧ m ≤ 1000000 ∧ m ≠ 1
theorem md_at {FT : Nat → Option FD} {d : Nat} (hF : FT 22 = some ⟨1, 1, T__law_modulus⟩) (h1 : At FT d SpTake) (h2 : At FT d SpOf) : At FT (d + 1) SpMd := at_of (C := fun cs => SpTake cs ∧ SpOf cs) hF (fun n hn => ⟨h1 n hn, h2 n hn⟩) fun cs cs' C go => by
  obtain ⟨tk, of⟩ := C
  intro r st b k x hb hk
  refine go _ _ _ _ rfl ?_
  have p6 : PowOk 10 6 := ⟨by decide, by decide, by decide⟩
  have e6 : (10 : Int) ^ Int.toNat 6 - 1 = 999999 := by decide
  simp only [T__law_modulus, VM.sNil, VM.sCons, VM.sSet, VM.sPar, VM.sSetIx, VM.setIx, VM.sExpr, VM.sRet, VM.sRetN, VM.sIf, VM.sBreak, VM.sCont, VM.sFor, VM.gName, VM.gTup, VM.gEach, VM.eVar, VM.eC, VM.eBin, VM.eNeg, VM.eCmp, VM.eChain, VM.tOf, VM.tCmp, VM.tChain, VM.tAnd, VM.tOr, VM.tNot, VM.tYes, VM.eTest, VM.eAnd, VM.eOr, VM.eNot, VM.eIf, VM.aNil, VM.aCons, VM.eLst, VM.eLstM, VM.eTup, VM.eCall, VM.eIx, VM.getIx, VM.eSl, VM.getSl, VM.iE, VM.iRange1, VM.iRange2, VM.iZip, VM.iRev, VM.eComp, VM.eCompM, VM.eAppend, VM.eInsert, VM.eB1, VM.fLen, VM.fAbs, VM.fInt, VM.fList, VM.fListM, VM.fTuple, VM.fSum, VM.fAll, VM.fAny, VM.fIsi, VM.bLen, VM.seqOf, VM.sq, VM.asL, VM.items, VM.isSeq, VM.truth, VM.opBin, VM.opAdd, VM.opSub, VM.opMul, VM.opFdiv, VM.opMod, VM.opPow, VM.opCm, VM.opEq, VM.frz, VM.isD, VM.eqv, VM.isNon, VM.kdOf, VM.D0, VM.turn, List.map_cons, List.map_nil, List.replicate_succ, List.replicate_zero, List.cons_append, List.nil_append, List.getElem?_cons_zero, List.getElem?_cons_succ, List.set_cons_zero, List.set_cons_succ, Nat.reduceSub, VM.wipe, List.length_cons, List.length_nil, Nat.reduceAdd]
  refine tk r 40 (by decide) st (b + 2) _ _ hb fun v st1 hv hb1 k1 => ?_
  obtain ⟨d1, rfl, d10, d11⟩ := hv
  simp only []
  refine ⟨p6, ?_⟩
  rw [e6]
  refine tk r 999999 (by decide) st1 (b + 1) _ _ hb1 fun v st2 hv hb2 k2 => ?_
  obtain ⟨d2, rfl, d20, d21⟩ := hv
  simp only []
  refine ⟨by decide, ?_⟩
  refine of r (.lst _) _ st2 rfl (by simp) (by simp) (fun _ e => by cases e) b _ _ hb2 fun v st3 hv hb3 k3 => ?_
  refine hk _ _ ?_ hb3 ((k1.trans k2).trans k3)
  simp only [List.mem_cons, List.not_mem_nil, or_false] at hv
  rcases hv with h | h | h | h | h | h | h | h | h | h <;> exact ⟨_, h, by omega, by omega, by omega⟩
/-- a sign drawn -/
def SpOfS (cs : CS) : Prop := ∀ (r : Nat) (s : List Nat) (st : Store), s ≠ [] → Dr cs 2 [.str s] r 1 st fun v _ => ∃ c ∈ s, v = .str [c]
theorem ofS_at {FT : Nat → Option FD} {d : Nat} (hF : FT 2 = some ⟨2, 2, T__law_of⟩) (h1 : At FT d SpTake) : At FT (d + 1) SpOfS := at_of hF h1 fun cs cs' tk go => by
  intro r s st hne b k x hb hk
  refine go _ _ _ _ rfl ?_
  have hl : (0 : Int) < (s.length : Int) := by
    cases s with
    | nil => exact (hne rfl).elim
    | cons => simp
  simp only [T__law_of, sRet, eIx, eCall, aCons, aNil, eVar, eB1, fLen, List.map_cons, List.map_nil, List.cons_append, List.nil_append, List.getElem?_cons_zero, List.getElem?_cons_succ, bLen]
  refine tk r _ hl st b _ _ hb fun v st' hv hb' kp => ?_
  obtain ⟨dd, rfl, d0, d1⟩ := hv
  have hi := ixN d0 (by simpa using d1)
  have hn : dd.toNat < s.length := by omega
  simp only [getIx, hi, List.getElem?_eq_getElem hn]
  exact hk _ _ ⟨_, List.getElem_mem hn, rfl⟩ hb' kp
/-- signs drawn one by one -/
theorem comp_signs {g : TG} {t : TT} {e : TE} {own : List Nat} {ρ : Env} {st : Store} {r c b : Nat} {S : List Nat} {k : List PV → Store → Prop} (xs : List PV)
    (hf : ∀ v (st : Store) (b : Nat) (k' : Option PV → Store → Prop), Bag st r (b + c) → (∀ z st', z ∈ S → Bag st' r b → Keep r st st' → k' (some (.str [z])) st') → turn g t e ρ st v k')
    (hl : xs.length ≤ SZ) (hb : Bag st r (b + xs.length * c)) (hk : ∀ (s : List Nat) st', s.length = xs.length → (∀ z ∈ s, z ∈ S) → Bag st' r b → Keep r st st' → k (s.map fun z => .str [z]) st') :
    compGo g t e own (fun _ => True) xs [] ρ st k := by
  refine comp_inv (fun rem acc st' => ∃ s : List Nat, acc = s.map (fun z => .str [z]) ∧ s.length + rem.length = xs.length ∧ (∀ z ∈ s, z ∈ S) ∧ Bag st' r (b + rem.length * c) ∧ Keep r st st') ?_ ?_ xs [] st ⟨[], rfl, by simp, by simp, hb, Keep.refl⟩
  · rintro v rem acc st' ⟨u, rfl, h2, h3, h4, h5⟩
    refine ⟨trivial, fun k' hk' => ?_⟩
    rw [List.length_cons] at h2 h4
    refine hf v st' (b + rem.length * c) _ (by rw [Nat.add_mul, Nat.one_mul, ← Nat.add_assoc] at h4; exact h4) fun z st2 hz hb2 k2 => ?_
    refine hk' _ _ ⟨by rw [List.length_map]; omega, u ++ [z], by simp, by rw [List.length_append, List.length_singleton]; omega, fun w hw => ?_, hb2, h5.trans k2⟩
    rcases List.mem_append.mp hw with hw | hw
    · exact h3 w hw
    · rw [List.mem_singleton.mp hw]; exact hz
  · rintro acc st' ⟨u, rfl, h2, h3, h4, h5⟩
    exact ⟨trivial, hk u st' (by simpa using h2) h3 (h4.le (by simp)) h5⟩
theorem join_signs (s : List Nat) : joinS [] (s.map fun z => [z]) = s := by
  induction s with
  | nil => rfl
  | cons z s ih =>
    cases s with
    | nil => rfl
    | cons y s =>
      show [z] ++ [] ++ joinS [] ((y :: s).map fun z => [z]) = _
      rw [ih]
      rfl
theorem sum_signs (s : List Nat) : ((s.map fun z => [z]).map List.length).sum = s.length := by
  induction s with
  | nil => rfl
  | cons z s ih =>
    rw [List.map_cons, List.map_cons, List.sum_cons, ih]
    show 1 + s.length = s.length + 1
    omega
theorem strs_signs (s : List Nat) : asStrs (s.map fun z => PV.str [z]) = some (s.map fun z => [z]) := by
  have := asStrs_map (s.map fun z => [z])
  rw [List.map_map] at this
  exact this
def L25 : List Nat := [97, 98, 99, 100, 101, 102, 103, 104, 105, 106, 107, 108, 109, 110, 112, 113, 114, 115, 116, 117, 118, 119, 120, 121, 122]
def nth25 (i : Int) : Nat := L25.getD i.toNat 0
theorem nth25_mem {i : Int} (h0 : 0 ≤ i) (h1 : i < 25) : nth25 i ∈ L25 := by
  have h : i.toNat < L25.length := by show i.toNat < 25; omega
  unfold nth25
  rw [List.getD_eq_getElem?_getD, List.getElem?_eq_getElem h]
  exact List.getElem_mem h
theorem nth25_inj {i j : Int} (h0 : 0 ≤ i) (h1 : i < 25) (g0 : 0 ≤ j) (g1 : j < 25) (e : nth25 i = nth25 j) : i = j := by
  have key : ∀ a : Fin 25, ∀ b : Fin 25, L25.getD a 0 = L25.getD b 0 → a = b := by decide
  have := key ⟨i.toNat, by omega⟩ ⟨j.toNat, by omega⟩ e
  have := congrArg Fin.val this
  simp only at this
  omega
theorem L25_let : ∀ c ∈ L25, c ∈ LET ∧ c ≠ 111 := by decide
def stepsL : List Int := [1, 2, 3, 4, 6, 7, 8, 9, 11, 12]
/-- the name with number k -/
def nameK (s : List Nat) (at' : Nat) (f t : Int) (k : Nat) : List Nat := s.take at' ++ [nth25 ((f + k * t).fmod 25)] ++ s.drop at'
theorem nameK_inj {s : List Nat} {a : Nat} {f t : Int} (ht : t ∈ stepsL) {i j : Nat} (hi : i < 11) (hj : j < 11) (e : nameK s a f t i = nameK s a f t j) : i = j := by
  unfold nameK at e
  have e1 := List.append_cancel_left (List.append_cancel_right e)
  have e2 : nth25 ((f + i * t).fmod 25) = nth25 ((f + j * t).fmod 25) := by simpa using e1
  have e3 := nth25_inj (Int.fmod_nonneg_of_pos _ (by decide)) (Int.fmod_lt_of_pos _ (by decide)) (Int.fmod_nonneg_of_pos _ (by decide)) (Int.fmod_lt_of_pos _ (by decide)) e2
  rw [Int.fmod_eq_emod_of_nonneg _ (by decide), Int.fmod_eq_emod_of_nonneg _ (by decide)] at e3
  unfold stepsL at ht
  simp only [List.mem_cons, List.not_mem_nil, or_false] at ht
  rcases ht with h | h | h | h | h | h | h | h | h | h <;> subst h <;> omega
theorem nameK_ok {s : List Nat} {a : Nat} {f t : Int} (hs : s.length ≤ 5) (hm : ∀ c ∈ s, c ∈ L25) (k : Nat) : nmS (nameK s a f t k) = true ∧ 111 ∉ nameK s a f t k := by
  have hl : (nameK s a f t k).length = s.length + 1 := by
    unfold nameK
    rw [List.length_append, List.length_append, List.length_take, List.length_drop, List.length_singleton]
    omega
  have hc : ∀ c ∈ nameK s a f t k, c ∈ L25 := by
    intro c hc
    unfold nameK at hc
    rcases List.mem_append.mp hc with hc | hc
    · rcases List.mem_append.mp hc with hc | hc
      · exact hm c (List.mem_of_mem_take hc)
      · rw [List.mem_singleton.mp hc]
        exact nth25_mem (Int.fmod_nonneg_of_pos _ (by decide)) (Int.fmod_lt_of_pos _ (by decide))
    · exact hm c (List.mem_of_mem_drop hc)
  constructor
  · unfold nmS
    rw [hl, decide_eq_true (by omega), decide_eq_true (by omega)]
    simp only [Bool.true_and, List.all_eq_true, decide_eq_true_iff]
    exact fun c m => (L25_let c (hc c m)).1
  · exact fun m => (L25_let 111 (hc _ m)).2 rfl
theorem slc_to {s : List Nat} {a : Int} (h0 : 0 ≤ a) (h1 : a ≤ s.length) : slc s none (some a) = s.take a.toNat := by
  unfold slc cutIx
  simp only []
  rw [if_neg (by omega)]
  show (s.drop 0).take (min a.toNat s.length - 0) = _
  rw [List.drop_zero, Nat.min_eq_left (by omega), Nat.sub_zero]
theorem slc_from {s : List Nat} {a : Int} (h0 : 0 ≤ a) (h1 : a ≤ s.length) : slc s (some a) none = s.drop a.toNat := by
  unfold slc cutIx
  simp only []
  rw [if_neg (by omega), Nat.min_eq_left (by omega)]
  rw [List.take_of_length_le]
  rw [List.length_drop]
  omega
def SpNames (cs : CS) : Prop := ∀ (r : Nat) (st : Store), Dr cs 46 [.int 11] r 9 st fun v _ => ∃ ss : List (List Nat), v = .lst (ss.map .str) ∧ ss.length = 11 ∧ ss.Nodup ∧ ∀ s ∈ ss, nmS s = true ∧ 111 ∉ s
theorem names_at {FT : Nat → Option FD} {d : Nat} (hF : FT 46 = some ⟨2, 8, T__law_names⟩) (h1 : At FT d SpTake) (h2 : At FT d SpOf) (h3 : At FT d SpOfS) : At FT (d + 1) SpNames := at_of (C := fun cs => SpTake cs ∧ SpOf cs ∧ SpOfS cs) hF (fun n hn => ⟨h1 n hn, h2 n hn, h3 n hn⟩) fun cs cs' C go => by
  obtain ⟨tk, of, ofS⟩ := C
  intro r st b k x hb hk
  refine go _ _ _ _ rfl ?_
  simp only [T__law_names, sCons, sSet, eJoin, eComp, iRange1, eCall, aCons, aNil, eVar, eC, gName, isStr, List.map_cons, List.map_nil, List.replicate_succ, List.replicate_zero, List.cons_append, List.nil_append, Nat.reduceSub, List.getElem?_cons_zero, List.getElem?_cons_succ, List.set_cons_zero, List.set_cons_succ, true_and]
  refine tk r 6 (by decide) st (b + 8) _ _ hb fun v st1 hv hb1 k1 => ?_
  obtain ⟨m, rfl, m0, m1⟩ := hv
  refine ⟨by unfold i62; omega, ?_⟩
  have hn : ((List.range m.toNat).map fun i : Nat => PV.int (i : Int)).length = m.toNat := by rw [List.length_map, List.length_range]
  refine comp_signs (r := r) (c := 1) (b := b + 3) (S := L25) _ (fun v st' b' k' hb' hk' => ?_) (by rw [hn]; show _ ≤ 16777216; omega) (by rw [hn]; exact hb1.le (by omega)) fun s st2 hs sm hb2 k2 => ?_
  · simp only [turn, gName, tYes, wipe, List.set_cons_zero, List.set_cons_succ, if_true, eCall, aCons, aNil, eVar, List.getElem?_cons_zero, List.getElem?_cons_succ]
    refine ofS r L25 st' (by decide) b' _ _ hb' fun z st3 hz hb3 k3 => ?_
    obtain ⟨c, hc, rfl⟩ := hz
    exact hk' c st3 hc hb3 k3
  rw [hn] at hs
  simp only [seqOf, asL, strs_signs]
  refine ⟨by rw [sum_signs, List.length_map]; show _ ≤ 16777216; simp; omega, ?_⟩
  rw [join_signs]
  simp only [wipe, List.set_cons_zero, List.set_cons_succ, sCons, sSet, eTup, eCall, aCons, aNil, eBin, eB1, fLen, bLen, eVar, eC, List.getElem?_cons_zero, List.getElem?_cons_succ, opBin, opAdd]
  refine tk r ((s.length : Int) + 1) (by omega) st2 (b + 2) _ _ hb2 fun v st3 hv hb3 k3 => ?_
  obtain ⟨a, rfl, a0, a1⟩ := hv
  refine tk r 25 (by decide) st3 (b + 1) _ _ hb3 fun v st4 hv hb4 k4 => ?_
  obtain ⟨f, rfl, f0, f1⟩ := hv
  refine ⟨by show 2 ≤ 16777216; decide, ?_⟩
  simp only [gTup, gEach, gName, List.length_cons, List.length_nil, List.set_cons_zero, List.set_cons_succ, true_and, sCons, sSet, eCall, eLst, aCons, aNil, eVar, eC, List.getElem?_cons_zero, List.getElem?_cons_succ]
  refine ⟨by show 10 ≤ 16777216; decide, ?_⟩
  refine of r (.lst _) _ st4 rfl (by simp) (by simp) (fun _ e => by cases e) b _ _ hb4 fun v st5 hv hb5 k5 => ?_
  obtain ⟨t, rfl, ht⟩ : ∃ t : Int, v = .int t ∧ t ∈ stepsL := by
    simp only [List.mem_cons, List.not_mem_nil, or_false] at hv
    rcases hv with h | h | h | h | h | h | h | h | h | h <;> exact ⟨_, h, by decide⟩
  have tb : t.natAbs ≤ 12 := by
    have key : ∀ t ∈ stepsL, t.natAbs ≤ 12 := by decide
    exact key t ht
  have sl : s.length ≤ 5 := by omega
  simp only [sRet, eComp, iRange1, eVar, List.getElem?_cons_zero, List.getElem?_cons_succ]
  refine ⟨by unfold i62; decide, ?_⟩
  refine comp_of (fun i : Nat => PV.int (i : Int)) (fun i => some (.str (nameK s a.toNat f t i))) trivial (List.range (11 : Int).toNat) (fun i hi k' hk' => ?_) (by rw [List.length_range]; decide) ?_
  · have i11 : i < 11 := List.mem_range.mp hi
    simp only [turn, gName, tYes, wipe, List.set_cons_zero, List.set_cons_succ, if_true, eBin, eSl, eIx, eB1, fInt, eVar, eC, List.getElem?_cons_zero, List.getElem?_cons_succ, getSl, opBin, opMul, opAdd, opMod]
    rw [slc_to a0 (by omega), slc_from a0 (by omega)]
    refine ⟨mo (n := 10) (m := 10) (by show (i : Int).natAbs < 1024; omega) (by show t.natAbs < 1024; omega) (by decide), by decide, ?_⟩
    have q0 := Int.fmod_nonneg_of_pos (f + i * t) (show (0 : Int) < 25 by decide)
    have q1 := Int.fmod_lt_of_pos (f + i * t) (show (0 : Int) < 25 by decide)
    have ei : ix 25 ((f + i * t).fmod 25) = some ((f + i * t).fmod 25).toNat := ixN q0 q1
    have hlt : ((f + i * t).fmod 25).toNat < L25.length := by show _ < 25; omega
    have eg : L25[((f + i * t).fmod 25).toNat]? = some (nth25 ((f + i * t).fmod 25)) := by
      unfold nth25
      rw [List.getD_eq_getElem?_getD, List.getElem?_eq_getElem hlt]
      rfl
    show getIx (.str L25) _ _ _
    have e25 : L25.length = 25 := rfl
    simp only [getIx, e25, ei, eg]
    refine ⟨?_, ?_, hk'⟩
    · rw [List.length_take]
      show _ + 1 ≤ 16777216
      omega
    · rw [List.length_append, List.length_take, List.length_drop]
      show _ + 1 + _ ≤ 16777216
      omega
  · rw [show (fun i : Nat => some (PV.str (nameK s a.toNat f t i))) = some ∘ (fun i => PV.str (nameK s a.toNat f t i)) from rfl, List.filterMap_eq_map]
    refine hk _ _ ⟨(List.range (11 : Int).toNat).map (nameK s a.toNat f t), by rw [List.map_map]; rfl, by rw [List.length_map, List.length_range]; rfl, ?_, fun z hz => ?_⟩ hb5 ((((k1.trans k2).trans k3).trans k4).trans k5)
    · refine List.pairwise_map.mpr (List.Pairwise.imp_of_mem (fun {i j} hi hj hne e => hne ?_) (List.nodup_range (n := (11 : Int).toNat)))
      exact nameK_inj ht (List.mem_range.mp hi) (List.mem_range.mp hj) e
    · obtain ⟨i, _, rfl⟩ := List.mem_map.mp hz
      exact nameK_ok sl sm i
end VP
end
section
namespace VP
open VM
theorem sm_mono {n : Nat} : ∀ {m : Nat} {v : PV}, Sm n v → n ≤ m → Sm m v := by
  induction n with
  | zero =>
    intro m v h _
    cases v <;> first | (exact h.elim) | (cases m <;> trivial)
  | succ n ih =>
    intro m v h hm
    obtain ⟨m, rfl⟩ : ∃ q, m = q + 1 := ⟨m - 1, by omega⟩
    cases v <;> first | (exact h.elim) | trivial | exact ⟨h.1, fun x mx => ih (h.2 x mx) (by omega)⟩
theorem slc_to' {α : Type} {s : List α} {a : Int} (h0 : 0 ≤ a) (h1 : a ≤ s.length) : slc s none (some a) = s.take a.toNat := by
  unfold slc cutIx
  simp only []
  rw [if_neg (by omega)]
  show (s.drop 0).take (min a.toNat s.length - 0) = _
  rw [List.drop_zero, Nat.min_eq_left (by omega), Nat.sub_zero]
theorem slc_from' {α : Type} {s : List α} {a : Int} (h0 : 0 ≤ a) (h1 : a ≤ s.length) : slc s (some a) none = s.drop a.toNat := by
  unfold slc cutIx
  simp only []
  rw [if_neg (by omega), Nat.min_eq_left (by omega)]
  rw [List.take_of_length_le]
  rw [List.length_drop]
  omega
theorem sm_tuple {n : Nat} {xs : List PV} (hl : xs.length ≤ 1000) (h : ∀ x ∈ xs, Sm n x) : Sm (n + 1) (.tup xs) := ⟨by show _ ≤ 16777216; omega, h⟩
theorem sm_list {n : Nat} {xs : List PV} (hl : xs.length ≤ 1000) (h : ∀ x ∈ xs, Sm n x) : Sm (n + 1) (.lst xs) := ⟨by show _ ≤ 16777216; omega, h⟩
theorem sm0 {n : Nat} {v : PV} (h : Sm 0 v) : Sm n v := sm_mono h (Nat.zero_le _)
def strOf : PV → List Nat
  | .str s => s
  | _ => []
theorem perm_strs {ys : List PV} {ss : List (List Nat)} (h : ys.Perm (ss.map PV.str)) : ∃ zs : List (List Nat), ys = zs.map PV.str ∧ zs.Perm ss := by
  refine ⟨ys.map strOf, ?_, ?_⟩
  · rw [List.map_map]
    have key : ∀ y ∈ ys, (PV.str ∘ strOf) y = y := fun y m => by
      obtain ⟨s, _, rfl⟩ := List.mem_map.mp (h.mem_iff.mp m)
      rfl
    conv => lhs; rw [← List.map_id ys]
    exact (List.map_congr_left fun y m => (key y m).symm)
  · have := h.map strOf
    rw [List.map_map] at this
    have e : ss.map (strOf ∘ PV.str) = ss := by
      conv => rhs; rw [← List.map_id ss]
      rfl
    rw [e] at this
    exact this
end VP
end
section
namespace ML
structure Ech (w : Nat) (L : Vec → Prop) (at_ : Nat) (ps : Ps) (rest : List Vec) : Prop where
  sorted : ps.Pairwise (fun x y => x.1 < y.1)
  row : ∀ p a, (p, a) ∈ ps → p < at_ ∧ L a ∧ Z p a ∧ 0 < nth a p
  div : ∀ p v, p < at_ → L v → Z p v → (∀ a, (p, a) ∈ ps → nth a p ∣ nth v p) ∧ ((∀ a, (p, a) ∉ ps) → nth v p = 0)
  lr : Len w rest
  rin : ∀ r ∈ rest, L r ∧ Z at_ r
  gen : ∀ v, L v → Z at_ v → Span w rest v
theorem Z.span {w n : Nat} {vs : List Vec} {v : Vec} (hl : Len w vs) (h : ∀ r ∈ vs, Z n r) (hv : Span w vs v) : Z n v := fun i hi => hv.nth0 hl fun r m => h r m i hi
theorem Lat.span {w : Nat} {L : Vec → Prop} {vs : List Vec} {v : Vec} (hL : Lat w L) (h0 : L (zv w)) (h : ∀ r ∈ vs, L r) (hv : Span w vs v) : L v := by
  induction hv with
  | zero => exact h0
  | step c _ m ih => exact hL.sub _ _ c ih (h _ m)
theorem ech_start {w : Nat} {vs : List Vec} (hl : Len w vs) : Ech w (Span w vs) 0 [] vs := ⟨List.Pairwise.nil, fun _ _ m => (nomatch m), fun p v h => absurd h (Nat.not_lt_zero p), hl, fun r m => ⟨Span.mem hl m, fun i hi => by omega⟩, fun v hv _ => hv⟩
section
variable {w at_ : Nat} {L : Vec → Prop} {ps : Ps} {rest rest' : List Vec}
theorem Ech.none (hL : Lat w L) (h0 : L (zv w)) (E : Ech w L at_ ps rest) (hl : Len w rest') (s1 : ∀ r ∈ rest', Span w rest r) (s2 : ∀ r ∈ rest, Span w rest' r) (hz : ∀ r ∈ rest', nth r at_ = 0) : Ech w L (at_ + 1) ps rest' := by
  have z0 : ∀ v, L v → Z at_ v → nth v at_ = 0 := fun v hv hz' => (Span.mono hl s2 (E.gen v hv hz')).nth0 hl hz
  refine ⟨E.sorted, fun p a m => ?_, fun p v hp hv hz' => ?_, hl, fun r m => ?_, fun v hv hz' => ?_⟩
  · obtain ⟨h1, h2⟩ := E.row p a m
    exact ⟨by omega, h2⟩
  · by_cases h : p < at_
    · exact E.div p v h hv hz'
    · have : p = at_ := by omega
      subst this
      exact ⟨fun a m => by have := (E.row p a m).1; omega, fun _ => z0 v hv hz'⟩
  · have hr := s1 r m
    refine ⟨hL.span h0 (fun r m => (E.rin r m).1) hr, fun i hi => ?_⟩
    by_cases h : i < at_
    · exact Z.span E.lr (fun r m => (E.rin r m).2) hr i h
    · have : i = at_ := by omega
      subst this
      exact hz r m
  · exact Span.mono hl s2 (E.gen v hv fun i hi => hz' i (by omega))
theorem Ech.some {a : Vec} (hL : Lat w L) (h0 : L (zv w)) (E : Ech w L at_ ps rest) (hl : Len w (a :: rest')) (s1 : ∀ r ∈ a :: rest', Span w rest r) (s2 : ∀ r ∈ rest, Span w (a :: rest') r) (hz : ∀ r ∈ rest', nth r at_ = 0) (hp : 0 < nth a at_) : Ech w L (at_ + 1) (ps ++ [(at_, a)]) rest' := by
  have hl' : Len w rest' := fun r m => hl r (List.mem_cons_of_mem _ m)
  have la : a.length = w := hl a (List.mem_cons_self ..)
  have key : ∀ v, L v → Z at_ v → ∃ c u, Span w rest' u ∧ v = sub1 u a c ∧ nth v at_ = - (nth a at_ * c) := fun v hv hz' => by
    obtain ⟨c, u, hu, e⟩ := span_cons hl (Span.mono hl s2 (E.gen v hv hz'))
    refine ⟨c, u, hu, e, ?_⟩
    rw [e, nth_sub1 ((hu.len hl').trans la.symm), hu.nth0 hl' hz]
    omega
  have inL : ∀ r ∈ a :: rest', L r ∧ Z at_ r := fun r m => ⟨hL.span h0 (fun r m => (E.rin r m).1) (s1 r m), Z.span E.lr (fun r m => (E.rin r m).2) (s1 r m)⟩
  refine ⟨?_, fun p b m => ?_, fun p v hpp hv hz' => ?_, hl', fun r m => ?_, fun v hv hz' => ?_⟩
  · refine List.pairwise_append.mpr ⟨E.sorted, List.pairwise_singleton .., fun x hx y hy => ?_⟩
    rw [List.mem_singleton.mp hy]
    exact (E.row x.1 x.2 hx).1
  · rcases List.mem_append.mp m with m | m
    · obtain ⟨h1, h2⟩ := E.row p b m
      exact ⟨by omega, h2⟩
    · cases List.mem_singleton.mp m
      obtain ⟨k1, k2⟩ := inL a (List.mem_cons_self ..)
      exact ⟨by omega, k1, k2, hp⟩
  · by_cases h : p < at_
    · obtain ⟨d1, d2⟩ := E.div p v h hv hz'
      refine ⟨fun b m => ?_, fun hn => d2 fun b m => hn b (List.mem_append_left _ m)⟩
      rcases List.mem_append.mp m with m | m
      · exact d1 b m
      · cases List.mem_singleton.mp m
        omega
    · have : p = at_ := by omega
      subst this
      refine ⟨fun b m => ?_, fun hn => absurd (List.mem_append_right _ (List.mem_singleton.mpr rfl)) (hn a)⟩
      rcases List.mem_append.mp m with m | m
      · have := (E.row p b m).1
        omega
      · cases List.mem_singleton.mp m
        obtain ⟨c, u, _, _, e⟩ := key v hv hz'
        rw [e]
        exact ⟨-c, by rw [Int.mul_neg]⟩
  · obtain ⟨k1, k2⟩ := inL r (List.mem_cons_of_mem _ m)
    refine ⟨k1, fun i hi => ?_⟩
    by_cases h : i < at_
    · exact k2 i h
    · have : i = at_ := by omega
      subst this
      exact hz r m
  · obtain ⟨c, u, hu, e, e2⟩ := key v hv fun i hi => hz' i (by omega)
    have hc : c = 0 := by
      have := hz' at_ (by omega)
      rw [this] at e2
      rcases Int.mul_eq_zero.mp (show nth a at_ * c = 0 by omega) with h | h
      · omega
      · exact h
    subst hc
    have : sub1 u a 0 = u := vext (sub1_len ((hu.len hl').trans la.symm)) fun i _ => by rw [nth_sub1 ((hu.len hl').trans la.symm)]; omega
    rw [e, this]
    exact hu
theorem Ech.tri (E : Ech w L w ps rest) : Tri w L ps := ⟨E.sorted, fun p a m => by obtain ⟨h1, h2, h3, h4⟩ := E.row p a m; exact ⟨h1, h2, h3, by omega⟩, fun p v hp hv hz => E.div p v hp hv hz⟩
structure Rd (w : Nat) (L : Vec → Prop) (ps qs : Ps) : Prop where
  heads : qs.map (·.1) = ps.map (·.1)
  row : ∀ p b, (p, b) ∈ qs → L b ∧ Z p b ∧ ∃ a, (p, a) ∈ ps ∧ nth b p = nth a p
  red : ∀ p a q b, (p, a) ∈ qs → (q, b) ∈ qs → p < q → 0 ≤ nth a q ∧ nth a q < nth b q
theorem fst_mem {ps qs : Ps} (h : qs.map (·.1) = ps.map (·.1)) {p : Nat} {a : Vec} (m : (p, a) ∈ ps) : ∃ b, (p, b) ∈ qs := by
  have : p ∈ qs.map (·.1) := by rw [h]; exact List.mem_map.mpr ⟨(p, a), m, rfl⟩
  obtain ⟨⟨q, b⟩, m', e⟩ := List.mem_map.mp this
  cases e
  exact ⟨b, m'⟩
theorem sorted_fst {ps : Ps} : ps.Pairwise (fun x y => x.1 < y.1) ↔ (ps.map (·.1)).Pairwise (· < ·) := by rw [List.pairwise_map]
theorem sorted_uniq : ∀ {ps : Ps}, ps.Pairwise (fun x y => x.1 < y.1) → ∀ {p : Nat} {a b : Vec}, (p, a) ∈ ps → (p, b) ∈ ps → a = b
  | [], _, _, _, _, m, _ => by cases m
  | x :: ps, h, p, a, b, m, m' => by
    obtain ⟨h1, h2⟩ := List.pairwise_cons.mp h
    rcases List.mem_cons.mp m with e | m
    · rcases List.mem_cons.mp m' with e' | m'
      · rw [← e] at e'; cases e'; rfl
      · have := h1 _ m'; rw [← e] at this; simp at this
    · rcases List.mem_cons.mp m' with e' | m'
      · have := h1 _ m; rw [← e'] at this; simp at this
      · exact sorted_uniq h2 m m'
theorem Rd.form {qs : Ps} (t : Tri w L ps) (hp : ∀ p a, (p, a) ∈ ps → 0 < nth a p) (R : Rd w L ps qs) : Form w L qs where
  sorted := by rw [sorted_fst, R.heads, ← sorted_fst]; exact t.sorted
  row := fun p b m => by
    obtain ⟨h1, h2, a, ha, e⟩ := R.row p b m
    obtain ⟨k1, _, _, k4⟩ := t.row p a ha
    exact ⟨k1, h1, h2, by rw [e]; exact k4⟩
  div := fun p v hpw hv hz => by
    obtain ⟨d1, d2⟩ := t.div p v hpw hv hz
    refine ⟨fun b m => ?_, fun hn => d2 fun a m => ?_⟩
    · obtain ⟨_, _, a, ha, e⟩ := R.row p b m
      rw [e]
      exact d1 a ha
    · obtain ⟨b, hb⟩ := fst_mem R.heads m
      exact hn b hb
  pos := fun p b m => by
    obtain ⟨_, _, a, ha, e⟩ := R.row p b m
    rw [e]
    exact hp p a ha
  red := R.red
theorem redA_rd (hL : Lat w L) : ∀ (ps : Ps), ps.Pairwise (fun x y => x.1 < y.1) → (∀ p a, (p, a) ∈ ps → L a ∧ Z p a ∧ 0 < nth a p) → Rd w L ps (redA ps)
  | [], _, _ => ⟨rfl, fun _ _ m => (nomatch m), fun _ _ _ _ m => (nomatch m)⟩
  | (p, a) :: ps, hs, h => by
    obtain ⟨s1, s2⟩ := List.pairwise_cons.mp hs
    have h' : ∀ q b, (q, b) ∈ ps → L b ∧ Z q b ∧ 0 < nth b q := fun q b m => h q b (List.mem_cons_of_mem _ m)
    have ih := redA_rd hL ps s2 h'
    obtain ⟨la, za, pa⟩ := h p a (List.mem_cons_self ..)
    obtain ⟨k1, k2, k3⟩ := lower_spec ps a w (hL.len a la) (fun q b m => ⟨hL.len b (h' q b m).1, (h' q b m).2.1, (h' q b m).2.2⟩) s2
    refine ⟨?_, fun q b m => ?_, fun q b q' b' m m' hq => ?_⟩
    · show p :: (redA ps).map (·.1) = p :: ps.map (·.1)
      rw [ih.heads]
    · rcases List.mem_cons.mp m with e | m
      · cases e
        refine ⟨lower_in hL ps a la fun q b m => (h' q b m).1, fun i hi => ?_, a, List.mem_cons_self .., k2 p fun q b m => s1 (q, b) m⟩
        rw [k2 i fun q b m => Nat.lt_trans hi (s1 (q, b) m)]
        exact za i hi
      · obtain ⟨g1, g2, c, g3, g4⟩ := ih.row q b m
        exact ⟨g1, g2, c, List.mem_cons_of_mem _ g3, g4⟩
    · rcases List.mem_cons.mp m with e | m
      · cases e
        rcases List.mem_cons.mp m' with e' | m'
        · cases e'; omega
        · obtain ⟨_, _, c, g3, g4⟩ := ih.row q' b' m'
          rw [g4]
          exact k3 q' c g3
      · rcases List.mem_cons.mp m' with e' | m'
        · cases e'
          obtain ⟨_, _, c, g3, _⟩ := ih.row q b m
          have := s1 (q, c) g3
          omega
        · exact ih.red q b q' b' m m' hq
theorem redB_rd (hL : Lat w L) : ∀ (ps : Ps), ps.Pairwise (fun x y => x.1 < y.1) → (∀ p a, (p, a) ∈ ps → L a ∧ Z p a ∧ 0 < nth a p) → Rd w L ps (redB ps)
  | [], _, _ => ⟨rfl, fun _ _ m => (nomatch m), fun _ _ _ _ m => (nomatch m)⟩
  | (p, a) :: ps, hs, h => by
    obtain ⟨s1, s2⟩ := List.pairwise_cons.mp hs
    have h' : ∀ q b, (q, b) ∈ ps → L b ∧ Z q b ∧ 0 < nth b q := fun q b m => h q b (List.mem_cons_of_mem _ m)
    have ih := redB_rd hL ps s2 h'
    obtain ⟨la, za, pa⟩ := h p a (List.mem_cons_self ..)
    have s3 : ∀ q b, (q, b) ∈ redB ps → p < q := fun q b m => by
      obtain ⟨_, _, c, g3, _⟩ := ih.row q b m
      exact s1 (q, c) g3
    obtain ⟨k1, k2, k3⟩ := lower_spec (redB ps) a w (hL.len a la) (fun q b m => by
      obtain ⟨g1, g2, c, g3, g4⟩ := ih.row q b m
      exact ⟨hL.len b g1, g2, by rw [g4]; exact (h' q c g3).2.2⟩) (by rw [sorted_fst, ih.heads, ← sorted_fst]; exact s2)
    refine ⟨?_, fun q b m => ?_, fun q b q' b' m m' hq => ?_⟩
    · show p :: (redB ps).map (·.1) = p :: ps.map (·.1)
      rw [ih.heads]
    · rcases List.mem_cons.mp m with e | m
      · cases e
        refine ⟨lower_in hL (redB ps) a la fun q b m => (ih.row q b m).1, fun i hi => ?_, a, List.mem_cons_self .., k2 p fun q b m => s3 q b m⟩
        rw [k2 i fun q b m => Nat.lt_trans hi (s3 q b m)]
        exact za i hi
      · obtain ⟨g1, g2, c, g3, g4⟩ := ih.row q b m
        exact ⟨g1, g2, c, List.mem_cons_of_mem _ g3, g4⟩
    · rcases List.mem_cons.mp m with e | m
      · cases e
        rcases List.mem_cons.mp m' with e' | m'
        · cases e'; omega
        · exact k3 q' b' m'
      · rcases List.mem_cons.mp m' with e' | m'
        · cases e'
          have := s3 q b m
          omega
        · exact ih.red q b q' b' m m' hq
end
/-- sizes: a column makes 4 e + 2 of e bits -/
def ex (e : Nat) : Nat → Nat
  | 0 => e
  | n + 1 => 4 * ex e n + 2
theorem ex_le (e : Nat) : ∀ {m n : Nat}, m ≤ n → ex e m ≤ ex e n := by
  intro m n h
  induction h with
  | refl => exact Nat.le_refl _
  | step _ ih => exact Nat.le_trans ih (by show _ ≤ 4 * ex e _ + 2; omega)
/-- lowering by heads of H bits -/
theorem low1_bits {v : Vec} {x : Nat × Vec} {b H : Nat} (hv : Bb b v) (hx : Bb H x.2) (hp : 0 < nth x.2 x.1) : Bb (b + H + 1) (low1 v x) := by
  intro z hz
  obtain ⟨a, c, ha, hc, rfl⟩ := mem_sub1 hz
  have q := (fdiv_facts (s := nth v x.1) hp).2.2.2
  have q2 := hv.nth x.1
  have h1 := hv a ha
  have h2 := hx c hc
  generalize (nth v x.1).fdiv (nth x.2 x.1) = k at *
  have t1 := Int.natAbs_sub_le a (c * k)
  rw [Int.natAbs_mul] at t1
  have t2 : c.natAbs * k.natAbs ≤ 2 ^ H * 2 ^ b := Nat.mul_le_mul (Nat.le_of_lt h2) (by omega)
  have e1 : 2 ^ (b + H + 1) = 2 ^ H * 2 ^ b * 2 := by rw [Nat.pow_succ, Nat.pow_add, Nat.mul_comm (2 ^ b)]
  have e2 : 2 ^ b ≤ 2 ^ H * 2 ^ b := Nat.le_mul_of_pos_left _ (Nat.two_pow_pos _)
  omega
end ML
end
section
namespace VP
open VM ML
/-- a vector written as a tuple or as a list -/
def encV (p : Bool × Vec) : PV := if p.1 then itup p.2 else ilst p.2
/-- a list or tuple of vectors -/
def VecsOf (st : Store) (vv : PV) (ys : List (Bool × Vec)) : Prop := items st vv = some (ys.map encV) ∧ isSeq st vv = true ∧ bLen vv st = some ys.length ∧ ∀ st', stays st vv st' → True
theorem seq_enc {st : Store} (p : Bool × Vec) : seqOf st (encV p) = some (pvis p.2) ∧ sq st (encV p) = some (pvis p.2) ∧ items st (encV p) = some (pvis p.2) ∧ bLen (encV p) st = some p.2.length := by
  obtain ⟨b, v⟩ := p
  cases b <;> simp [encV, seqOf, sq, asL, items, bLen]
abbrev hd (x : Nat × Vec) : PV := .tup [.int (x.1 : Nat), ilst x.2]
def EchR (w wd e : Nat) (vs : List Vec) (ps : Ps) (rest : List Vec) : Prop := Ech w (Span w vs) wd ps rest ∧ (∀ p a, (p, a) ∈ ps → Bb (ex e wd) a) ∧ (∀ r ∈ rest, Bb (ex e wd) r) ∧ ps.length ≤ wd ∧ rest.length ≤ vs.length
def SpEch (cs : CS) : Prop := ∀ (vv : PV) (ys : List (Bool × Vec)) (w wd e : Nat) (st : Store) (k x : KV), items st vv = some (ys.map encV) → isSeq st vv = true → stays st vv st → Len w (ys.map (·.2)) → (∀ r ∈ ys.map (·.2), Bb e r) → wd ≤ w → w ≤ 1000 → ys.length ≤ 1000 → 8 * ex e wd + 10 ≤ 100000000 →
  (∀ ps rest, EchR w wd e (ys.map (·.2)) ps rest → k (.tup [.lst (ps.map hd), rl rest]) st) → cs 9 [vv, .int wd] st k x
theorem Bb.neg {e : Nat} {v : Vec} (h : Bb e v) : Bb e (v.map fun a => a * -1) := fun z hz => by
  obtain ⟨a, ha, rfl⟩ := List.mem_map.mp hz
  have := h a ha
  omega
theorem nth_neg (v : Vec) (i : Nat) : nth (v.map fun a => a * -1) i = - nth v i := by
  unfold nth
  rw [List.getD_eq_getElem?_getD, List.getD_eq_getElem?_getD, List.getElem?_map]
  cases v[i]? with
  | none => simp
  | some a => simp
theorem neg_sub {v : Vec} {w : Nat} (h : v.length = w) : v.map (fun a => a * -1) = sub1 (zv w) v 1 := by
  have hl : (zv w).length = v.length := by simp [zv, h]
  refine vext (by rw [sub1_len hl, List.length_map]; exact hl.symm) fun i _ => ?_
  rw [nth_neg, nth_sub1 hl, nth_zv]
  omega
theorem neg_neg' (v : Vec) : (v.map fun a => a * -1).map (fun a => a * -1) = v := by
  rw [List.map_map]
  have : ((fun a : Int => a * -1) ∘ fun a => a * -1) = id := funext fun a => by simp
  rw [this, List.map_id]
set_option maxHeartbeats 1000000 in
theorem ech_at {FT : Nat → Option FD} {d : Nat} (hF : FT 9 = some ⟨2, 8, T_echelon⟩) (h1 : At FT d SpCleared) (h2 : At FT d SpTimes) : At FT (d + 1) SpEch := at_of (C := fun cs => SpCleared cs ∧ SpTimes cs) hF (fun n hn => ⟨h1 n hn, h2 n hn⟩) fun cs cs' C go => by
  obtain ⟨cl, tm⟩ := C
  intro vv ys w wd e st k x hi hq hst hl hb hwd hw hy hs hk
  refine go _ _ _ _ rfl ?_
  have hL := span_lat hl
  have h0 : Span w (ys.map (·.2)) (zv w) := .zero
  simp only [T_echelon, VM.sNil, VM.sCons, VM.sSet, VM.sPar, VM.sSetIx, VM.setIx, VM.sExpr, VM.sRet, VM.sRetN, VM.sIf, VM.sBreak, VM.sCont, VM.sFor, VM.gName, VM.gTup, VM.gEach, VM.eVar, VM.eC, VM.eBin, VM.eNeg, VM.eCmp, VM.eChain, VM.tOf, VM.tCmp, VM.tChain, VM.tAnd, VM.tOr, VM.tNot, VM.tYes, VM.eTest, VM.eAnd, VM.eOr, VM.eNot, VM.eIf, VM.aNil, VM.aCons, VM.eLst, VM.eLstM, VM.eTup, VM.eCall, VM.eIx, VM.eSl, VM.iE, VM.iRange1, VM.iRange2, VM.iZip, VM.iRev, VM.eComp, VM.eCompM, VM.eAppend, VM.eInsert, VM.eB1, VM.fLen, VM.fAbs, VM.fInt, VM.fList, VM.fListM, VM.fTuple, VM.fSum, VM.fAll, VM.fAny, VM.fIsi, VM.opBin, VM.opAdd, VM.opSub, VM.opMul, VM.opFdiv, VM.opMod, VM.opPow, VM.opCm, VM.frz, VM.isD, VM.eqv, VM.isNon, VM.D0, VM.turn, List.map_cons, List.map_nil, List.replicate_succ, List.replicate_zero, List.cons_append, List.nil_append, List.getElem?_cons_zero, List.getElem?_cons_succ, List.set_cons_zero, List.set_cons_succ, Nat.reduceSub, VM.wipe, List.length_cons, List.length_nil, Nat.reduceAdd, hi, hq]
  refine ⟨trivial, comp_of encV (fun p => some (ilst p.2)) hst ys (fun p m k' hk' => ?_) (by show _ ≤ 16777216; omega) ?_⟩
  · simp only [VM.sNil, VM.sCons, VM.sSet, VM.sPar, VM.sSetIx, VM.setIx, VM.sExpr, VM.sRet, VM.sRetN, VM.sIf, VM.sBreak, VM.sCont, VM.sFor, VM.gName, VM.gTup, VM.gEach, VM.eVar, VM.eC, VM.eBin, VM.eNeg, VM.eCmp, VM.eChain, VM.tOf, VM.tCmp, VM.tChain, VM.tAnd, VM.tOr, VM.tNot, VM.tYes, VM.eTest, VM.eAnd, VM.eOr, VM.eNot, VM.eIf, VM.aNil, VM.aCons, VM.eLst, VM.eLstM, VM.eTup, VM.eCall, VM.eIx, VM.eSl, VM.iE, VM.iRange1, VM.iRange2, VM.iZip, VM.iRev, VM.eComp, VM.eCompM, VM.eAppend, VM.eInsert, VM.eB1, VM.fLen, VM.fAbs, VM.fInt, VM.fList, VM.fListM, VM.fTuple, VM.fSum, VM.fAll, VM.fAny, VM.fIsi, VM.opBin, VM.opAdd, VM.opSub, VM.opMul, VM.opFdiv, VM.opMod, VM.opPow, VM.opCm, VM.frz, VM.isD, VM.eqv, VM.isNon, VM.D0, VM.turn, List.map_cons, List.map_nil, List.replicate_succ, List.replicate_zero, List.cons_append, List.nil_append, List.getElem?_cons_zero, List.getElem?_cons_succ, List.set_cons_zero, List.set_cons_succ, Nat.reduceSub, VM.wipe, List.length_cons, List.length_nil, Nat.reduceAdd, (seq_enc p).1, if_true]
    exact hk'
  have e1 : ys.filterMap (fun p => some (ilst p.2)) = (ys.map (·.2)).map ilst := by
    rw [show (fun p : Bool × Vec => some (ilst p.2)) = some ∘ (fun p => ilst p.2) from rfl, List.filterMap_eq_map, List.map_map]
    rfl
  rw [e1]
  refine ⟨by decide, by unfold i62; omega, ?_⟩
  simp only [Int.toNat_natCast]
  refine for_inv (fun rem ρ st' => st' = st ∧ ∃ (a3 a5 a6 a7 : Option PV) (ps : Ps) (rest : List Vec) (pre : List PV), ρ = [some vv, some (.int wd), some (rl rest), a3, some (.lst (ps.map hd)), a5, a6, a7] ∧ pre ++ rem = ((List.range wd).map fun (i : Nat) => PV.int (i : Int)) ∧
    Ech w (Span w (ys.map (·.2))) pre.length ps rest ∧ (∀ p a, (p, a) ∈ ps → Bb (ex e pre.length) a) ∧ (∀ r ∈ rest, Bb (ex e pre.length) r) ∧ ps.length ≤ pre.length ∧ rest.length ≤ ys.length) ?_ ?_ _ _ _ ⟨rfl, _, _, _, _, [], ys.map (·.2), [], rfl, rfl, ech_start hl, fun _ _ m => (nomatch m), hb, Nat.le_refl _, by simp⟩
  · rintro v rem ρ st' ⟨rfl, a3, a5, a6, a7, ps, rest, pre, rfl, hp, E, b1, b2, l1, l2⟩
    refine ⟨trivial, fun D' d1 d2 d3 d4 d5 => ?_⟩
    obtain ⟨rfl, hn⟩ := range_split hp
    have hE : ex e (pre.length + 1) ≤ ex e wd := ex_le e hn
    have hE2 : ex e (pre.length + 1) = 4 * ex e pre.length + 2 := rfl
    simp only [VM.sNil, VM.sCons, VM.sSet, VM.sPar, VM.sSetIx, VM.setIx, VM.sExpr, VM.sRet, VM.sRetN, VM.sIf, VM.sBreak, VM.sCont, VM.sFor, VM.gName, VM.gTup, VM.gEach, VM.eVar, VM.eC, VM.eBin, VM.eNeg, VM.eCmp, VM.eChain, VM.tOf, VM.tCmp, VM.tChain, VM.tAnd, VM.tOr, VM.tNot, VM.tYes, VM.eTest, VM.eAnd, VM.eOr, VM.eNot, VM.eIf, VM.aNil, VM.aCons, VM.eLst, VM.eLstM, VM.eTup, VM.eCall, VM.eIx, VM.eSl, VM.iE, VM.iRange1, VM.iRange2, VM.iZip, VM.iRev, VM.eComp, VM.eCompM, VM.eAppend, VM.eInsert, VM.eB1, VM.fLen, VM.fAbs, VM.fInt, VM.fList, VM.fListM, VM.fTuple, VM.fSum, VM.fAll, VM.fAny, VM.fIsi, VM.opBin, VM.opAdd, VM.opSub, VM.opMul, VM.opFdiv, VM.opMod, VM.opPow, VM.opCm, VM.frz, VM.isD, VM.eqv, VM.isNon, VM.D0, VM.turn, List.map_cons, List.map_nil, List.replicate_succ, List.replicate_zero, List.cons_append, List.nil_append, List.getElem?_cons_zero, List.getElem?_cons_succ, List.set_cons_zero, List.set_cons_succ, Nat.reduceSub, VM.wipe, List.length_cons, List.length_nil, Nat.reduceAdd]
    refine cl rest w pre.length (ex e pre.length) _ _ _ E.lr b2 (by omega) hw (by omega) (by omega) fun left rest' R => ?_
    obtain ⟨c, hlen, _⟩ := R
    have lr' : Len w rest' := fun r m => c.lw r (List.mem_append_right _ m)
    have br : ∀ r ∈ rest', Bb (ex e (pre.length + 1)) r := c.br
    have cnt := c.cnt
    simp only [VM.sNil, VM.sCons, VM.sSet, VM.sPar, VM.sSetIx, VM.setIx, VM.sExpr, VM.sRet, VM.sRetN, VM.sIf, VM.sBreak, VM.sCont, VM.sFor, VM.gName, VM.gTup, VM.gEach, VM.eVar, VM.eC, VM.eBin, VM.eNeg, VM.eCmp, VM.eChain, VM.tOf, VM.tCmp, VM.tChain, VM.tAnd, VM.tOr, VM.tNot, VM.tYes, VM.eTest, VM.eAnd, VM.eOr, VM.eNot, VM.eIf, VM.aNil, VM.aCons, VM.eLst, VM.eLstM, VM.eTup, VM.eCall, VM.eIx, VM.eSl, VM.iE, VM.iRange1, VM.iRange2, VM.iZip, VM.iRev, VM.eComp, VM.eCompM, VM.eAppend, VM.eInsert, VM.eB1, VM.fLen, VM.fAbs, VM.fInt, VM.fList, VM.fListM, VM.fTuple, VM.fSum, VM.fAll, VM.fAny, VM.fIsi, VM.opBin, VM.opAdd, VM.opSub, VM.opMul, VM.opFdiv, VM.opMod, VM.opPow, VM.opCm, VM.frz, VM.isD, VM.eqv, VM.isNon, VM.D0, VM.turn, List.map_cons, List.map_nil, List.replicate_succ, List.replicate_zero, List.cons_append, List.nil_append, List.getElem?_cons_zero, List.getElem?_cons_succ, List.set_cons_zero, List.set_cons_succ, Nat.reduceSub, VM.wipe, List.length_cons, List.length_nil, Nat.reduceAdd]
    refine ⟨trivial, ?_⟩
    match left, hlen, c with
    | [], _, c =>
      simp only [VM.sNil, VM.sCons, VM.sSet, VM.sPar, VM.sSetIx, VM.setIx, VM.sExpr, VM.sRet, VM.sRetN, VM.sIf, VM.sBreak, VM.sCont, VM.sFor, VM.gName, VM.gTup, VM.gEach, VM.eVar, VM.eC, VM.eBin, VM.eNeg, VM.eCmp, VM.eChain, VM.tOf, VM.tCmp, VM.tChain, VM.tAnd, VM.tOr, VM.tNot, VM.tYes, VM.eTest, VM.eAnd, VM.eOr, VM.eNot, VM.eIf, VM.aNil, VM.aCons, VM.eLst, VM.eLstM, VM.eTup, VM.eCall, VM.eIx, VM.getIx, VM.eSl, VM.getSl, VM.iE, VM.iRange1, VM.iRange2, VM.iZip, VM.iRev, VM.eComp, VM.eCompM, VM.eAppend, VM.eInsert, VM.eB1, VM.fLen, VM.fAbs, VM.fInt, VM.fList, VM.fListM, VM.fTuple, VM.fSum, VM.fAll, VM.fAny, VM.fIsi, VM.bLen, VM.seqOf, VM.sq, VM.asL, VM.items, VM.isSeq, VM.truth, VM.opBin, VM.opAdd, VM.opSub, VM.opMul, VM.opFdiv, VM.opMod, VM.opPow, VM.opCm, VM.opEq, VM.frz, VM.isD, VM.eqv, VM.isNon, VM.kdOf, VM.D0, VM.turn, List.map_cons, List.map_nil, List.replicate_succ, List.replicate_zero, List.cons_append, List.nil_append, List.getElem?_cons_zero, List.getElem?_cons_succ, List.set_cons_zero, List.set_cons_succ, Nat.reduceSub, VM.wipe, List.length_cons, List.length_nil, Nat.reduceAdd, isDL, eqvL]
      refine ⟨(by first | trivial | decide | simp [VM.isDL, VM.isD]), (by first | trivial | decide | simp [VM.isDL, VM.isD]), ?_⟩
      simp only [Bool.not_true, Bool.false_eq_true, if_false]
      refine ⟨(by first | trivial | decide | simp [VM.isDL, VM.isD]), ?_⟩
      refine d4 _ _ ⟨rfl, _, _, _, _, ps, rest', pre ++ [.int pre.length], rfl, by simpa using hp, ?_⟩
      rw [List.length_append, List.length_singleton]
      refine ⟨E.none hL h0 lr' (fun r m => c.s1 r (by simpa using m)) (fun r m => by simpa using c.s2 r m) c.zr, fun p a m => (b1 p a m).mono (ex_le e (Nat.le_succ _)), br, by omega, by simp at cnt; omega⟩
    | [row], _, c =>
      have hrw : row.length = w := c.lw row (by simp)
      have nz := c.nz row (by simp)
      have bs := c.small row (by simp)
      obtain ⟨x1, x2⟩ := ixv (v := row) (at_ := pre.length) (by omega)
      have x0 : ix 1 0 = some 0 := rfl
      have fin : ∀ (a : Vec) (q3 : Option PV), a = row ∨ a = row.map (fun z => z * -1) → 0 < nth a pre.length → D'.nx [some vv, some (.int wd), some (rl rest'), a3, some (.lst (ps.map hd ++ [hd (pre.length, a)])), some (.int pre.length), some (rl [row]), some (ilst a)] st' := by
        intro a q3 ha hpos
        have la : a.length = w := by rcases ha with rfl | rfl <;> simp [hrw]
        have ba : Bb (ex e (pre.length + 1)) a := by
          rcases ha with rfl | rfl
          · exact bs.mono (by omega)
          · exact (Bb.neg bs).mono (by omega)
        have LA : Len w (a :: rest') := fun r m => by
          rcases List.mem_cons.mp m with rfl | m
          · exact la
          · exact lr' r m
        have s1 : ∀ r ∈ a :: rest', Span w rest r := fun r m => by
          rcases List.mem_cons.mp m with rfl | m
          · have := c.s1 row (by simp)
            rcases ha with rfl | rfl
            · exact this
            · rw [neg_sub hrw]; exact Span.sub E.lr .zero this 1
          · exact c.s1 r (by simp [m])
        have s2 : ∀ r ∈ rest, Span w (a :: rest') r := fun r m => by
          refine Span.mono LA (fun v mv => ?_) (c.s2 r m)
          have mv' : v = row ∨ v ∈ rest' := by simpa using mv
          rcases mv' with rfl | mv'
          · have ma : Span w (a :: rest') a := Span.mem LA (List.mem_cons_self ..)
            rcases ha with rfl | rfl
            · exact ma
            · have := Span.sub LA .zero ma 1
              rw [← neg_sub (w := w) (by simp [hrw]), neg_neg'] at this
              exact this
          · exact Span.mem LA (List.mem_cons_of_mem _ mv')
        refine d4 _ _ ⟨rfl, _, _, _, _, ps ++ [(pre.length, a)], rest', pre ++ [.int pre.length], by rw [List.map_append]; rfl, by simpa using hp, ?_⟩
        rw [List.length_append, List.length_singleton]
        refine ⟨E.some hL h0 LA s1 s2 c.zr hpos, fun p a' m => ?_, br, by rw [List.length_append, List.length_singleton]; omega, by simp at cnt; omega⟩
        rcases List.mem_append.mp m with m | m
        · exact (b1 p a' m).mono (ex_le e (Nat.le_succ _))
        · cases List.mem_singleton.mp m
          exact ba
      have hps : (ps.map hd).length + 1 ≤ SZ := by rw [List.length_map]; show _ ≤ 16777216; omega
      simp only [VM.sNil, VM.sCons, VM.sSet, VM.sPar, VM.sSetIx, VM.setIx, VM.sExpr, VM.sRet, VM.sRetN, VM.sIf, VM.sBreak, VM.sCont, VM.sFor, VM.gName, VM.gTup, VM.gEach, VM.eVar, VM.eC, VM.eBin, VM.eNeg, VM.eCmp, VM.eChain, VM.tOf, VM.tCmp, VM.tChain, VM.tAnd, VM.tOr, VM.tNot, VM.tYes, VM.eTest, VM.eAnd, VM.eOr, VM.eNot, VM.eIf, VM.aNil, VM.aCons, VM.eLst, VM.eLstM, VM.eTup, VM.eCall, VM.eIx, VM.getIx, VM.eSl, VM.getSl, VM.iE, VM.iRange1, VM.iRange2, VM.iZip, VM.iRev, VM.eComp, VM.eCompM, VM.eAppend, VM.eInsert, VM.eB1, VM.fLen, VM.fAbs, VM.fInt, VM.fList, VM.fListM, VM.fTuple, VM.fSum, VM.fAll, VM.fAny, VM.fIsi, VM.bLen, VM.seqOf, VM.sq, VM.asL, VM.items, VM.isSeq, VM.truth, VM.opBin, VM.opAdd, VM.opSub, VM.opMul, VM.opFdiv, VM.opMod, VM.opPow, VM.opCm, VM.opEq, VM.frz, VM.isD, VM.eqv, VM.isNon, VM.kdOf, VM.D0, VM.turn, List.map_cons, List.map_nil, List.replicate_succ, List.replicate_zero, List.cons_append, List.nil_append, List.getElem?_cons_zero, List.getElem?_cons_succ, List.set_cons_zero, List.set_cons_succ, Nat.reduceSub, VM.wipe, List.length_cons, List.length_nil, Nat.reduceAdd, isDL, eqvL, ilst, isDL_ints, x0, x1, x2]
      refine ⟨(by first | trivial | decide | simp [VM.isDL, VM.isD]), (by first | trivial | decide | simp [VM.isDL, VM.isD]), ?_⟩
      simp only [Bool.not_false, if_true]
      refine ⟨(by first | trivial | decide | simp [VM.isDL, VM.isD]), ?_⟩
      by_cases hneg : nth row pre.length < 0
      · simp only [hneg, decide_true, if_true]
        refine tm row (-1) _ _ _ (fun b mb => mulOk_of (bs b mb) (b := 1) (by decide) (by omega) (by decide) (by omega)) (by rw [hrw]; show _ ≤ 16777216; omega) ?_
        refine ⟨by decide, by decide, hps, ?_⟩
        have := fin (row.map fun z => z * -1) none (.inr rfl) (by rw [nth_neg]; omega)
        exact this
      · simp only [hneg, decide_false, Bool.false_eq_true, if_false]
        refine ⟨by decide, by decide, hps, ?_⟩
        exact fin row none (.inl rfl) (by omega)
  · rintro ρ st' ⟨rfl, a3, a5, a6, a7, ps, rest, pre, rfl, hp, E, b1, b2, l1, l2⟩
    rw [List.append_nil] at hp
    have hpl := range_pre hp
    rw [hpl] at E b1 b2 l1
    refine ⟨trivial, ?_⟩
    simp only [VM.sNil, VM.sCons, VM.sSet, VM.sPar, VM.sSetIx, VM.setIx, VM.sExpr, VM.sRet, VM.sRetN, VM.sIf, VM.sBreak, VM.sCont, VM.sFor, VM.gName, VM.gTup, VM.gEach, VM.eVar, VM.eC, VM.eBin, VM.eNeg, VM.eCmp, VM.eChain, VM.tOf, VM.tCmp, VM.tChain, VM.tAnd, VM.tOr, VM.tNot, VM.tYes, VM.eTest, VM.eAnd, VM.eOr, VM.eNot, VM.eIf, VM.aNil, VM.aCons, VM.eLst, VM.eLstM, VM.eTup, VM.eCall, VM.eIx, VM.getIx, VM.eSl, VM.getSl, VM.iE, VM.iRange1, VM.iRange2, VM.iZip, VM.iRev, VM.eComp, VM.eCompM, VM.eAppend, VM.eInsert, VM.eB1, VM.fLen, VM.fAbs, VM.fInt, VM.fList, VM.fListM, VM.fTuple, VM.fSum, VM.fAll, VM.fAny, VM.fIsi, VM.bLen, VM.seqOf, VM.sq, VM.asL, VM.items, VM.isSeq, VM.truth, VM.opBin, VM.opAdd, VM.opSub, VM.opMul, VM.opFdiv, VM.opMod, VM.opPow, VM.opCm, VM.opEq, VM.frz, VM.isD, VM.eqv, VM.isNon, VM.kdOf, VM.D0, VM.turn, List.map_cons, List.map_nil, List.replicate_succ, List.replicate_zero, List.cons_append, List.nil_append, List.getElem?_cons_zero, List.getElem?_cons_succ, List.set_cons_zero, List.set_cons_succ, Nat.reduceSub, VM.wipe, List.length_cons, List.length_nil, Nat.reduceAdd]
    exact ⟨by decide, hk ps rest ⟨E, b1, b2, l1, by simpa using l2⟩⟩
end VP
end
section
namespace VP
open VM ML
theorem sq_facts {st : Store} {u : PV} {xs : List PV} (h : sq st u = some xs) : items st u = some xs ∧ isSeq st u = true ∧ bLen u st = some xs.length ∧ ∀ (i : Int) (n : Nat) (y : PV) (k : KV), ix xs.length i = some n → xs[n]? = some y → k y st → getIx u (.int i) st k := by
  by_cases ht : ∃ ys, u = .tup ys
  · obtain ⟨ys, rfl⟩ := ht
    cases h
    refine ⟨rfl, rfl, rfl, fun i n y k h1 h2 h3 => ?_⟩
    simp only [getIx, h1, h2]
    exact h3
  · have h2 : asL st u = some xs := by
      cases u <;> first | exact h | exact (ht ⟨_, rfl⟩).elim
    exact ⟨(items_asL h2).1, (items_asL h2).2, bLen_asL h2, fun i n y k h3 h4 h5 => getIx_asL h2 h3 h4 h5⟩
theorem stays_self (u : PV) (st : Store) : stays st u st := by cases u <;> first | trivial | rfl
theorem slc_drop {α : Type} (xs : List α) (n : Nat) : slc xs (some (n : Int)) none = xs.drop n := by
  unfold slc cutIx
  simp only []
  rw [if_neg (by omega), Int.toNat_natCast]
  by_cases h : n ≤ xs.length
  · rw [Nat.min_eq_left h]
    exact List.take_of_length_le (by rw [List.length_drop]; omega)
  · rw [Nat.min_eq_right (by omega), List.drop_length, List.drop_of_length_le (by omega)]
    simp
theorem redA_get : ∀ (ps : Ps) (i : Nat) (p : Nat) (a : Vec), ps[i]? = some (p, a) → (redA ps)[i]? = some (p, lower a (ps.drop (i + 1)))
  | [], _, _, _, h => by simp at h
  | (q, b) :: ps, 0, p, a, h => by
    simp at h
    obtain ⟨rfl, rfl⟩ := h
    simp [redA]
  | (q, b) :: ps, i + 1, p, a, h => by
    have := redA_get ps i p a (by simpa using h)
    simpa [redA] using this
theorem redA_len : ∀ ps : Ps, (redA ps).length = ps.length
  | [] => rfl
  | (q, b) :: ps => by simp [redA, redA_len ps]
theorem form_nil {w : Nat} : Form w (Span w []) [] where
  sorted := List.Pairwise.nil
  row := fun _ _ m => nomatch m
  div := fun p v _ hv _ => ⟨fun _ m => (nomatch m), fun _ => by
    cases hv with
    | zero => exact nth_zv
    | step _ _ m => cases m⟩
  pos := fun _ _ m => nomatch m
  red := fun _ _ _ _ m => nomatch m
abbrev formV (ps : Ps) : PV := .lst (ps.map fun x => itup x.2)
def SpReduced (cs : CS) : Prop := ∀ (vv : PV) (ys : List (Bool × Vec)) (w e : Nat) (st : Store) (k x : KV), sq st vv = some (ys.map encV) → Len w (ys.map (·.2)) → (∀ r ∈ ys.map (·.2), Bb e r) → w ≤ 1000 → ys.length ≤ 1000 → (2 * w + 10) * (ex e w + 1) ≤ 100000000 →
  (∀ ps, Form w (Span w (ys.map (·.2))) ps → (∀ p a, (p, a) ∈ ps → Bb ((w + 1) * (ex e w + 1)) a) → k (formV ps) st) → cs 10 [vv] st k x
theorem low_bits {H : Nat} : ∀ (qs : Ps) (v : Vec) (j : Nat), Bb ((j + 1) * (H + 1)) v → (∀ p a, (p, a) ∈ qs → Bb H a ∧ 0 < nth a p) → Bb ((j + qs.length + 1) * (H + 1)) (lower v qs)
  | [], v, j, h, _ => h
  | (p, a) :: qs, v, j, h, hq => by
    have ha := hq p a (List.mem_cons_self ..)
    have h1 : Bb ((j + 1 + 1) * (H + 1)) (low1 v (p, a)) := (low1_bits (x := (p, a)) h ha.1 ha.2).mono (by rw [Nat.add_mul (j + 1) 1, Nat.one_mul]; omega)
    have h2 := low_bits qs (low1 v (p, a)) (j + 1) h1 fun q b m => hq q b (List.mem_cons_of_mem _ m)
    rw [List.length_cons, show j + (qs.length + 1) + 1 = j + 1 + qs.length + 1 by omega]
    exact h2
set_option maxHeartbeats 1000000 in
theorem reduced_at {FT : Nat → Option FD} {d : Nat} (hF : FT 10 = some ⟨1, 8, T_reduced⟩) (h1 : At FT d SpEch) (h2 : At FT d SpMinus) : At FT (d + 1) SpReduced := at_of (C := fun cs => SpEch cs ∧ SpMinus cs) hF (fun n hn => ⟨h1 n hn, h2 n hn⟩) fun cs cs' C go => by
  obtain ⟨ec, mn⟩ := C
  intro vv ys w e st k x hq hl hb hw hy hs hk
  refine go _ _ _ _ rfl ?_
  obtain ⟨f1, f2, f3, f4⟩ := sq_facts hq
  rw [List.length_map] at f3
  simp only [T_reduced, VM.sNil, VM.sCons, VM.sSet, VM.sPar, VM.sSetIx, VM.setIx, VM.sExpr, VM.sRet, VM.sRetN, VM.sIf, VM.sBreak, VM.sCont, VM.sFor, VM.gName, VM.gTup, VM.gEach, VM.eVar, VM.eC, VM.eBin, VM.eNeg, VM.eCmp, VM.eChain, VM.tOf, VM.tCmp, VM.tChain, VM.tAnd, VM.tOr, VM.tNot, VM.tYes, VM.eTest, VM.eAnd, VM.eOr, VM.eNot, VM.eIf, VM.aNil, VM.aCons, VM.eLst, VM.eLstM, VM.eTup, VM.eCall, VM.eIx, VM.eSl, VM.iE, VM.iRange1, VM.iRange2, VM.iZip, VM.iRev, VM.eComp, VM.eCompM, VM.eAppend, VM.eInsert, VM.eB1, VM.fLen, VM.fAbs, VM.fInt, VM.fList, VM.fListM, VM.fTuple, VM.fSum, VM.fAll, VM.fAny, VM.fIsi, VM.opBin, VM.opAdd, VM.opSub, VM.opMul, VM.opFdiv, VM.opMod, VM.opPow, VM.opCm, VM.frz, VM.isD, VM.eqv, VM.isNon, VM.D0, VM.turn, List.map_cons, List.map_nil, List.replicate_succ, List.replicate_zero, List.cons_append, List.nil_append, List.getElem?_cons_zero, List.getElem?_cons_succ, List.set_cons_zero, List.set_cons_succ, Nat.reduceSub, VM.wipe, List.length_cons, List.length_nil, Nat.reduceAdd, f3, VM.opEq, VM.frz, VM.isD, VM.eqv]
  refine ⟨(by first | trivial | decide | simp [VM.isDL, VM.isD]), (by first | trivial | decide | simp [VM.isDL, VM.isD]), ?_⟩
  by_cases h0 : ys = []
  · subst h0
    simp only [List.length_nil]
    refine (if_pos rfl).mpr' ⟨by decide, ?_⟩
    exact hk [] form_nil fun _ _ m => nomatch m
  have hn : ((ys.length : Int) == 0) = false := by
    rw [beq_eq_false_iff_ne]
    cases ys with
    | nil => exact (h0 rfl).elim
    | cons => simp; omega
  refine (if_neg (by rw [hn]; exact Bool.false_ne_true)).mpr' ?_
  obtain ⟨y0, yr, rfl⟩ : ∃ y0 yr, ys = y0 :: yr := by
    cases ys with
    | nil => exact (h0 rfl).elim
    | cons y r => exact ⟨y, r, rfl⟩
  generalize hys : y0 :: yr = ys at *
  have l0 : y0.2.length = w := hl y0.2 (by rw [← hys]; simp)
  have ylen : ys.length = yr.length + 1 := by rw [← hys]; simp
  show getIx vv (.int 0) st _
  refine f4 0 0 (encV y0) _ (by rw [List.length_map, ixN (by omega) (by omega)]; rfl) (by rw [← hys]; rfl) ?_
  simp only [VM.sNil, VM.sCons, VM.sSet, VM.sPar, VM.sSetIx, VM.setIx, VM.sExpr, VM.sRet, VM.sRetN, VM.sIf, VM.sBreak, VM.sCont, VM.sFor, VM.gName, VM.gTup, VM.gEach, VM.eVar, VM.eC, VM.eBin, VM.eNeg, VM.eCmp, VM.eChain, VM.tOf, VM.tCmp, VM.tChain, VM.tAnd, VM.tOr, VM.tNot, VM.tYes, VM.eTest, VM.eAnd, VM.eOr, VM.eNot, VM.eIf, VM.aNil, VM.aCons, VM.eLst, VM.eLstM, VM.eTup, VM.eCall, VM.eIx, VM.eSl, VM.iE, VM.iRange1, VM.iRange2, VM.iZip, VM.iRev, VM.eComp, VM.eCompM, VM.eAppend, VM.eInsert, VM.eB1, VM.fLen, VM.fAbs, VM.fInt, VM.fList, VM.fListM, VM.fTuple, VM.fSum, VM.fAll, VM.fAny, VM.fIsi, VM.opBin, VM.opAdd, VM.opSub, VM.opMul, VM.opFdiv, VM.opMod, VM.opPow, VM.opCm, VM.frz, VM.isD, VM.eqv, VM.isNon, VM.D0, VM.turn, List.map_cons, List.map_nil, List.replicate_succ, List.replicate_zero, List.cons_append, List.nil_append, List.getElem?_cons_zero, List.getElem?_cons_succ, List.set_cons_zero, List.set_cons_succ, Nat.reduceSub, VM.wipe, List.length_cons, List.length_nil, Nat.reduceAdd, (seq_enc y0).2.2.2, l0]
  have hE1 : 8 * ex e w + 10 ≤ 100000000 := by
    have : 10 * (ex e w + 1) ≤ (2 * w + 10) * (ex e w + 1) := Nat.mul_le_mul_right _ (by omega)
    omega
  refine ec vv ys w w e st _ _ f1 f2 (stays_self vv st) hl hb (Nat.le_refl _) hw hy hE1 fun ps rest R => ?_
  obtain ⟨E, b1, _, pl, _⟩ := R
  have tri := E.tri
  have hL := span_lat hl
  have hpos : ∀ p a, (p, a) ∈ ps → 0 < nth a p := fun p a m => (E.row p a m).2.2.2
  have RA := redA_rd hL ps E.sorted fun p a m => (E.row p a m).2
  have FM := RA.form tri hpos
  have la : ∀ p a, (p, a) ∈ ps → a.length = w := fun p a m => hL.len a (E.row p a m).2.1
  -- sizes
  generalize hH : ex e w = H at *
  have bits : ∀ i (hi : i < ps.length), ∀ m, m ≤ (ps.drop (i + 1)).length → Bb ((m + 1) * (H + 1)) (lower ps[i].2 ((ps.drop (i + 1)).take m)) := fun i hi m hm => by
    have h1 : Bb ((0 + 1) * (H + 1)) ps[i].2 := (b1 _ _ (List.getElem_mem hi)).mono (by omega)
    have := low_bits ((ps.drop (i + 1)).take m) ps[i].2 0 h1 fun p a mm => ⟨b1 p a (List.mem_of_mem_drop (List.mem_of_mem_take mm)), hpos p a (List.mem_of_mem_drop (List.mem_of_mem_take mm))⟩
    rw [List.length_take, Nat.min_eq_left hm, Nat.zero_add] at this
    exact this
  have bq : ∀ j, j ≤ w → (j + 1) * (H + 1) + (j + 1) * (H + 1) ≤ 100000000 := fun j hj => by
    have : (2 * j + 2) * (H + 1) ≤ (2 * w + 10) * (H + 1) := Nat.mul_le_mul_right _ (by omega)
    rw [← Nat.add_mul]
    have e1 : j + 1 + (j + 1) = 2 * j + 2 := by omega
    rw [e1]
    omega
  simp only [VM.sNil, VM.sCons, VM.sSet, VM.sPar, VM.sSetIx, VM.setIx, VM.sExpr, VM.sRet, VM.sRetN, VM.sIf, VM.sBreak, VM.sCont, VM.sFor, VM.gName, VM.gTup, VM.gEach, VM.eVar, VM.eC, VM.eBin, VM.eNeg, VM.eCmp, VM.eChain, VM.tOf, VM.tCmp, VM.tChain, VM.tAnd, VM.tOr, VM.tNot, VM.tYes, VM.eTest, VM.eAnd, VM.eOr, VM.eNot, VM.eIf, VM.aNil, VM.aCons, VM.eLst, VM.eLstM, VM.eTup, VM.eCall, VM.eIx, VM.getIx, VM.eSl, VM.getSl, VM.iE, VM.iRange1, VM.iRange2, VM.iZip, VM.iRev, VM.eComp, VM.eCompM, VM.eAppend, VM.eInsert, VM.eB1, VM.fLen, VM.fAbs, VM.fInt, VM.fList, VM.fListM, VM.fTuple, VM.fSum, VM.fAll, VM.fAny, VM.fIsi, VM.bLen, VM.seqOf, VM.sq, VM.asL, VM.items, VM.isSeq, VM.truth, VM.opBin, VM.opAdd, VM.opSub, VM.opMul, VM.opFdiv, VM.opMod, VM.opPow, VM.opCm, VM.opEq, VM.frz, VM.isD, VM.eqv, VM.isNon, VM.kdOf, VM.D0, VM.turn, List.map_cons, List.map_nil, List.replicate_succ, List.replicate_zero, List.cons_append, List.nil_append, List.getElem?_cons_zero, List.getElem?_cons_succ, List.set_cons_zero, List.set_cons_succ, Nat.reduceSub, VM.wipe, List.length_cons, List.length_nil, Nat.reduceAdd, List.length_map, Int.toNat_natCast]
  refine ⟨trivial, by decide, by unfold i62; omega, ?_⟩
  refine for_inv (fun rem ρ st' => st' = st ∧ ∃ (a4 a5 a6 a7 : Option PV) (pre : List PV), ρ = [some vv, some (.lst (ps.map hd)), some (rl rest), some (.lst (((redA ps).take pre.length).map fun x => itup x.2)), a4, a5, a6, a7] ∧ pre ++ rem = ((List.range ps.length).map fun (i : Nat) => PV.int (i : Int))) ?_ ?_ _ _ _ ⟨rfl, _, _, _, _, [], rfl, rfl⟩
  · rintro v rem ρ st' ⟨rfl, a4, a5, a6, a7, pre, rfl, hp⟩
    refine ⟨trivial, fun D' d1 d2 d3 d4 d5 => ?_⟩
    obtain ⟨rfl, hi⟩ := range_split hp
    have x0 : ix 2 1 = some 1 := rfl
    have xk : ix ps.length (pre.length : Int) = some pre.length := by rw [ixN (by omega) (by omega)]; simp
    have xg : (ps.map hd)[pre.length]? = some (hd ps[pre.length]) := by rw [List.getElem?_map, List.getElem?_eq_getElem hi]; rfl
    have xs : slc (ps.map hd) (some ((pre.length : Int) + 1)) none = (ps.drop (pre.length + 1)).map hd := by
      have : ((pre.length : Int) + 1) = ((pre.length + 1 : Nat) : Int) := by omega
      rw [this, slc_drop, List.map_drop]
    simp only [VM.sNil, VM.sCons, VM.sSet, VM.sPar, VM.sSetIx, VM.setIx, VM.sExpr, VM.sRet, VM.sRetN, VM.sIf, VM.sBreak, VM.sCont, VM.sFor, VM.gName, VM.gTup, VM.gEach, VM.eVar, VM.eC, VM.eBin, VM.eNeg, VM.eCmp, VM.eChain, VM.tOf, VM.tCmp, VM.tChain, VM.tAnd, VM.tOr, VM.tNot, VM.tYes, VM.eTest, VM.eAnd, VM.eOr, VM.eNot, VM.eIf, VM.aNil, VM.aCons, VM.eLst, VM.eLstM, VM.eTup, VM.eCall, VM.eIx, VM.getIx, VM.eSl, VM.getSl, VM.iE, VM.iRange1, VM.iRange2, VM.iZip, VM.iRev, VM.eComp, VM.eCompM, VM.eAppend, VM.eInsert, VM.eB1, VM.fLen, VM.fAbs, VM.fInt, VM.fList, VM.fListM, VM.fTuple, VM.fSum, VM.fAll, VM.fAny, VM.fIsi, VM.bLen, VM.seqOf, VM.sq, VM.asL, VM.items, VM.isSeq, VM.truth, VM.opBin, VM.opAdd, VM.opSub, VM.opMul, VM.opFdiv, VM.opMod, VM.opPow, VM.opCm, VM.opEq, VM.frz, VM.isD, VM.eqv, VM.isNon, VM.kdOf, VM.D0, VM.turn, List.map_cons, List.map_nil, List.replicate_succ, List.replicate_zero, List.cons_append, List.nil_append, List.getElem?_cons_zero, List.getElem?_cons_succ, List.set_cons_zero, List.set_cons_succ, Nat.reduceSub, VM.wipe, List.length_cons, List.length_nil, Nat.reduceAdd, List.length_map, xk, xg, hd, x0, xs]
    refine ⟨trivial, ?_⟩
    refine for_inv (fun rem2 ρ st2 => st2 = st' ∧ ∃ (a6 a7 : Option PV) (m : Nat), ρ = [some vv, some (.lst (ps.map hd)), some (rl rest), some (.lst (((redA ps).take pre.length).map fun x => itup x.2)), some (.int (pre.length : Nat)), some (ilst (lower ps[pre.length].2 ((ps.drop (pre.length + 1)).take m))), a6, a7] ∧ rem2 = ((ps.drop (pre.length + 1)).drop m).map hd ∧ m ≤ (ps.drop (pre.length + 1)).length) ?_ ?_ _ _ _ ⟨rfl, _, _, 0, rfl, rfl, Nat.zero_le _⟩
    · rintro v rem2 ρ st2 ⟨rfl, a6, a7, m, rfl, hr, hm⟩
      refine ⟨trivial, fun D2 g1 g2 g3 g4 g5 => ?_⟩
      have hmlt : m < (ps.drop (pre.length + 1)).length := by
        refine Classical.byContradiction fun hn => ?_
        rw [List.drop_of_length_le (by omega)] at hr
        cases hr
      rw [List.drop_eq_getElem_cons hmlt, List.map_cons] at hr
      obtain ⟨rfl, rfl⟩ := List.cons.inj hr
      generalize hph : (ps.drop (pre.length + 1))[m] = ph
      have mph : ph ∈ ps := by rw [← hph]; exact List.mem_of_mem_drop (List.getElem_mem hmlt)
      obtain ⟨pp, ha⟩ := ph
      have lha := la pp ha mph
      obtain ⟨r1, r2, r3, r4⟩ := E.row pp ha mph
      generalize hrow : lower ps[pre.length].2 ((ps.drop (pre.length + 1)).take m) = row
      have lrow : row.length = w := by
        rw [← hrow]
        exact (lower_spec _ _ w (la _ _ (List.getElem_mem hi)) (fun p a mm => by
          have mm' := List.mem_of_mem_drop (List.mem_of_mem_take mm)
          exact ⟨la p a mm', (E.row p a mm').2.2⟩) (E.sorted.sublist ((List.take_sublist ..).trans (List.drop_sublist ..)))).1
      have brow : Bb ((m + 1) * (H + 1)) row := by rw [← hrow]; exact bits _ hi m hm
      obtain ⟨x1, x2⟩ := ixv (v := row) (at_ := pp) (by omega)
      obtain ⟨x3, x4⟩ := ixv (v := ha) (at_ := pp) (by omega)
      have hmw : m ≤ w := by
        have : (ps.drop (pre.length + 1)).length ≤ ps.length := by rw [List.length_drop]; omega
        omega
      simp only [VM.sNil, VM.sCons, VM.sSet, VM.sPar, VM.sSetIx, VM.setIx, VM.sExpr, VM.sRet, VM.sRetN, VM.sIf, VM.sBreak, VM.sCont, VM.sFor, VM.gName, VM.gTup, VM.gEach, VM.eVar, VM.eC, VM.eBin, VM.eNeg, VM.eCmp, VM.eChain, VM.tOf, VM.tCmp, VM.tChain, VM.tAnd, VM.tOr, VM.tNot, VM.tYes, VM.eTest, VM.eAnd, VM.eOr, VM.eNot, VM.eIf, VM.aNil, VM.aCons, VM.eLst, VM.eLstM, VM.eTup, VM.eCall, VM.eIx, VM.getIx, VM.eSl, VM.getSl, VM.iE, VM.iRange1, VM.iRange2, VM.iZip, VM.iRev, VM.eComp, VM.eCompM, VM.eAppend, VM.eInsert, VM.eB1, VM.fLen, VM.fAbs, VM.fInt, VM.fList, VM.fListM, VM.fTuple, VM.fSum, VM.fAll, VM.fAny, VM.fIsi, VM.bLen, VM.seqOf, VM.sq, VM.asL, VM.items, VM.isSeq, VM.truth, VM.opBin, VM.opAdd, VM.opSub, VM.opMul, VM.opFdiv, VM.opMod, VM.opPow, VM.opCm, VM.opEq, VM.frz, VM.isD, VM.eqv, VM.isNon, VM.kdOf, VM.D0, VM.turn, List.map_cons, List.map_nil, List.replicate_succ, List.replicate_zero, List.cons_append, List.nil_append, List.getElem?_cons_zero, List.getElem?_cons_succ, List.set_cons_zero, List.set_cons_succ, Nat.reduceSub, VM.wipe, List.length_cons, List.length_nil, Nat.reduceAdd, hd, x1, x2, x3, x4]
      refine ⟨trivial, by unfold DivOk; omega, ?_⟩
      have q := (fdiv_facts (s := nth row pp) r4).2.2.2
      have q2 := brow.nth pp
      refine mn row ha _ _ _ _ (fun b mb => mulOk_of (Nat.lt_of_lt_of_le (b1 pp ha mph b mb) (Nat.pow_le_pow_right (by decide) (show H ≤ (m + 1) * (H + 1) by rw [Nat.add_mul, Nat.one_mul]; omega))) (Nat.lt_of_le_of_lt q q2) (by rw [Nat.add_mul, Nat.one_mul]; omega) (by rw [Nat.add_mul, Nat.one_mul]; omega) (bq m hmw)) (by rw [lrow]; show _ ≤ 16777216; omega) ?_
      have e1 : lower ps[pre.length].2 ((ps.drop (pre.length + 1)).take (m + 1)) = sub1 row ha ((nth row pp).fdiv (nth ha pp)) := by
        rw [List.take_succ_eq_append_getElem hmlt, hph]
        unfold lower at hrow ⊢
        rw [List.foldl_append, hrow]
        rfl
      refine g4 _ _ ⟨rfl, some (.int (pp : Nat)), some (ilst ha), m + 1, ?_, rfl, hmlt⟩
      rw [e1]
    · rintro ρ st2 ⟨rfl, a6, a7, m, rfl, hr, hm⟩
      refine ⟨trivial, ?_⟩
      have hml : m = (ps.drop (pre.length + 1)).length := by
        have := congrArg List.length hr
        rw [List.length_map, List.length_drop (i := m)] at this
        simp only [List.length_nil] at this
        omega
      rw [hml, List.take_length]
      simp only [VM.sNil, VM.sCons, VM.sSet, VM.sPar, VM.sSetIx, VM.setIx, VM.sExpr, VM.sRet, VM.sRetN, VM.sIf, VM.sBreak, VM.sCont, VM.sFor, VM.gName, VM.gTup, VM.gEach, VM.eVar, VM.eC, VM.eBin, VM.eNeg, VM.eCmp, VM.eChain, VM.tOf, VM.tCmp, VM.tChain, VM.tAnd, VM.tOr, VM.tNot, VM.tYes, VM.eTest, VM.eAnd, VM.eOr, VM.eNot, VM.eIf, VM.aNil, VM.aCons, VM.eLst, VM.eLstM, VM.eTup, VM.eCall, VM.eIx, VM.getIx, VM.eSl, VM.getSl, VM.iE, VM.iRange1, VM.iRange2, VM.iZip, VM.iRev, VM.eComp, VM.eCompM, VM.eAppend, VM.eInsert, VM.eB1, VM.fLen, VM.fAbs, VM.fInt, VM.fList, VM.fListM, VM.fTuple, VM.fSum, VM.fAll, VM.fAny, VM.fIsi, VM.bLen, VM.seqOf, VM.sq, VM.asL, VM.items, VM.isSeq, VM.truth, VM.opBin, VM.opAdd, VM.opSub, VM.opMul, VM.opFdiv, VM.opMod, VM.opPow, VM.opCm, VM.opEq, VM.frz, VM.isD, VM.eqv, VM.isNon, VM.kdOf, VM.D0, VM.turn, List.map_cons, List.map_nil, List.replicate_succ, List.replicate_zero, List.cons_append, List.nil_append, List.getElem?_cons_zero, List.getElem?_cons_succ, List.set_cons_zero, List.set_cons_succ, Nat.reduceSub, VM.wipe, List.length_cons, List.length_nil, Nat.reduceAdd, List.length_map]
      refine ⟨by decide, by rw [List.length_take, redA_len]; show _ ≤ 16777216; omega, ?_⟩
      refine d4 _ _ ⟨rfl, some (.int (pre.length : Nat)), some (ilst (lower ps[pre.length].2 (ps.drop (pre.length + 1)))), a6, a7, pre ++ [.int pre.length], ?_, by simpa using hp⟩
      have e2 := redA_get ps pre.length ps[pre.length].1 ps[pre.length].2 (List.getElem?_eq_getElem hi)
      rw [List.length_append, List.length_singleton, List.take_succ, e2]
      simp
  · rintro ρ st' ⟨rfl, a4, a5, a6, a7, pre, rfl, hp⟩
    rw [List.append_nil] at hp
    have hpl := range_pre hp
    refine ⟨trivial, ?_⟩
    simp only [VM.sNil, VM.sCons, VM.sSet, VM.sPar, VM.sSetIx, VM.setIx, VM.sExpr, VM.sRet, VM.sRetN, VM.sIf, VM.sBreak, VM.sCont, VM.sFor, VM.gName, VM.gTup, VM.gEach, VM.eVar, VM.eC, VM.eBin, VM.eNeg, VM.eCmp, VM.eChain, VM.tOf, VM.tCmp, VM.tChain, VM.tAnd, VM.tOr, VM.tNot, VM.tYes, VM.eTest, VM.eAnd, VM.eOr, VM.eNot, VM.eIf, VM.aNil, VM.aCons, VM.eLst, VM.eLstM, VM.eTup, VM.eCall, VM.eIx, VM.getIx, VM.eSl, VM.getSl, VM.iE, VM.iRange1, VM.iRange2, VM.iZip, VM.iRev, VM.eComp, VM.eCompM, VM.eAppend, VM.eInsert, VM.eB1, VM.fLen, VM.fAbs, VM.fInt, VM.fList, VM.fListM, VM.fTuple, VM.fSum, VM.fAll, VM.fAny, VM.fIsi, VM.bLen, VM.seqOf, VM.sq, VM.asL, VM.items, VM.isSeq, VM.truth, VM.opBin, VM.opAdd, VM.opSub, VM.opMul, VM.opFdiv, VM.opMod, VM.opPow, VM.opCm, VM.opEq, VM.frz, VM.isD, VM.eqv, VM.isNon, VM.kdOf, VM.D0, VM.turn, List.map_cons, List.map_nil, List.replicate_succ, List.replicate_zero, List.cons_append, List.nil_append, List.getElem?_cons_zero, List.getElem?_cons_succ, List.set_cons_zero, List.set_cons_succ, Nat.reduceSub, VM.wipe, List.length_cons, List.length_nil, Nat.reduceAdd]
    rw [hpl, List.take_of_length_le (by rw [redA_len]; exact Nat.le_refl _)]
    refine hk (redA ps) FM fun p a m => ?_
    obtain ⟨i, hi, hg⟩ := List.mem_iff_getElem.mp m
    rw [redA_len] at hi
    have e2 := redA_get ps i ps[i].1 ps[i].2 (List.getElem?_eq_getElem hi)
    rw [List.getElem?_eq_getElem (by rw [redA_len]; exact hi), hg] at e2
    cases e2
    have := bits i hi _ (Nat.le_refl _)
    rw [List.take_length] at this
    refine this.mono (Nat.mul_le_mul_right _ ?_)
    rw [List.length_drop]
    omega
end VP
end
section
namespace MT
abbrev Tie := Nat × Nat
def itr {α : Type} (g : α → α) : Nat → α → α
  | 0, x => x
  | n + 1, x => itr g n (g x)
theorem itr_succ {α : Type} (g : α → α) : ∀ (n : Nat) (x : α), itr g (n + 1) x = g (itr g n x)
  | 0, x => rfl
  | n + 1, x => itr_succ g n (g x)
/-- one tie -/
def stp (P f : List Nat) (t : Tie) : List Nat :=
  if t.1 ∈ P ∧ t.2 ∈ P then (if t.1 ∈ f then (if t.2 ∈ f then f else f ++ [t.2]) else (if t.2 ∈ f then f ++ [t.1] else f)) else f
def rnd (P : List Nat) (T : List Tie) (f : List Nat) : List Nat := T.foldl (stp P) f
def reach (P : List Nat) (T : List Tie) : List Nat := itr (rnd P T) P.length (P.take 1)
theorem stp_cases (P f : List Nat) (t : Tie) : stp P f t = f ∨ ∃ v, stp P f t = f ++ [v] ∧ v ∉ f ∧ v ∈ P ∧ t.1 ∈ P ∧ t.2 ∈ P ∧ ((v = t.2 ∧ t.1 ∈ f) ∨ (v = t.1 ∧ t.2 ∈ f)) := by
  unfold stp
  split
  · rename_i h
    split
    · rename_i h1
      split
      · exact .inl rfl
      · rename_i h2
        exact .inr ⟨t.2, rfl, h2, h.2, h.1, h.2, .inl ⟨rfl, h1⟩⟩
    · rename_i h1
      split
      · rename_i h2
        exact .inr ⟨t.1, rfl, h1, h.1, h.1, h.2, .inr ⟨rfl, h2⟩⟩
      · exact .inl rfl
  · exact .inl rfl
/-- kept by each tie, so by all -/
theorem rnd_ind {P : List Nat} (J : List Nat → Prop) : ∀ {T : List Tie} {f : List Nat}, (∀ f t, t ∈ T → J f → J (stp P f t)) → J f → J (rnd P T f)
  | [], _, _, h => h
  | t :: T, f, hs, h => rnd_ind (T := T) J (fun f u hu => hs f u (List.mem_cons_of_mem _ hu)) (hs f t (List.mem_cons_self ..) h)
theorem itr_ind {α : Type} {g : α → α} (J : α → Prop) (hs : ∀ x, J x → J (g x)) : ∀ {n : Nat} {x : α}, J x → J (itr g n x)
  | 0, _, h => h
  | n + 1, _, h => itr_ind J hs (n := n) (hs _ h)
theorem stp_sub {P f : List Nat} {t : Tie} {v : Nat} (h : v ∈ f) : v ∈ stp P f t := by
  rcases stp_cases P f t with e | ⟨w, e, _⟩ <;> rw [e]
  · exact h
  · exact List.mem_append_left _ h
theorem stp_len {P f : List Nat} {t : Tie} : f.length ≤ (stp P f t).length := by
  rcases stp_cases P f t with e | ⟨w, e, _⟩ <;> rw [e]
  · exact Nat.le_refl _
  · simp
theorem rnd_len {P : List Nat} : ∀ {T : List Tie} {f : List Nat}, f.length ≤ (rnd P T f).length
  | [], _ => Nat.le_refl _
  | t :: T, f => Nat.le_trans stp_len (rnd_len (T := T) (f := stp P f t))
def Closed (P : List Nat) (T : List Tie) (f : List Nat) : Prop := ∀ t ∈ T, t.1 ∈ P → t.2 ∈ P → (t.1 ∈ f ↔ t.2 ∈ f)
theorem stp_same {P f : List Nat} {t : Tie} (h : (stp P f t).length = f.length) : stp P f t = f ∧ (t.1 ∈ P → t.2 ∈ P → (t.1 ∈ f ↔ t.2 ∈ f)) := by
  have e : stp P f t = f := by
    rcases stp_cases P f t with e | ⟨w, e, _⟩
    · exact e
    · rw [e] at h
      simp at h
  refine ⟨e, fun h1 h2 => ?_⟩
  unfold stp at e
  rw [if_pos ⟨h1, h2⟩] at e
  by_cases a : t.1 ∈ f
  · rw [if_pos a] at e
    by_cases b : t.2 ∈ f
    · exact ⟨fun _ => b, fun _ => a⟩
    · rw [if_neg b] at e
      have := congrArg List.length e
      simp at this
  · rw [if_neg a] at e
    by_cases b : t.2 ∈ f
    · rw [if_pos b] at e
      have := congrArg List.length e
      simp at this
    · exact ⟨fun z => absurd z a, fun z => absurd z b⟩
theorem rnd_same {P : List Nat} : ∀ {T : List Tie} {f : List Nat}, (rnd P T f).length = f.length → rnd P T f = f ∧ Closed P T f
  | [], f, _ => ⟨rfl, fun _ m => nomatch m⟩
  | t :: T, f, h => by
    have h1 : (stp P f t).length = f.length := by
      have a := stp_len (P := P) (f := f) (t := t)
      have b := rnd_len (P := P) (T := T) (f := stp P f t)
      have : (rnd P T (stp P f t)).length = f.length := h
      omega
    obtain ⟨e, c⟩ := stp_same h1
    have h2 : (rnd P T f).length = f.length := by
      have : (rnd P T (stp P f t)).length = f.length := h
      rw [e] at this
      exact this
    obtain ⟨e2, c2⟩ := rnd_same h2
    refine ⟨?_, fun u hu => ?_⟩
    · show rnd P T (stp P f t) = f
      rw [e]
      exact e2
    · rcases List.mem_cons.mp hu with rfl | hu
      · exact c
      · exact c2 u hu
theorem itr_grow {P : List Nat} {T : List Tie} : ∀ (n : Nat) (f : List Nat), Closed P T (itr (rnd P T) n f) ∨ f.length + n ≤ (itr (rnd P T) n f).length
  | 0, f => .inr (Nat.le_refl _)
  | n + 1, f => by
    rw [itr_succ]
    rcases itr_grow n f with h | h
    · left
      have e : rnd P T (itr (rnd P T) n f) = itr (rnd P T) n f := by
        generalize itr (rnd P T) n f = g at h ⊢
        clear f
        suffices H : ∀ (T' : List Tie), (∀ t ∈ T', t ∈ T) → rnd P T' g = g from H T fun _ m => m
        intro T'
        induction T' with
        | nil => intro _; rfl
        | cons t T' ih =>
          intro hs
          have hc := h t (hs t (List.mem_cons_self ..))
          have e : stp P g t = g := by
            unfold stp
            split
            · rename_i hp
              have hc := hc hp.1 hp.2
              by_cases a : t.1 ∈ g
              · rw [if_pos a, if_pos (hc.mp a)]
              · rw [if_neg a, if_neg fun z => a (hc.mpr z)]
            · rfl
          show rnd P T' (stp P g t) = g
          rw [e]
          exact ih fun u hu => hs u (List.mem_cons_of_mem _ hu)
      rw [e]
      exact h
    · by_cases e : (rnd P T (itr (rnd P T) n f)).length = (itr (rnd P T) n f).length
      · obtain ⟨e1, e2⟩ := rnd_same e
        rw [e1]
        exact .inl e2
      · right
        have := rnd_len (P := P) (T := T) (f := itr (rnd P T) n f)
        omega
theorem nodup_le : ∀ {l m : List Nat}, l.Nodup → (∀ x ∈ l, x ∈ m) → l.length ≤ m.length
  | [], _, _, _ => Nat.zero_le _
  | x :: l, m, nd, h => by
    obtain ⟨h1, h2⟩ := List.nodup_cons.mp nd
    have hx := h x (List.mem_cons_self ..)
    have := nodup_le (m := m.erase x) h2 fun y hy => (List.mem_erase_of_ne (fun z : y = x => h1 (z ▸ hy))).mpr (h y (List.mem_cons_of_mem _ hy))
    rw [List.length_erase_of_mem hx] at this
    have : 0 < m.length := List.length_pos_of_mem hx
    rw [List.length_cons]
    omega
section
variable {P : List Nat} {T : List Tie}
theorem itr_good {n : Nat} {f : List Nat} (nd : f.Nodup) (hs : ∀ v ∈ f, v ∈ P) : (itr (rnd P T) n f).Nodup ∧ (∀ v ∈ itr (rnd P T) n f, v ∈ P) ∧ ∀ v ∈ f, v ∈ itr (rnd P T) n f := by
  refine itr_ind (fun g : List Nat => g.Nodup ∧ (∀ v ∈ g, v ∈ P) ∧ ∀ v ∈ f, v ∈ g) (fun g hg => ?_) ⟨nd, hs, fun v h => h⟩
  refine rnd_ind (fun g : List Nat => g.Nodup ∧ (∀ v ∈ g, v ∈ P) ∧ ∀ v ∈ f, v ∈ g) (fun g t _ ⟨a, b, c⟩ => ?_) hg
  rcases stp_cases P g t with e | ⟨w, e, h1, h2, _⟩ <;> rw [e]
  · exact ⟨a, b, c⟩
  · refine ⟨List.nodup_append.mpr ⟨a, by simp, fun x hx y hy => ?_⟩, fun v hv => ?_, fun v hv => List.mem_append_left _ (c v hv)⟩
    · rw [List.mem_singleton.mp hy]
      exact fun z => h1 (z ▸ hx)
    · rcases List.mem_append.mp hv with hv | hv
      · exact b v hv
      · rw [List.mem_singleton.mp hv]
        exact h2
theorem itr_closed {n : Nat} {f : List Nat} (nd : f.Nodup) (hs : ∀ v ∈ f, v ∈ P) (hf : f ≠ []) (hn : P.length ≤ n) : Closed P T (itr (rnd P T) n f) := by
  rcases itr_grow (P := P) (T := T) n f with h | h
  · exact h
  · obtain ⟨a, b, _⟩ := itr_good (T := T) (n := n) nd hs
    have := nodup_le a b
    have : 0 < f.length := List.length_pos_iff.mpr hf
    omega
theorem itr_min {n : Nat} {f : List Nat} (S : Nat → Prop) (hS : ∀ t ∈ T, t.1 ∈ P → t.2 ∈ P → (S t.1 ↔ S t.2)) (hf : ∀ v ∈ f, S v) : ∀ v ∈ itr (rnd P T) n f, S v := by
  refine itr_ind (fun g : List Nat => ∀ v ∈ g, S v) (fun g hg => ?_) hf
  refine rnd_ind (fun g : List Nat => ∀ v ∈ g, S v) (fun g t ht hg => ?_) hg
  rcases stp_cases P g t with e | ⟨w, e, h1, h2, h3, h4, h5⟩ <;> rw [e]
  · exact hg
  · intro v hv
    rcases List.mem_append.mp hv with hv | hv
    · exact hg v hv
    · rw [List.mem_singleton.mp hv]
      rcases h5 with ⟨rfl, h5⟩ | ⟨rfl, h5⟩
      · exact (hS t ht h3 h4).mp (hg _ h5)
      · exact (hS t ht h3 h4).mpr (hg _ h5)
theorem take1 {l : List Nat} {v : Nat} (h : v ∈ l.take 1) : ∃ r, l = v :: r := by
  cases l with
  | nil => simp at h
  | cons a r =>
    simp at h
    exact ⟨r, by rw [h]⟩
theorem reach_nd (nd : P.Nodup) : (reach P T).Nodup := (itr_good (nd.sublist (List.take_sublist _ _)) fun v h => List.mem_of_mem_take h).1
theorem reach_sub (nd : P.Nodup) : ∀ v ∈ reach P T, v ∈ P := (itr_good (nd.sublist (List.take_sublist _ _)) fun v h => List.mem_of_mem_take h).2.1
theorem reach_head {a : Nat} {r : List Nat} (nd : (a :: r).Nodup) : a ∈ reach (a :: r) T := (itr_good (nd.sublist (List.take_sublist _ _)) fun v h => List.mem_of_mem_take h).2.2 a (by simp)
theorem reach_closed (nd : P.Nodup) : Closed P T (reach P T) := by
  cases P with
  | nil => exact fun t _ h => nomatch h
  | cons a r => exact itr_closed (nd.sublist (List.take_sublist _ _)) (fun v h => List.mem_of_mem_take h) (by simp) (Nat.le_refl _)
theorem reach_min {a : Nat} {r : List Nat} (S : Nat → Prop) (hS : ∀ t ∈ T, t.1 ∈ a :: r → t.2 ∈ a :: r → (S t.1 ↔ S t.2)) (ha : S a) : ∀ v ∈ reach (a :: r) T, S v :=
  itr_min S hS fun v h => by
    have : v = a := by simpa using h
    exact this ▸ ha
theorem reach_le (nd : P.Nodup) : (reach P T).length ≤ P.length := nodup_le (reach_nd nd) (reach_sub nd)
/-- all are reached, or fewer -/
theorem reach_all (nd : P.Nodup) (h : ∀ v ∈ P, v ∈ reach P T) : (reach P T).length = P.length := Nat.le_antisymm (reach_le nd) (nodup_le nd h)
theorem reach_less {q : Nat} (nd : P.Nodup) (hq : q ∈ P) (h : q ∉ reach P T) : (reach P T).length < P.length := by
  have h1 : (q :: reach P T).Nodup := List.nodup_cons.mpr ⟨h, reach_nd nd⟩
  have h2 : ∀ v ∈ q :: reach P T, v ∈ P := fun v hv => (List.mem_cons.mp hv).elim (fun e => e ▸ hq) (reach_sub nd v)
  have := nodup_le h1 h2
  rw [List.length_cons] at this
  omega
theorem reach_full (nd : P.Nodup) (h : ¬ (reach P T).length < P.length) : ∀ v ∈ P, v ∈ reach P T := fun v hv => by
  by_cases q : v ∈ reach P T
  · exact q
  · exact absurd (reach_less nd hv q) h
end
/-- n places, n - 1 ties among them, linked -/
structure Tree (n : Nat) (T : List Tie) : Prop where
  pos : 0 < n
  num : T.length + 1 = n
  rng : ∀ t ∈ T, t.1 < n ∧ t.2 < n ∧ t.1 ≠ t.2
  con : ∀ S : Nat → Prop, (∀ t ∈ T, S t.1 ↔ S t.2) → ∀ a b, a < n → b < n → S a → S b
theorem Tree.one {n : Nat} {T : List Tie} (h : Tree n T) : (reach (List.range n) T).length = n := by
  have nd := List.nodup_range (n := n)
  have e := reach_all (T := T) nd fun v hv => by
    have h0 : 0 ∈ reach (List.range n) T := by
      have : List.range n = 0 :: (List.range (n - 1)).map (· + 1) := by
        have : n = (n - 1) + 1 := by have := h.pos; omega
        conv => lhs; rw [this]
        exact List.range_succ_eq_map
      rw [this] at nd ⊢
      exact reach_head nd
    refine h.con (fun v => v ∈ reach (List.range n) T) (fun t ht => ?_) 0 v h.pos (List.mem_range.mp hv) h0
    obtain ⟨h1, h2, _⟩ := h.rng t ht
    exact reach_closed nd t ht (List.mem_range.mpr h1) (List.mem_range.mpr h2)
  rw [List.length_range] at e
  exact e
abbrev Dc := List (Nat × Nat)
def has (d : Dc) (v : Nat) : Prop := v ∈ d.map (·.1)
instance (d : Dc) (v : Nat) : Decidable (has d v) := inferInstanceAs (Decidable (v ∈ d.map (·.1)))
def dst (d : Dc) (t : Tie) : Dc := if has d t.1 then (if has d t.2 then d else d ++ [(t.2, t.1)]) else (if has d t.2 then d ++ [(t.1, t.2)] else d)
def drnd (T : List Tie) (d : Dc) : Dc := T.foldl dst d
/-- the dict behind all rounds -/
def bfr (T : List Tie) (n p : Nat) : Dc := itr (drnd T) n [(p, p)]
/-- newest entry first, the root last -/
def pofR : Dc → Nat → List Nat
  | [], v => [v]
  | (w, q) :: r, v => if r = [] then [v] else if v = w then w :: pofR r q else pofR r v
structure PI (p : Nat) (T : List Tie) (d : Dc) : Prop where
  nd : (d.map (·.1)).Nodup
  root : ∃ r, d = (p, p) :: r
  par : ∀ l v q r, d = l ++ (v, q) :: r → l ≠ [] → has l q ∧ ((v, q) ∈ T ∨ (q, v) ∈ T)
theorem has_app {d : Dc} {x : Nat × Nat} {v : Nat} : has (d ++ [x]) v ↔ has d v ∨ v = x.1 := by
  unfold has
  rw [List.map_append, List.mem_append]
  simp
theorem snoc_split {α : Type} {d l r : List α} {x y : α} (h : d ++ [x] = l ++ y :: r) : (r = [] ∧ l = d ∧ y = x) ∨ ∃ r', r = r' ++ [x] ∧ d = l ++ y :: r' := by
  rcases List.eq_nil_or_concat r with rfl | ⟨r', z, rfl⟩
  · have := List.append_inj' h rfl
    simp at this
    exact .inl ⟨rfl, this.1.symm, this.2.symm⟩
  · have h' : d ++ [x] = (l ++ y :: r') ++ [z] := by simpa using h
    have := List.append_inj' h' rfl
    simp at this
    exact .inr ⟨r', by simp [this.2], this.1⟩
theorem PI.snoc {p : Nat} {T : List Tie} {d : Dc} (I : PI p T d) {v q : Nat} (hv : ¬ has d v) (hq : has d q) (ht : (v, q) ∈ T ∨ (q, v) ∈ T) : PI p T (d ++ [(v, q)]) where
  nd := by
    rw [List.map_append]
    exact List.nodup_append.mpr ⟨I.nd, by simp, fun a ha b hb => by
      have : b = v := by simpa using hb
      subst this
      exact fun z => hv (z ▸ ha)⟩
  root := by
    obtain ⟨r, e⟩ := I.root
    exact ⟨r ++ [(v, q)], by rw [e]; rfl⟩
  par := fun l w u r e hl => by
    rcases snoc_split e with ⟨rfl, rfl, e2⟩ | ⟨r', rfl, e2⟩
    · cases e2
      exact ⟨hq, ht⟩
    · exact I.par l w u r' e2 hl
theorem PI.step {p : Nat} {T : List Tie} {d : Dc} (I : PI p T d) {t : Tie} (ht : t ∈ T) : PI p T (dst d t) := by
  unfold dst
  split
  · rename_i h1
    split
    · exact I
    · rename_i h2
      exact I.snoc h2 h1 (.inr ht)
  · rename_i h1
    split
    · rename_i h2
      exact I.snoc h1 h2 (.inl ht)
    · exact I
theorem drnd_ind (J : Dc → Prop) : ∀ {T : List Tie} {d : Dc}, (∀ d t, t ∈ T → J d → J (dst d t)) → J d → J (drnd T d)
  | [], _, _, h => h
  | t :: T, d, hs, h => drnd_ind (T := T) J (fun d u hu => hs d u (List.mem_cons_of_mem _ hu)) (hs d t (List.mem_cons_self ..) h)
theorem PI.bfr (T : List Tie) (n p : Nat) : PI p T (bfr T n p) :=
  itr_ind (PI p T) (fun d hd => drnd_ind (PI p T) (fun d t ht h => h.step ht) hd) ⟨by simp, ⟨[], rfl⟩, fun l v q r e hl => by
    cases l with
    | nil => exact (hl rfl).elim
    | cons a l => simp at e⟩
/-- the keys are what is reached -/
theorem keys_dst {P : List Nat} {d : Dc} {t : Tie} (h1 : t.1 ∈ P) (h2 : t.2 ∈ P) : (dst d t).map (·.1) = stp P (d.map (·.1)) t := by
  have es : stp P (d.map (·.1)) t = if t.1 ∈ d.map (·.1) then (if t.2 ∈ d.map (·.1) then d.map (·.1) else d.map (·.1) ++ [t.2]) else (if t.2 ∈ d.map (·.1) then d.map (·.1) ++ [t.1] else d.map (·.1)) := if_pos ⟨h1, h2⟩
  rw [es]
  unfold dst
  by_cases a : t.1 ∈ d.map (·.1)
  · rw [if_pos (show has d t.1 from a), if_pos a]
    by_cases b : t.2 ∈ d.map (·.1)
    · rw [if_pos (show has d t.2 from b), if_pos b]
    · rw [if_neg (show ¬ has d t.2 from b), if_neg b, List.map_append]
      rfl
  · rw [if_neg (show ¬ has d t.1 from a), if_neg a]
    by_cases b : t.2 ∈ d.map (·.1)
    · rw [if_pos (show has d t.2 from b), if_pos b, List.map_append]
      rfl
    · rw [if_neg (show ¬ has d t.2 from b), if_neg b]
theorem keys_drnd {P : List Nat} : ∀ {T : List Tie} {d : Dc}, (∀ t ∈ T, t.1 ∈ P ∧ t.2 ∈ P) → (drnd T d).map (·.1) = rnd P T (d.map (·.1))
  | [], _, _ => rfl
  | t :: T, d, h => by
    show (drnd T (dst d t)).map (·.1) = rnd P T (stp P (d.map (·.1)) t)
    rw [keys_drnd fun u hu => h u (List.mem_cons_of_mem _ hu), keys_dst (h t (List.mem_cons_self ..)).1 (h t (List.mem_cons_self ..)).2]
theorem keys_itr {P : List Nat} {T : List Tie} (h : ∀ t ∈ T, t.1 ∈ P ∧ t.2 ∈ P) : ∀ (n : Nat) (d : Dc), (itr (drnd T) n d).map (·.1) = itr (rnd P T) n (d.map (·.1))
  | 0, _ => rfl
  | n + 1, d => by
    show (itr (drnd T) n (drnd T d)).map (·.1) = itr (rnd P T) n (rnd P T (d.map (·.1)))
    rw [keys_itr h n, keys_drnd h]
section
variable {n p : Nat} {T : List Tie}
theorem Tree.rngP (h : Tree n T) : ∀ t ∈ T, t.1 ∈ List.range n ∧ t.2 ∈ List.range n := fun t ht => ⟨List.mem_range.mpr (h.rng t ht).1, List.mem_range.mpr (h.rng t ht).2.1⟩
theorem Tree.keys (h : Tree n T) (hp : p < n) {v : Nat} : has (bfr T n p) v ↔ v < n := by
  have nd : [p].Nodup := by simp
  have hs : ∀ v ∈ [p], v ∈ List.range n := fun v hv => by
    rw [List.mem_singleton.mp hv]
    exact List.mem_range.mpr hp
  have e : (bfr T n p).map (·.1) = itr (rnd (List.range n) T) n [p] := keys_itr h.rngP n [(p, p)]
  unfold has
  rw [e]
  obtain ⟨_, g2, g3⟩ := itr_good (T := T) (n := n) nd hs
  have cl := itr_closed (T := T) nd hs (by simp) (show (List.range n).length ≤ n by simp)
  constructor
  · exact fun z => List.mem_range.mp (g2 v z)
  · intro hv
    refine h.con (fun v => v ∈ itr (rnd (List.range n) T) n [p]) (fun t ht => ?_) p v hp hv (g3 p (by simp))
    exact cl t ht (h.rngP t ht).1 (h.rngP t ht).2
theorem Tree.size (h : Tree n T) (hp : p < n) : (bfr T n p).length = n := by
  have I := PI.bfr T n p
  have a : (bfr T n p).length = ((bfr T n p).map (·.1)).length := by simp
  rw [a]
  apply Nat.le_antisymm
  · have := nodup_le (m := List.range n) I.nd fun v hv => List.mem_range.mpr ((h.keys hp).mp hv)
    simpa using this
  · have hk : ∀ v ∈ List.range n, v ∈ (bfr T n p).map (fun x : Nat × Nat => x.1) := fun v hv => (h.keys hp).mpr (List.mem_range.mp hv)
    have := nodup_le (List.nodup_range (n := n)) hk
    simpa using this
/-- a tie that the dict tells -/
def pe (d : Dc) (t : Tie) : Bool := decide ((t.2, t.1) ∈ d) || decide ((t.1, t.2) ∈ d)
theorem countP_lt {α : Type} {f g : α → Bool} : ∀ {l : List α}, (∀ x ∈ l, f x = true → g x = true) → (∃ x ∈ l, f x = false ∧ g x = true) → l.countP f < l.countP g
  | [], _, ⟨x, m, _⟩ => nomatch m
  | y :: l, h, ⟨x, m, a, b⟩ => by
    have hl : ∀ x ∈ l, f x = true → g x = true := fun x m => h x (List.mem_cons_of_mem _ m)
    have hle : l.countP f ≤ l.countP g := List.countP_mono_left hl
    rw [List.countP_cons, List.countP_cons]
    rcases List.mem_cons.mp m with rfl | m
    · rw [if_neg (by rw [a]; decide), if_pos b]
      omega
    · have ih := countP_lt hl ⟨x, m, a, b⟩
      have := h y (List.mem_cons_self ..)
      by_cases e : f y = true
      · rw [if_pos e, if_pos (this e)]
        omega
      · rw [if_neg e]
        split <;> omega
theorem PI.parKey {d : Dc} (I : PI p T d) {v q : Nat} (h : (v, q) ∈ d) : has d q := by
  obtain ⟨l, r, e⟩ := List.append_of_mem h
  by_cases hl : l = []
  · subst hl
    obtain ⟨r', e'⟩ := I.root
    rw [e'] at e
    have : (p, p) = (v, q) := by simpa using congrArg List.head? e
    cases this
    rw [e']
    exact List.mem_cons_self ..
  · have := (I.par l v q r e hl).1
    rw [e]
    unfold has at this ⊢
    rw [List.map_append]
    exact List.mem_append_left _ this
/-- each tie tells who stands ahead of whom -/
theorem count_step {d : Dc} (I : PI p T d) {t : Tie} (ht : t ∈ T) (h : d.length ≤ T.countP (pe d) + 1) : (dst d t).length ≤ T.countP (pe (dst d t)) + 1 := by
  have key : ∀ v q, ¬ has d v → has d q → (t = (v, q) ∨ t = (q, v)) → (d ++ [(v, q)]).length ≤ T.countP (pe (d ++ [(v, q)])) + 1 := by
    intro v q hv hq e
    have lt : T.countP (pe d) < T.countP (pe (d ++ [(v, q)])) := by
      refine countP_lt (fun x _ hx => ?_) ⟨t, ht, ?_, ?_⟩
      · unfold pe at hx ⊢
        rw [Bool.or_eq_true, decide_eq_true_eq, decide_eq_true_eq] at hx ⊢
        exact hx.imp (List.mem_append_left _) (List.mem_append_left _)
      · have n1 : (v, q) ∉ d := fun z => hv (List.mem_map.mpr ⟨_, z, rfl⟩)
        have n2 : (q, v) ∉ d := fun z => hv (I.parKey z)
        unfold pe
        rcases e with rfl | rfl <;> simp [n1, n2]
      · unfold pe
        rcases e with rfl | rfl <;> simp
    rw [List.length_append, List.length_singleton]
    omega
  unfold dst
  split
  · rename_i h1
    split
    · exact h
    · rename_i h2
      exact key t.2 t.1 h2 h1 (.inr rfl)
  · rename_i h1
    split
    · rename_i h2
      exact key t.1 t.2 h1 h2 (.inl rfl)
    · exact h
theorem Tree.pe (h : Tree n T) (hp : p < n) {t : Tie} (ht : t ∈ T) : (t.2, t.1) ∈ bfr T n p ∨ (t.1, t.2) ∈ bfr T n p := by
  have J : PI p T (bfr T n p) ∧ (bfr T n p).length ≤ T.countP (MT.pe (bfr T n p)) + 1 := by
    refine itr_ind (fun d => PI p T d ∧ d.length ≤ T.countP (MT.pe d) + 1) (fun d hd => drnd_ind (fun d => PI p T d ∧ d.length ≤ T.countP (MT.pe d) + 1) (fun d t ht h => ⟨h.1.step ht, count_step h.1 ht h.2⟩) hd) ⟨⟨by simp, ⟨[], rfl⟩, fun l v q r e hl => ?_⟩, by simp⟩
    cases l with
    | nil => exact (hl rfl).elim
    | cons a l => simp at e
  have e := h.size hp
  have : T.countP (MT.pe (bfr T n p)) = T.length := by
    have a := List.countP_le_length (p := MT.pe (bfr T n p)) (l := T)
    have b := h.num
    have c := J.2
    omega
  have := (List.countP_eq_length.mp this) t ht
  unfold MT.pe at this
  rw [Bool.or_eq_true, decide_eq_true_eq, decide_eq_true_eq] at this
  exact this
end
theorem pofR_skip {d : Dc} {w q v : Nat} (hd : d ≠ []) (h : v ≠ w) : pofR ((w, q) :: d) v = pofR d v := by
  rw [pofR, if_neg hd, if_neg h]
theorem pofR_hit {d : Dc} {w q : Nat} (hd : d ≠ []) : pofR ((w, q) :: d) w = w :: pofR d q := by
  rw [pofR, if_neg hd, if_pos rfl]
def way (d : Dc) (v : Nat) : List Nat := pofR d.reverse v
theorem way_snoc_skip {d : Dc} {w q v : Nat} (hd : d ≠ []) (h : v ≠ w) : way (d ++ [(w, q)]) v = way d v := by
  unfold way
  rw [List.reverse_append]
  exact pofR_skip (by simpa using hd) h
theorem way_snoc_hit {d : Dc} {w q : Nat} (hd : d ≠ []) : way (d ++ [(w, q)]) w = w :: way d q := by
  unfold way
  rw [List.reverse_append]
  exact pofR_hit (by simpa using hd)
theorem PI.pre {p : Nat} {T : List Tie} {d : Dc} {x : Nat × Nat} (I : PI p T (d ++ [x])) (hd : d ≠ []) : PI p T d where
  nd := by
    have := I.nd
    rw [List.map_append] at this
    exact (List.nodup_append.mp this).1
  root := by
    obtain ⟨r, e⟩ := I.root
    cases d with
    | nil => exact (hd rfl).elim
    | cons a d =>
      have : a = (p, p) := by simpa using congrArg List.head? e
      exact ⟨d, by rw [this]⟩
  par := fun l v q r e hl => I.par l v q (r ++ [x]) (by rw [e]; simp) hl
theorem dc_ind (J : Dc → Prop) (h1 : ∀ x, J [x]) (h2 : ∀ d x, d ≠ [] → J d → J (d ++ [x])) : ∀ d, d ≠ [] → J d := by
  intro d
  induction h : d.length generalizing d with
  | zero => exact fun z => (z (List.length_eq_zero_iff.mp h)).elim
  | succ n ih =>
    intro hd
    obtain ⟨d', x, rfl⟩ : ∃ d' x, d = d' ++ [x] := by
      rcases List.eq_nil_or_concat d with e | ⟨d', x, e⟩
      · exact (hd e).elim
      · exact ⟨d', x, by simpa using e⟩
    by_cases h0 : d' = []
    · subst h0
      exact h1 x
    · exact h2 d' x h0 (ih d' (by simpa using h) h0)
theorem PI.ne {p : Nat} {T : List Tie} {d : Dc} (I : PI p T d) : d ≠ [] := by
  obtain ⟨r, e⟩ := I.root
  rw [e]
  simp
theorem way_root {p : Nat} {T : List Tie} : ∀ {d : Dc}, PI p T d → way d p = [p] := by
  intro d I
  refine dc_ind (fun d => PI p T d → way d p = [p]) (fun x I => ?_) (fun d x hd ih I => ?_) d I.ne I
  · obtain ⟨r, e⟩ := I.root
    have : x = (p, p) := by simpa using congrArg List.head? e
    subst this
    simp [way, pofR]
  · have I' := I.pre hd
    have hp : has d p := by
      obtain ⟨r, e⟩ := I'.root
      rw [e]
      exact List.mem_cons_self
    obtain ⟨w, q⟩ := x
    have hw : p ≠ w := fun z => by
      have := I.nd
      rw [List.map_append] at this
      exact (List.nodup_append.mp this).2.2 p hp w (by simp) z
    rw [way_snoc_skip hd hw]
    exact ih I'
/-- behind v comes the one ahead of it -/
theorem way_par {p : Nat} {T : List Tie} : ∀ {d : Dc}, PI p T d → ∀ {v q : Nat}, (v, q) ∈ d → v ≠ p → way d v = v :: way d q := by
  intro d I
  refine dc_ind (fun d => PI p T d → ∀ {v q : Nat}, (v, q) ∈ d → v ≠ p → way d v = v :: way d q) (fun x I v q m hv => ?_) (fun d x hd ih I v q m hv => ?_) d I.ne I
  · obtain ⟨r, e⟩ := I.root
    have : x = (p, p) := by simpa using congrArg List.head? e
    subst this
    simp at m
    exact (hv m.1).elim
  · have I' := I.pre hd
    obtain ⟨w, u⟩ := x
    have hw : ¬ has d w := fun z => by
      have := I.nd
      rw [List.map_append] at this
      exact (List.nodup_append.mp this).2.2 w z w (by simp) rfl
    have hu : has d u := (I.par d w u [] rfl hd).1
    rcases List.mem_append.mp m with m | m
    · have h1 : v ≠ w := fun z => hw (z ▸ List.mem_map.mpr ⟨_, m, rfl⟩)
      have h2 : q ≠ w := fun z => hw (z ▸ I'.parKey m)
      rw [way_snoc_skip hd h1, way_snoc_skip hd h2]
      exact ih I' m hv
    · have e : (v, q) = (w, u) := by simpa using m
      cases e
      have h2 : q ≠ v := fun z => hw (z ▸ hu)
      rw [way_snoc_hit hd, way_snoc_skip hd h2]
theorem way_mem {p : Nat} {T : List Tie} {v : Nat} {d : Dc} (I : PI p T d) (hv : has d v) : v ∈ way d v := by
  by_cases h : v = p
  · rw [h, way_root I]
    simp
  · obtain ⟨⟨a, q⟩, m, rfl⟩ := List.mem_map.mp hv
    rw [way_par I m h]
    exact List.mem_cons_self ..
/-- all on the way are known; the root is on it; it is short -/
theorem way_keys {p : Nat} {T : List Tie} : ∀ {d : Dc}, PI p T d → ∀ {v : Nat}, has d v → (∀ x ∈ way d v, has d x) ∧ p ∈ way d v ∧ (way d v).length ≤ d.length := by
  intro d I
  refine dc_ind (fun d => PI p T d → ∀ {v : Nat}, has d v → (∀ x ∈ way d v, has d x) ∧ p ∈ way d v ∧ (way d v).length ≤ d.length) (fun x I v hv => ?_) (fun d x hd ih I v hv => ?_) d I.ne I
  · obtain ⟨r, e⟩ := I.root
    have : x = (p, p) := by simpa using congrArg List.head? e
    subst this
    have : v = p := by simpa [has] using hv
    subst this
    rw [way_root I]
    simp [has]
  · have I' := I.pre hd
    obtain ⟨w, u⟩ := x
    have hw : ¬ has d w := fun z => by
      have := I.nd
      rw [List.map_append] at this
      exact (List.nodup_append.mp this).2.2 w z w (by simp) rfl
    have hu : has d u := (I.par d w u [] rfl hd).1
    by_cases e : v = w
    · subst e
      rw [way_snoc_hit hd]
      obtain ⟨a, b, c⟩ := ih I' hu
      refine ⟨fun x hx => ?_, List.mem_cons_of_mem _ b, by simp; omega⟩
      rcases List.mem_cons.mp hx with rfl | hx
      · exact has_app.mpr (.inr rfl)
      · exact has_app.mpr (.inl (a x hx))
    · rw [way_snoc_skip hd e]
      have hv' : has d v := (has_app.mp hv).resolve_right e
      obtain ⟨a, b, c⟩ := ih I' hv'
      exact ⟨fun x hx => has_app.mpr (.inl (a x hx)), b, by rw [List.length_append]; omega⟩
/-- the way on from a place of a way is on it -/
theorem way_trans {p : Nat} {T : List Tie} {d : Dc} (I : PI p T d) : ∀ (m : Nat) {q v x : Nat}, (way d q).length ≤ m → has d q → v ∈ way d q → x ∈ way d v → x ∈ way d q
  | 0, q, v, x, hm, hq, hv, hx => by
    have := List.length_pos_of_mem hv
    omega
  | m + 1, q, v, x, hm, hq, hv, hx => by
    by_cases e : q = p
    · subst e
      rw [way_root I] at hv
      rw [List.mem_singleton.mp hv] at hx
      exact hx
    · obtain ⟨⟨a, u⟩, mm, ea⟩ := List.mem_map.mp hq
      simp only at ea
      subst ea
      have ew := way_par I mm e
      rw [ew] at hm hv ⊢
      rcases List.mem_cons.mp hv with rfl | hv
      · rw [ew] at hx
        exact hx
      · exact List.mem_cons_of_mem _ (way_trans I m (by simpa using hm) (I.parKey mm) hv hx)
section
variable {n p : Nat} {T : List Tie}
/-- a tie between two places, k neither of them: k is on both ways or on none -/
theorem Tree.both (h : Tree n T) (hp : p < n) {t : Tie} (ht : t ∈ T) {k : Nat} (h1 : t.1 ≠ k) (h2 : t.2 ≠ k) : k ∈ way (bfr T n p) t.1 ↔ k ∈ way (bfr T n p) t.2 := by
  have I := PI.bfr T n p
  have key : ∀ v q, v ≠ k → v ≠ q → (v, q) ∈ bfr T n p → (k ∈ way (bfr T n p) v ↔ k ∈ way (bfr T n p) q) := by
    intro v q hv hq m
    have hvp : v ≠ p := fun z => by
      subst z
      obtain ⟨r, e⟩ := I.root
      rw [e] at m
      rcases List.mem_cons.mp m with e2 | m2
      · cases e2
        exact hq rfl
      · have := I.nd
        rw [e, List.map_cons] at this
        exact (List.nodup_cons.mp this).1 (List.mem_map.mpr ⟨_, m2, rfl⟩)
    rw [way_par I m hvp, List.mem_cons]
    exact ⟨fun z => z.resolve_left fun e => hv e.symm, .inr⟩
  have hne := (h.rng t ht).2.2
  rcases h.pe hp ht with m | m
  · exact (key t.2 t.1 h2 (Ne.symm hne) m).symm
  · exact key t.1 t.2 h1 hne m
/-- places between which k stands are not linked without it -/
theorem Tree.sep (h : Tree n T) {P : List Nat} (nd : P.Nodup) (hp : p < n) {k q : Nat} (hk : k ∉ P) (p0 : p ∈ P) (q0 : q ∈ P) (hq : k ∈ way (bfr T n p) q) : (reach P T).length < P.length := by
  have I := PI.bfr T n p
  have hkp : k ∉ way (bfr T n p) p := by
    rw [way_root I]
    intro z
    exact hk (by rw [List.mem_singleton.mp z]; exact p0)
  cases P with
  | nil => cases p0
  | cons a r =>
    have hS : ∀ t ∈ T, t.1 ∈ a :: r → t.2 ∈ a :: r → (k ∈ way (bfr T n p) t.1 ↔ k ∈ way (bfr T n p) t.2) := fun t ht m1 m2 => h.both hp ht (fun z => hk (z ▸ m1)) fun z => hk (z ▸ m2)
    by_cases ha : k ∈ way (bfr T n p) a
    · refine reach_less nd p0 fun z => hkp ?_
      exact reach_min (fun v => k ∈ way (bfr T n p) v) hS ha p z
    · refine reach_less nd q0 fun z => ?_
      exact reach_min (fun v => ¬ k ∈ way (bfr T n p) v) (fun t ht m1 m2 => not_congr (hS t ht m1 m2)) ha q z hq
/-- all ways to p from places within P, within P: all is linked -/
theorem Tree.joined (h : Tree n T) {P : List Nat} (nd : P.Nodup) (hp : p < n) (hP : ∀ v ∈ P, v < n ∧ ∀ x ∈ way (bfr T n p) v, x ∈ P) : (reach P T).length = P.length := by
  have I := PI.bfr T n p
  have cl := reach_closed (T := T) nd
  -- each place of a way is reached just if the root is
  have key : ∀ m v, (way (bfr T n p) v).length ≤ m → v < n → (∀ x ∈ way (bfr T n p) v, x ∈ P) → (v ∈ reach P T ↔ p ∈ reach P T) := by
    intro m
    induction m with
    | zero =>
      intro v hl hv _
      have := way_mem I ((h.keys hp).mpr hv)
      have : 0 < (way (bfr T n p) v).length := List.length_pos_of_mem this
      omega
    | succ m ih =>
      intro v hl hv hw
      by_cases e : v = p
      · rw [e]
      · obtain ⟨⟨a, q⟩, mm, ea⟩ := List.mem_map.mp ((h.keys hp).mpr hv)
        simp only at ea
        subst ea
        have ew := way_par I mm e
        rw [ew] at hl hw
        have hq : q < n := (h.keys hp).mp (I.parKey mm)
        have hqP : q ∈ P := hw q (List.mem_cons_of_mem _ (way_mem I ((h.keys hp).mpr hq)))
        have i2 := ih q (by simpa using hl) hq fun x hx => hw x (List.mem_cons_of_mem _ hx)
        obtain ⟨l, r, e2⟩ := List.append_of_mem mm
        have hl0 : l ≠ [] := fun z => by
          subst z
          obtain ⟨r', e3⟩ := I.root
          rw [e3] at e2
          have : (p, p) = (a, q) := by simpa using congrArg List.head? e2
          cases this
          exact e rfl
        rcases (I.par l a q r e2 hl0).2 with ht | ht
        · exact (cl (a, q) ht (hw a (List.mem_cons_self ..)) hqP).trans i2
        · exact (cl (q, a) ht hqP (hw a (List.mem_cons_self ..))).symm.trans i2
  have all : ∀ v ∈ P, v ∈ reach P T ↔ p ∈ reach P T := fun v hv => key _ v (Nat.le_refl _) (hP v hv).1 (hP v hv).2
  refine reach_all nd fun v hv => ?_
  cases P with
  | nil => cases hv
  | cons a r =>
    have := (all a (List.mem_cons_self ..)).mp (reach_head nd)
    exact (all v hv).mpr this
end
end MT
end
section
namespace VP
open VM MT
abbrev nats (ns : List Nat) : List PV := ns.map fun (i : Nat) => PV.int (i : Int)
abbrev strz (ss : List (List Nat)) : List PV := ss.map PV.str
abbrev face (f : List (List Nat)) : PV := .tup (strz f)
abbrev fcs (fs : List (List (List Nat))) : List PV := fs.map face
abbrev tie (t : Tie) : PV := .tup [.int (t.1 : Nat), .int (t.2 : Nat)]
abbrev ties (T : List Tie) : List PV := T.map tie
/-- what stood stands -/
def Grow (st st' : Store) : Prop := st.length ≤ st'.length ∧ ∀ i, i < st.length → st'[i]? = st[i]?
theorem Grow.refl {st : Store} : Grow st st := ⟨Nat.le_refl _, fun _ _ => rfl⟩
theorem Grow.trans {st st1 st2 : Store} (h : Grow st st1) (h' : Grow st1 st2) : Grow st st2 := ⟨Nat.le_trans h.1 h'.1, fun i hi => (h'.2 i (Nat.lt_of_lt_of_le hi h.1)).trans (h.2 i hi)⟩
theorem Grow.app {st : Store} {o : SO} : Grow st (st ++ [o]) := ⟨by simp, fun i hl => List.getElem?_append_left hl⟩
theorem Grow.put {st st' : Store} {j : Nat} {o : SO} (h : Grow st st') (hj : st.length ≤ j) : Grow st (st'.set j o) := ⟨by rw [List.length_set]; exact h.1, fun i hi => by rw [List.getElem?_set_ne (by omega)]; exact h.2 i hi⟩
theorem Grow.keep {st st' : Store} (h : Grow st st') (r : Nat) : Keep r st st' := ⟨h.1, fun i _ hi => h.2 i hi⟩
theorem Bag.grow {st st' : Store} {r b : Nat} (h : Bag st r b) (g : Grow st st') : Bag st' r b := by
  have hr := h.lt
  obtain ⟨c, i, dg, m, t, g1, g2⟩ := h
  exact ⟨c, i, dg, m, t, by rw [g.2 r hr]; exact g1, g2⟩
theorem stays_grow {st0 st st' : Store} {u : PV} (h0 : Grow st0 st) (g : Grow st0 st') (hu : ∀ j, u = .ref j → j < st0.length) : stays st u st' := by
  cases u <;> first | trivial | skip
  rename_i i
  show st'[i]? = st[i]?
  rw [g.2 i (hu i rfl), h0.2 i (hu i rfl)]
theorem sq_ref (st : Store) (i : Nat) : sq st (.ref i) = match st[i]? with | some (.lst xs) => some xs | _ => none := rfl
theorem sq_lt {st : Store} {u : PV} {xs : List PV} (h : sq st u = some xs) : ∀ j, u = .ref j → j < st.length := fun j e => by
  subst e
  rw [sq_ref] at h
  cases q : st[j]? with
  | none => rw [q] at h; cases h
  | some o => exact (List.getElem?_eq_some_iff.mp q).1
theorem sq_grow {st st' : Store} {u : PV} {xs : List PV} (h : sq st u = some xs) (g : Grow st st') : sq st' u = some xs := by
  have hl := sq_lt h
  cases u <;> first | exact h | skip
  rename_i i
  rw [sq_ref] at h ⊢
  rw [g.2 i (hl i rfl)]
  exact h
theorem isD0_int (n : Nat) (i : Int) : isD n (.int i) = true := by cases n <;> rfl
theorem isDL_nats (m : Nat) : ∀ ns : List Nat, isDL m (nats ns) = true
  | [] => by cases m <;> rfl
  | n :: ns => by
    show (isD m (.int n) && isDL m (nats ns)) = true
    rw [isDL_nats m ns, Bool.and_true]
    cases m <;> rfl
theorem isDL_strs (m : Nat) : ∀ ss : List (List Nat), isDL m (strz ss) = true
  | [] => by cases m <;> rfl
  | s :: ss => by
    show (isD m (.str s) && isDL m (strz ss)) = true
    rw [isDL_strs m ss, Bool.and_true]
    cases m <;> rfl
theorem isDL_fcs (m : Nat) : ∀ fs : List (List (List Nat)), isDL (m + 1) (fcs fs) = true
  | [] => rfl
  | f :: fs => by
    show (isD (m + 1) (face f) && isDL (m + 1) (fcs fs)) = true
    rw [isDL_fcs m fs, Bool.and_true]
    exact isDL_strs m f
theorem isDL_ties (m : Nat) : ∀ T : List Tie, isDL (m + 1) (ties T) = true
  | [] => rfl
  | t :: T => by
    show (isD (m + 1) (tie t) && isDL (m + 1) (ties T)) = true
    rw [isDL_ties m T, Bool.and_true]
    exact isDL_nats m [t.1, t.2]
theorem any_nats (n : Nat) : ∀ ns : List Nat, ((nats ns).any fun y => eqv y (.int (n : Int))) = decide (n ∈ ns)
  | [] => rfl
  | m :: ns => by
    show (((m : Int) == (n : Int)) || (nats ns).any fun y => eqv y (.int (n : Int))) = _
    rw [any_nats n ns, Bool.eq_iff_iff]
    simp only [Bool.or_eq_true, beq_iff_eq, decide_eq_true_eq, List.mem_cons]
    constructor
    · rintro (h | h)
      · exact .inl (by omega)
      · exact .inr h
    · rintro (h | h)
      · exact .inl (by omega)
      · exact .inr h
theorem any_strs (s : List Nat) : ∀ ss : List (List Nat), ((strz ss).any fun y => eqv y (.str s)) = decide (s ∈ ss)
  | [] => rfl
  | m :: ss => by
    show ((m == s) || (strz ss).any fun y => eqv y (.str s)) = _
    rw [any_strs s ss, Bool.eq_iff_iff]
    simp only [Bool.or_eq_true, beq_iff_eq, decide_eq_true_eq, List.mem_cons]
    exact ⟨fun z => z.imp Eq.symm id, fun z => z.imp Eq.symm id⟩
theorem in_nats (n : Nat) (ns : List Nat) (st : Store) (k : Bool → Store → Prop) : opIn (.int (n : Int)) (.lst (nats ns)) st k = k (decide (n ∈ ns)) st := by
  show (isD 0 (.int (n : Int)) = true ∧ isDL 0 (nats ns) = true ∧ k ((nats ns).any fun y => eqv y (.int (n : Int))) st) = _
  rw [isDL_nats, any_nats]
  simp [isD]
theorem in_strs (s : List Nat) (ss : List (List Nat)) (st : Store) (k : Bool → Store → Prop) : opIn (.str s) (.lst (strz ss)) st k = k (decide (s ∈ ss)) st := by
  show (isD 0 (.str s) = true ∧ isDL 0 (strz ss) = true ∧ k ((strz ss).any fun y => eqv y (.str s)) st) = _
  rw [isDL_strs, any_strs]
  simp [isD]
theorem in_face (s : List Nat) (ss : List (List Nat)) (st : Store) (k : Bool → Store → Prop) : opIn (.str s) (face ss) st k = k (decide (s ∈ ss)) st := by
  show (isD 0 (.str s) = true ∧ isDL 0 (strz ss) = true ∧ k ((strz ss).any fun y => eqv y (.str s)) st) = _
  rw [isDL_strs, any_strs]
  simp [isD]
mutual
theorem eqv_refl : ∀ (n : Nat) (x : PV), isD n x = true → eqv x x = true
  | _, .non, _ => rfl
  | _, .bl b, _ => by simp [eqv]
  | _, .int i, _ => by simp [eqv]
  | _, .str s, _ => by simp [eqv]
  | n, .tup xs, h => by
    cases n with
    | zero => simp [isD] at h
    | succ n => exact eqvL_refl n xs (by simpa [isD] using h)
  | n, .lst xs, h => by
    cases n with
    | zero => simp [isD] at h
    | succ n => exact eqvL_refl n xs (by simpa [isD] using h)
  | n, .dct _ _, h => by cases n <;> simp [isD] at h
  | n, .dctT _ _, h => by cases n <;> simp [isD] at h
  | n, .obj _ _ _, h => by cases n <;> simp [isD] at h
  | n, .scr _, h => by cases n <;> simp [isD] at h
  | n, .ref _, h => by cases n <;> simp [isD] at h
  | n, .ty _, h => by cases n <;> simp [isD] at h
  | n, .fn _, h => by cases n <;> simp [isD] at h
  | n, .cls _, h => by cases n <;> simp [isD] at h
theorem eqvL_refl : ∀ (n : Nat) (xs : List PV), isDL n xs = true → eqvL xs xs = true
  | _, [], _ => rfl
  | n, x :: xs, h => by
    have h : (isD n x && isDL n xs) = true := by
      cases n <;> simpa [isDL] using h
    rw [Bool.and_eq_true] at h
    show (eqv x x && eqvL xs xs) = true
    rw [eqv_refl n x h.1, eqvL_refl n xs h.2]
    rfl
end
/-- the same thing twice -/
theorem eq_same {x : PV} {st : Store} {k : Bool → Store → Prop} (h : isD 60 x = true) (hf : frz st x = x) (hk : k true st) : opEq x x st k := by
  unfold opEq
  rw [hf]
  exact ⟨h, h, by rw [eqv_refl 60 x h]; exact hk⟩
theorem ix_nat {α : Type} {xs : List α} {i : Nat} (h : i < xs.length) : ix xs.length (i : Int) = some i := by
  unfold ix
  rw [if_pos (by omega), if_pos (by omega)]
  rfl
theorem get_lst {xs : List PV} {i : Nat} {y : PV} {st : Store} {k : KV} (h : xs[i]? = some y) (hk : k y st) : getIx (.lst xs) (.int (i : Int)) st k := by
  have hi := (List.getElem?_eq_some_iff.mp h).1
  show (match asL st (.lst xs) with | some xs => (match ix xs.length (i : Int) with | some n => (match xs[n]? with | some y => k y st | none => False) | none => False) | none => False)
  simp only [asL, ix_nat hi, h]
  exact hk
theorem get_tup {xs : List PV} {i : Nat} {y : PV} {st : Store} {k : KV} (h : xs[i]? = some y) (hk : k y st) : getIx (.tup xs) (.int (i : Int)) st k := by
  have hi := (List.getElem?_eq_some_iff.mp h).1
  simp only [getIx, ix_nat hi, h]
  exact hk
theorem get_sq {u : PV} {xs : List PV} {i : Nat} {y : PV} {st : Store} {k : KV} (hu : sq st u = some xs) (h : xs[i]? = some y) (hk : k y st) : getIx u (.int (i : Int)) st k :=
  (sq_facts hu).2.2.2 i i y k (ix_nat (List.getElem?_eq_some_iff.mp h).1) h hk
theorem slc_take {α : Type} (xs : List α) (n : Nat) : slc xs none (some (n : Int)) = xs.take n := by
  unfold slc cutIx
  simp only []
  rw [if_neg (by omega), Int.toNat_natCast]
  show (xs.drop 0).take (min n xs.length - 0) = _
  rw [List.drop_zero, Nat.sub_zero]
  by_cases h : n ≤ xs.length
  · rw [Nat.min_eq_left h]
  · rw [Nat.min_eq_right (by omega), List.take_of_length_le (Nat.le_refl _), List.take_of_length_le (by omega)]
end VP
end
section
namespace VP
open VM MT
/-- names drawn, as many as wanted -/
def SpNamesM (cs : CS) : Prop := ∀ (m r : Nat) (st : Store), m ≤ 11 → Dr cs 46 [.int (m : Nat)] r 9 st fun v _ => ∃ ss : List (List Nat), v = .lst (ss.map .str) ∧ ss.length = m ∧ ss.Nodup ∧ ∀ s ∈ ss, nmS s = true ∧ 111 ∉ s
theorem namesM_at {FT : Nat → Option FD} {d : Nat} (hF : FT 46 = some ⟨2, 8, T__law_names⟩) (h1 : At FT d SpTake) (h2 : At FT d SpOf) (h3 : At FT d SpOfS) : At FT (d + 1) SpNamesM := at_of (C := fun cs => SpTake cs ∧ SpOf cs ∧ SpOfS cs) hF (fun n hn => ⟨h1 n hn, h2 n hn, h3 n hn⟩) fun cs cs' C go => by
  obtain ⟨tk, of, ofS⟩ := C
  intro mm r st hmm b k x hb hk
  refine go _ _ _ _ rfl ?_
  simp only [T__law_names, sCons, sSet, eJoin, eComp, iRange1, eCall, aCons, aNil, eVar, eC, gName, isStr, List.map_cons, List.map_nil, List.replicate_succ, List.replicate_zero, List.cons_append, List.nil_append, Nat.reduceSub, List.getElem?_cons_zero, List.getElem?_cons_succ, List.set_cons_zero, List.set_cons_succ, true_and]
  refine tk r 6 (by decide) st (b + 8) _ _ hb fun v st1 hv hb1 k1 => ?_
  obtain ⟨m, rfl, m0, m1⟩ := hv
  refine ⟨by unfold i62; omega, ?_⟩
  have hn : ((List.range m.toNat).map fun i : Nat => PV.int (i : Int)).length = m.toNat := by rw [List.length_map, List.length_range]
  refine comp_signs (r := r) (c := 1) (b := b + 3) (S := L25) _ (fun v st' b' k' hb' hk' => ?_) (by rw [hn]; show _ ≤ 16777216; omega) (by rw [hn]; exact hb1.le (by omega)) fun s st2 hs sm hb2 k2 => ?_
  · simp only [turn, gName, tYes, wipe, List.set_cons_zero, List.set_cons_succ, if_true, eCall, aCons, aNil, eVar, List.getElem?_cons_zero, List.getElem?_cons_succ]
    refine ofS r L25 st' (by decide) b' _ _ hb' fun z st3 hz hb3 k3 => ?_
    obtain ⟨c, hc, rfl⟩ := hz
    exact hk' c st3 hc hb3 k3
  rw [hn] at hs
  simp only [seqOf, asL, strs_signs]
  refine ⟨by rw [sum_signs, List.length_map]; show _ ≤ 16777216; simp; omega, ?_⟩
  rw [join_signs]
  simp only [wipe, List.set_cons_zero, List.set_cons_succ, sCons, sSet, eTup, eCall, aCons, aNil, eBin, eB1, fLen, bLen, eVar, eC, List.getElem?_cons_zero, List.getElem?_cons_succ, opBin, opAdd]
  refine tk r ((s.length : Int) + 1) (by omega) st2 (b + 2) _ _ hb2 fun v st3 hv hb3 k3 => ?_
  obtain ⟨a, rfl, a0, a1⟩ := hv
  refine tk r 25 (by decide) st3 (b + 1) _ _ hb3 fun v st4 hv hb4 k4 => ?_
  obtain ⟨f, rfl, f0, f1⟩ := hv
  refine ⟨by show 2 ≤ 16777216; decide, ?_⟩
  simp only [gTup, gEach, gName, List.length_cons, List.length_nil, List.set_cons_zero, List.set_cons_succ, true_and, sCons, sSet, eCall, eLst, aCons, aNil, eVar, eC, List.getElem?_cons_zero, List.getElem?_cons_succ]
  refine ⟨by show 10 ≤ 16777216; decide, ?_⟩
  refine of r (.lst _) _ st4 rfl (by simp) (by simp) (fun _ e => by cases e) b _ _ hb4 fun v st5 hv hb5 k5 => ?_
  obtain ⟨t, rfl, ht⟩ : ∃ t : Int, v = .int t ∧ t ∈ stepsL := by
    simp only [List.mem_cons, List.not_mem_nil, or_false] at hv
    rcases hv with h | h | h | h | h | h | h | h | h | h <;> exact ⟨_, h, by decide⟩
  have tb : t.natAbs ≤ 12 := by
    have key : ∀ t ∈ stepsL, t.natAbs ≤ 12 := by decide
    exact key t ht
  have sl : s.length ≤ 5 := by omega
  simp only [sRet, eComp, iRange1, eVar, List.getElem?_cons_zero, List.getElem?_cons_succ]
  refine ⟨by unfold i62; omega, ?_⟩
  rw [Int.toNat_natCast]
  refine comp_of (fun i : Nat => PV.int (i : Int)) (fun i => some (.str (nameK s a.toNat f t i))) trivial (List.range mm) (fun i hi k' hk' => ?_) (by rw [List.length_range]; show _ ≤ 16777216; omega) ?_
  · have i11 : i < 11 := Nat.lt_of_lt_of_le (List.mem_range.mp hi) hmm
    simp only [turn, gName, tYes, wipe, List.set_cons_zero, List.set_cons_succ, if_true, eBin, eSl, eIx, eB1, fInt, eVar, eC, List.getElem?_cons_zero, List.getElem?_cons_succ, getSl, opBin, opMul, opAdd, opMod]
    rw [slc_to a0 (by omega), slc_from a0 (by omega)]
    refine ⟨mo (n := 10) (m := 10) (by show (i : Int).natAbs < 1024; omega) (by show t.natAbs < 1024; omega) (by decide), by decide, ?_⟩
    have q0 := Int.fmod_nonneg_of_pos (f + i * t) (show (0 : Int) < 25 by decide)
    have q1 := Int.fmod_lt_of_pos (f + i * t) (show (0 : Int) < 25 by decide)
    have ei : ix 25 ((f + i * t).fmod 25) = some ((f + i * t).fmod 25).toNat := ixN q0 q1
    have hlt : ((f + i * t).fmod 25).toNat < L25.length := by show _ < 25; omega
    have eg : L25[((f + i * t).fmod 25).toNat]? = some (nth25 ((f + i * t).fmod 25)) := by
      unfold nth25
      rw [List.getD_eq_getElem?_getD, List.getElem?_eq_getElem hlt]
      rfl
    show getIx (.str L25) _ _ _
    have e25 : L25.length = 25 := rfl
    simp only [getIx, e25, ei, eg]
    refine ⟨?_, ?_, hk'⟩
    · rw [List.length_take]
      show _ + 1 ≤ 16777216
      omega
    · rw [List.length_append, List.length_take, List.length_drop]
      show _ + 1 + _ ≤ 16777216
      omega
  · rw [show (fun i : Nat => some (PV.str (nameK s a.toNat f t i))) = some ∘ (fun i => PV.str (nameK s a.toNat f t i)) from rfl, List.filterMap_eq_map]
    refine hk _ _ ⟨(List.range mm).map (nameK s a.toNat f t), by rw [List.map_map]; rfl, by rw [List.length_map, List.length_range], ?_, fun z hz => ?_⟩ hb5 ((((k1.trans k2).trans k3).trans k4).trans k5)
    · refine List.pairwise_map.mpr (List.Pairwise.imp_of_mem (fun {i j} hi hj hne e => hne ?_) (List.nodup_range (n := mm)))
      exact nameK_inj ht (Nat.lt_of_lt_of_le (List.mem_range.mp hi) hmm) (Nat.lt_of_lt_of_le (List.mem_range.mp hj) hmm) e
    · obtain ⟨i, _, rfl⟩ := List.mem_map.mp hz
      exact nameK_ok sl sm i
/-- mixed texts -/
theorem mixS {cs : CS} (mx : SpMixed cs) {r b : Nat} {things : PV} {ss : List (List Nat)} {st : Store} {k x : KV} (h : asL st things = some (strz ss)) (hr : things ≠ .ref r) (hl : ss.length ≤ 1000) (hb : Bag st r (b + ss.length))
    (hk : ∀ (zs : List (List Nat)) st', zs.Perm ss → st'[st.length]? = some (.lst (strz zs)) → Bag st' r b → Keep r st st' → k (.ref st.length) st') : cs 17 [.ref r, things] st k x := by
  refine mx r things (strz ss) st h hr (by rw [List.length_map]; exact hl) b k x (by rw [List.length_map]; exact hb) fun v st' hv hb' kp => ?_
  obtain ⟨ys, rfl, hy, pm⟩ := hv
  obtain ⟨zs, rfl, pz⟩ := perm_strs pm
  exact hk zs st' pz hy hb' kp
theorem asL_ref {st : Store} {j : Nat} {xs : List PV} (h : st[j]? = some (.lst xs)) : asL st (.ref j) = some xs := by
  simp only [asL, h]
/-- lists of the store, by place -/
structure FcsAt (st : Store) (lo : Nat) (js : List Nat) (fs : List (List (List Nat))) : Prop where
  len : js.length = fs.length
  lst : ∀ (i j : Nat) (f : List (List Nat)), js[i]? = some j → fs[i]? = some f → st[j]? = some (.lst (strz f))
  lo : ∀ j ∈ js, lo ≤ j ∧ j < st.length
theorem FcsAt.keep {st st' : Store} {lo r : Nat} {js : List Nat} {fs : List (List (List Nat))} (h : FcsAt st lo js fs) (k : Keep r st st') (hr : r < lo) : FcsAt st' lo js fs where
  len := h.len
  lst := fun i j f e1 e2 => by
    have := h.lo j (List.mem_of_getElem? e1)
    rw [k.2 j (by omega) this.2]
    exact h.lst i j f e1 e2
  lo := fun j hj => ⟨(h.lo j hj).1, Nat.lt_of_lt_of_le (h.lo j hj).2 k.1⟩
theorem FcsAt.put {st : Store} {lo p : Nat} {o : SO} {js : List Nat} {fs : List (List (List Nat))} (h : FcsAt st lo js fs) (hp : p ∉ js) : FcsAt (st.set p o) lo js fs where
  len := h.len
  lst := fun i j f e1 e2 => by
    have : p ≠ j := fun z => hp (z ▸ List.mem_of_getElem? e1)
    rw [List.getElem?_set_ne this]
    exact h.lst i j f e1 e2
  lo := fun j hj => by
    rw [List.length_set]
    exact h.lo j hj
theorem FcsAt.app {st : Store} {lo : Nat} {o : SO} {js : List Nat} {fs : List (List (List Nat))} (h : FcsAt st lo js fs) : FcsAt (st ++ [o]) lo js fs where
  len := h.len
  lst := fun i j f e1 e2 => by
    rw [List.getElem?_append_left (h.lo j (List.mem_of_getElem? e1)).2]
    exact h.lst i j f e1 e2
  lo := fun j hj => by
    have := h.lo j hj
    rw [List.length_append, List.length_singleton]
    omega
theorem FcsAt.snoc {st : Store} {lo j : Nat} {f : List (List Nat)} {js : List Nat} {fs : List (List (List Nat))} (h : FcsAt st lo js fs) (hj : st[j]? = some (.lst (strz f))) (hl : lo ≤ j) : FcsAt st lo (js ++ [j]) (fs ++ [f]) where
  len := by simp [h.len]
  lst := fun i j' f' e1 e2 => by
    by_cases hi : i < js.length
    · rw [List.getElem?_append_left hi] at e1
      rw [List.getElem?_append_left (by rw [← h.len]; exact hi)] at e2
      exact h.lst i j' f' e1 e2
    · have : i = js.length := by
        have := (List.getElem?_eq_some_iff.mp e1).1
        simp at this
        omega
      subst this
      rw [List.getElem?_append_right (Nat.le_refl _)] at e1
      rw [h.len, List.getElem?_append_right (Nat.le_refl _)] at e2
      simp at e1 e2
      subst e1 e2
      exact hj
  lo := fun j' hj' => by
    rcases List.mem_append.mp hj' with m | m
    · exact h.lo j' m
    · rw [List.mem_singleton.mp m]
      exact ⟨hl, (List.getElem?_eq_some_iff.mp hj).1⟩
end VP
end
section
namespace VP
open VM MT
def SpReach (f : Nat) (cs : CS) : Prop := ∀ (P : List Nat) (tl : PV) (T : List Tie) (st : Store) (k x : KV), sq st tl = some (ties T) → P.Nodup → P.length ≤ 1000 → k (.lst (nats (reach P T))) st → cs f [.lst (nats P), tl] st k x
theorem foldl_snoc {α β : Type} (g : β → α → β) (b : β) (l : List α) (x : α) : (l ++ [x]).foldl g b = g (l.foldl g b) x := by rw [List.foldl_append]; rfl
/-- f holds different places of P -/
def Gd (P f : List Nat) : Prop := f.Nodup ∧ ∀ v ∈ f, v ∈ P
theorem Gd.stp {P f : List Nat} {t : Tie} (h : Gd P f) : Gd P (stp P f t) := by
  rcases stp_cases P f t with e | ⟨w, e, h1, h2, _⟩ <;> rw [e]
  · exact h
  · refine ⟨List.nodup_append.mpr ⟨h.1, by simp, fun x hx y hy => ?_⟩, fun v hv => ?_⟩
    · rw [List.mem_singleton.mp hy]
      exact fun z => h1 (z ▸ hx)
    · rcases List.mem_append.mp hv with hv | hv
      · exact h.2 v hv
      · rw [List.mem_singleton.mp hv]
        exact h2
theorem Gd.le {P f : List Nat} (h : Gd P f) : f.length ≤ P.length := nodup_le h.1 h.2
theorem nats_snoc (f : List Nat) (n : Nat) : nats f ++ [.int (n : Int)] = nats (f ++ [n]) := by simp
theorem if_dec {c : Prop} [Decidable c] {a b : Prop} : (if decide c = true then a else b) = if c then a else b := by
  by_cases h : c
  · rw [if_pos h, if_pos (decide_eq_true h)]
  · rw [if_neg h, if_neg (by simpa using h)]
theorem if_ndec {c : Prop} [Decidable c] {a b : Prop} : (if (!decide c) = true then a else b) = if c then b else a := by
  by_cases h : c
  · rw [if_pos h, if_neg (by simp [h])]
  · rw [if_neg h, if_pos (by simp [h])]
theorem take1_nats (P : List Nat) : (nats P).take 1 = nats (P.take 1) := List.map_take.symm
/-- the two loops, whatever the inner one's body is -/
theorem reach_loop {body : TS} {P : List Nat} {tl : PV} {T : List Tie} {st : Store} {D : Ends} (hs : sq st tl = some (ties T)) (nd : P.Nodup) (hP : P.length ≤ 1000)
    (hb : ∀ (f : List Nat) (t : Tie) (a3 : Option PV) (D' : Ends), Gd P f → (∀ a3 a4 a5, D'.nx [some (.lst (nats P)), some tl, some (.lst (nats (stp P f t))), a3, a4, a5] st) →
      body D' [some (.lst (nats P)), some tl, some (.lst (nats f)), a3, some (.int (t.1 : Nat)), some (.int (t.2 : Nat))] st)
    (hk : ∀ a3 a4 a5, D.nx [some (.lst (nats P)), some tl, some (.lst (nats (reach P T))), a3, a4, a5] st) :
    sFor (iRange1 (eB1 fLen (eVar 0))) (gName 3) (sFor (iE (eVar 1)) (gTup [(gName 4), (gName 5)]) body) D [some (.lst (nats P)), some tl, some (.lst (nats (P.take 1))), none, none, none] st := by
  obtain ⟨s1, s2, s3, s4⟩ := sq_facts hs
  have gd0 : Gd P (P.take 1) := ⟨nd.sublist (List.take_sublist _ _), fun v h => List.mem_of_mem_take h⟩
  simp only [sFor, iRange1, eB1, fLen, bLen, asL, eVar, List.getElem?_cons_zero, List.length_map]
  refine ⟨by unfold i62; omega, ?_⟩
  refine for_inv (fun rem ρ st' => st = st' ∧ ∃ i a3 a4 a5, rem.length + i = P.length ∧ Gd P (itr (rnd P T) i (P.take 1)) ∧ ρ = [some (.lst (nats P)), some tl, some (.lst (nats (itr (rnd P T) i (P.take 1)))), a3, a4, a5]) ?_ ?_ _ _ _ ⟨rfl, 0, none, none, none, by simp, gd0, rfl⟩
  · rintro v rem ρ st' ⟨rfl, i, a3, a4, a5, hl, gd, rfl⟩
    refine ⟨trivial, fun D' d1 d2 d3 d4 d5 => ?_⟩
    simp only [sFor, gName, iE, eVar, List.set_cons_succ, List.set_cons_zero, List.getElem?_cons_succ, List.getElem?_cons_zero, s1]
    refine ⟨s2, ?_⟩
    refine for_inv (fun rem' ρ st' => st = st' ∧ ∃ pre suf a3 a4 a5, pre ++ suf = T ∧ rem' = ties suf ∧ Gd P (rnd P pre (itr (rnd P T) i (P.take 1))) ∧ ρ = [some (.lst (nats P)), some tl, some (.lst (nats (rnd P pre (itr (rnd P T) i (P.take 1))))), a3, a4, a5]) ?_ ?_ _ _ _ ⟨rfl, [], T, _, _, _, rfl, rfl, gd, rfl⟩
    · rintro v rem' ρ st' ⟨rfl, pre, suf, a3, a4, a5, e1, e2, gd, rfl⟩
      refine ⟨stays_self _ _, fun D2 d1 d2 d3 d4 d5 => ?_⟩
      cases suf with
      | nil => cases e2
      | cons t suf =>
        cases e2
        simp only [gTup, gEach, gName, List.length_cons, List.length_nil, true_and, List.set_cons_succ, List.set_cons_zero]
        have en : rnd P (pre ++ [t]) (itr (rnd P T) i (P.take 1)) = stp P (rnd P pre (itr (rnd P T) i (P.take 1))) t := foldl_snoc _ _ _ _
        refine hb _ t a3 D2 gd fun b3 b4 b5 => d4 _ _ ⟨rfl, pre ++ [t], suf, b3, b4, b5, by rw [List.append_assoc]; exact e1, rfl, by rw [en]; exact gd.stp, by rw [en]⟩
    · rintro ρ st' ⟨rfl, pre, suf, a3, a4, a5, e1, e2, gd, rfl⟩
      cases suf with
      | cons t suf => cases e2
      | nil =>
        rw [List.append_nil] at e1
        subst e1
        refine ⟨stays_self _ _, d4 _ _ ⟨rfl, i + 1, a3, a4, a5, by rw [List.length_cons] at hl; omega, ?_, ?_⟩⟩
        · rw [itr_succ]
          exact gd
        · rw [itr_succ]
  · rintro ρ st' ⟨rfl, i, a3, a4, a5, hl, gd, rfl⟩
    have : i = P.length := by simpa using hl
    subst this
    exact ⟨trivial, hk a3 a4 a5⟩
theorem linked_at {FT : Nat → Option FD} (hF : FT 68 = some ⟨2, 6, T_linked⟩) : At FT 1 (SpReach 68) := at_of (C := fun _ => True) hF (fun _ _ => trivial) fun cs cs' _ go => by
  intro P tl T st k x hs nd hP hk
  refine go _ _ _ _ rfl ?_
  rw [T_linked, sCons]
  simp only [sSet, eB1, fList, eSl, eC, eVar, gName, getSl, asL, seqOf, List.map_cons, List.map_nil, List.replicate_succ, List.replicate_zero, List.cons_append, List.nil_append, List.getElem?_cons_zero, List.set_cons_succ, List.set_cons_zero, Nat.reduceSub]
  rw [show slc (nats P) none (some 1) = (nats P).take 1 from slc_take (nats P) 1, take1_nats, sCons]
  refine reach_loop hs nd hP (fun f t a3 D' gd hn => ?_) fun a3 a4 a5 => ?_
  · have hl := gd.le
    have hz : ∀ w : Nat, (nats f).length + [PV.int (w : Int)].length ≤ SZ := fun w => by
      show _ ≤ 16777216
      rw [List.length_map, List.length_singleton]
      omega
    have e : stp P f t = if t.1 ∈ P ∧ t.2 ∈ P then (if t.1 ∈ f then (if t.2 ∈ f then f else f ++ [t.2]) else (if t.2 ∈ f then f ++ [t.1] else f)) else f := rfl
    simp only [sIf, sCons, sNil, sSet, gName, tAnd, tCmp, eVar, eBin, eLst, aCons, aNil, opCm, opBin, opAdd, asL, in_nats, if_dec, if_ndec, List.getElem?_cons_zero, List.getElem?_cons_succ, List.set_cons_succ, List.set_cons_zero]
    by_cases h1 : t.1 ∈ P
    · by_cases h2 : t.2 ∈ P
      · rw [if_pos ⟨h1, h2⟩] at e
        rw [if_pos h1, if_pos h2]
        by_cases f1 : t.1 ∈ f
        · rw [if_pos f1] at e
          by_cases f2 : t.2 ∈ f
          · rw [if_pos f2] at e
            simp only [f1, f2, if_true]
            rw [e] at hn
            exact hn _ _ _
          · rw [if_neg f2] at e
            simp only [f1, f2, if_true, if_false]
            refine ⟨by show 1 ≤ 16777216; decide, hz _, ?_⟩
            rw [nats_snoc]
            have f3 : t.1 ∈ f ++ [t.2] := List.mem_append_left _ f1
            simp only [in_nats, if_dec, if_ndec, f3, if_true, ite_self, Bool.false_eq_true, if_false]
            rw [e] at hn
            exact hn _ _ _
        · rw [if_neg f1] at e
          by_cases f2 : t.2 ∈ f
          · rw [if_pos f2] at e
            simp only [f1, f2, if_true, if_false]
            refine ⟨by show 1 ≤ 16777216; decide, hz _, ?_⟩
            rw [nats_snoc]
            rw [e] at hn
            exact hn _ _ _
          · rw [if_neg f2] at e
            simp only [f1, f2, if_false]
            rw [e] at hn
            exact hn _ _ _
      · rw [if_neg fun z => h2 z.2] at e
        simp only [h1, h2, if_true, if_false]
        rw [e] at hn
        exact hn _ _ _
    · rw [if_neg fun z => h1 z.1] at e
      simp only [h1, if_false]
      rw [e] at hn
      exact hn _ _ _
  · simp only [sRet, eVar, List.getElem?_cons_succ, List.getElem?_cons_zero]
    exact hk
theorem reached_at {FT : Nat → Option FD} (hF : FT 76 = some ⟨2, 6, T__law_reached⟩) : At FT 1 (SpReach 76) := at_of (C := fun _ => True) hF (fun _ _ => trivial) fun cs cs' _ go => by
  intro P tl T st k x hs nd hP hk
  refine go _ _ _ _ rfl ?_
  rw [T__law_reached, sCons]
  simp only [sSet, eSl, eC, eVar, gName, getSl, asL, List.map_cons, List.map_nil, List.replicate_succ, List.replicate_zero, List.cons_append, List.nil_append, List.getElem?_cons_zero, List.set_cons_succ, List.set_cons_zero, Nat.reduceSub]
  rw [show slc (nats P) none (some 1) = (nats P).take 1 from slc_take (nats P) 1, take1_nats, sCons]
  refine reach_loop hs nd hP (fun f t a3 D' gd hn => ?_) fun a3 a4 a5 => ?_
  · have hl := gd.le
    have hz : ∀ w : Nat, (nats f).length + [PV.int (w : Int)].length ≤ SZ := fun w => by
      show _ ≤ 16777216
      rw [List.length_map, List.length_singleton]
      omega
    have e : stp P f t = if t.1 ∈ P ∧ t.2 ∈ P then (if t.1 ∈ f then (if t.2 ∈ f then f else f ++ [t.2]) else (if t.2 ∈ f then f ++ [t.1] else f)) else f := rfl
    simp only [sIf, sCons, sNil, sSet, gName, tAnd, tCmp, eCmp, eIf, eVar, eBin, eLst, aCons, aNil, opCm, opEq, frz, isD, eqv, opBin, opAdd, asL, in_nats, if_dec, if_ndec, List.getElem?_cons_zero, List.getElem?_cons_succ, List.set_cons_succ, List.set_cons_zero, true_and]
    by_cases h1 : t.1 ∈ P
    · by_cases h2 : t.2 ∈ P
      · rw [if_pos ⟨h1, h2⟩] at e
        rw [if_pos h1, if_pos h2]
        by_cases f1 : t.1 ∈ f
        · rw [if_pos f1] at e
          by_cases f2 : t.2 ∈ f
          · rw [if_pos f2] at e
            rw [e] at hn
            simp only [f1, f2, decide_true, beq_self_eq_true, Bool.not_true, Bool.false_eq_true, if_false]
            exact hn _ _ _
          · rw [if_neg f2] at e
            rw [e] at hn
            simp only [f1, f2, decide_true, decide_false, if_true]
            refine ⟨by show 1 ≤ 16777216; decide, hz _, ?_⟩
            rw [nats_snoc]
            exact hn _ _ _
        · rw [if_neg f1] at e
          by_cases f2 : t.2 ∈ f
          · rw [if_pos f2] at e
            rw [e] at hn
            simp only [f1, f2, decide_true, decide_false, if_false]
            refine ⟨by show 1 ≤ 16777216; decide, hz _, ?_⟩
            rw [nats_snoc]
            exact hn _ _ _
          · rw [if_neg f2] at e
            rw [e] at hn
            simp only [f1, f2, decide_false, beq_self_eq_true, Bool.not_true, Bool.false_eq_true, if_false]
            exact hn _ _ _
      · rw [if_neg fun z => h2 z.2] at e
        simp only [h1, h2, if_true, if_false]
        rw [e] at hn
        exact hn _ _ _
    · rw [if_neg fun z => h1 z.1] at e
      simp only [h1, if_false]
      rw [e] at hn
      exact hn _ _ _
  · simp only [sRet, eVar, List.getElem?_cons_succ, List.getElem?_cons_zero]
    exact hk
end VP
end
section
namespace VM
theorem ltS_iff : ∀ a b : List Nat, ltS a b = true ↔ a < b
  | [], [] => by simp [ltS]
  | [], y :: ys => by simp [ltS]
  | x :: xs, [] => by simp [ltS]
  | x :: xs, y :: ys => by
    unfold ltS
    rw [List.cons_lt_cons_iff]
    by_cases h : x < y
    · simp [h]
    · by_cases e : x = y
      · subst e
        simp [ltS_iff xs ys]
      · simp [h, e]
def asc (l : List (List Nat)) : Prop := l.Pairwise fun a b => ltS b a = false
theorem ltS_irrefl (a : List Nat) : ltS a a = false := by
  cases h : ltS a a with
  | false => rfl
  | true => exact absurd ((ltS_iff a a).mp h) (List.lt_irrefl a)
theorem ltS_trans {a b c : List Nat} (h : ltS a b = true) (h' : ltS b c = true) : ltS a c = true := (ltS_iff a c).mpr (List.lt_trans ((ltS_iff a b).mp h) ((ltS_iff b c).mp h'))
theorem ltS_tri {a b : List Nat} (h : ltS a b = false) (h' : ltS b a = false) : a = b := by
  have h1 : ¬ a < b := fun z => by rw [(ltS_iff a b).mpr z] at h; cases h
  have h2 : ¬ b < a := fun z => by rw [(ltS_iff b a).mpr z] at h'; cases h'
  exact List.le_antisymm (List.not_lt.mp h2) (List.not_lt.mp h1)
theorem ltS_asym {a b : List Nat} (h : ltS a b = true) : ltS b a = false := by
  cases q : ltS b a with
  | false => rfl
  | true => exact absurd (ltS_trans h q) (by rw [ltS_irrefl]; decide)
theorem le_trans' {a b c : List Nat} (h : ltS b a = false) (h' : ltS c b = false) : ltS c a = false := by
  cases q : ltS c a with
  | false => rfl
  | true =>
    by_cases e : ltS a b = true
    · rw [ltS_trans q e] at h'
      cases h'
    · have e : ltS a b = false := by simpa using e
      have := ltS_tri h e
      subst this
      rw [q] at h'
      cases h'
theorem insS_perm (x : List Nat) : ∀ l, (insS x l).Perm (x :: l)
  | [] => List.Perm.refl _
  | y :: ys => by
    unfold insS
    split
    · exact ((insS_perm x ys).cons y).trans (List.Perm.swap x y ys)
    · exact List.Perm.refl _
theorem sortS_perm : ∀ l, (sortS l).Perm l
  | [] => List.Perm.refl _
  | x :: xs => by
    unfold sortS
    exact (insS_perm x _).trans ((sortS_perm xs).cons x)
theorem insS_asc (x : List Nat) : ∀ l, asc l → asc (insS x l)
  | [], _ => List.pairwise_singleton _ _
  | y :: ys, h => by
    obtain ⟨h1, h2⟩ := List.pairwise_cons.mp h
    unfold insS
    split
    · rename_i q
      refine List.pairwise_cons.mpr ⟨fun z hz => ?_, insS_asc x ys h2⟩
      rcases List.mem_cons.mp ((insS_perm x ys).mem_iff.mp hz) with rfl | hz
      · exact ltS_asym q
      · exact h1 z hz
    · rename_i q
      have q : ltS y x = false := by simpa using q
      refine List.pairwise_cons.mpr ⟨fun z hz => ?_, h⟩
      rcases List.mem_cons.mp hz with rfl | hz
      · exact q
      · exact le_trans' q (h1 z hz)
theorem sortS_asc : ∀ l, asc (sortS l)
  | [] => List.Pairwise.nil
  | x :: xs => insS_asc x _ (sortS_asc xs)
theorem asc_uniq : ∀ {l l' : List (List Nat)}, asc l → asc l' → l.Perm l' → l = l'
  | [], l', _, _, p => p.nil_eq
  | x :: xs, l', h, h', p => by
    cases l' with
    | nil => exact absurd p.length_eq (by simp)
    | cons y ys =>
      obtain ⟨h1, h2⟩ := List.pairwise_cons.mp h
      obtain ⟨h3, h4⟩ := List.pairwise_cons.mp h'
      have e : x = y := by
        rcases List.mem_cons.mp (p.mem_iff.mp (List.mem_cons_self ..)) with e | m
        · exact e
        · rcases List.mem_cons.mp (p.symm.mem_iff.mp (List.mem_cons_self ..)) with e | m'
          · exact e.symm
          · exact ltS_tri (h3 x m) (h1 y m') |>.symm ▸ rfl
      subst e
      rw [asc_uniq h2 h4 (List.Perm.cons_inv p)]
theorem dedup_mem {x : List Nat} : ∀ {l : List (List Nat)}, x ∈ dedup l ↔ x ∈ l
  | [] => Iff.rfl
  | y :: ys => by
    unfold dedup
    split
    · rename_i h
      rw [dedup_mem, List.mem_cons]
      exact ⟨.inr, fun z => z.elim (fun e => e ▸ List.contains_iff_mem.mp h) id⟩
    · rw [List.mem_cons, List.mem_cons, dedup_mem]
theorem dedup_nd : ∀ l : List (List Nat), (dedup l).Nodup
  | [] => List.nodup_nil
  | y :: ys => by
    unfold dedup
    split
    · exact dedup_nd ys
    · rename_i h
      exact List.nodup_cons.mpr ⟨fun z => h (List.contains_iff_mem.mpr (dedup_mem.mp z)), dedup_nd ys⟩
theorem asc_sub {l m : List (List Nat)} (h : l.Sublist m) (a : asc m) : asc l := List.Pairwise.sublist h a
theorem sortS_of_asc {l : List (List Nat)} (h : asc l) : sortS l = l := asc_uniq (sortS_asc l) h (sortS_perm l)
/-- the names of some faces -/
def nam (fs : List (List (List Nat))) : List (List Nat) := sortS (dedup fs.flatten)
theorem nam_mem {fs : List (List (List Nat))} {s : List Nat} : s ∈ nam fs ↔ ∃ f ∈ fs, s ∈ f := by
  unfold nam
  rw [(sortS_perm _).mem_iff, dedup_mem, List.mem_flatten]
theorem nam_nd (fs : List (List (List Nat))) : (nam fs).Nodup := (sortS_perm _).nodup_iff.mpr (dedup_nd _)
theorem nam_asc (fs : List (List (List Nat))) : asc (nam fs) := sortS_asc _
theorem nam_len (fs : List (List (List Nat))) : (nam fs).length = (dedup fs.flatten).length := (sortS_perm _).length_eq
theorem nam_congr {fs gs : List (List (List Nat))} (h : ∀ s, (∃ f ∈ fs, s ∈ f) ↔ ∃ f ∈ gs, s ∈ f) : nam fs = nam gs := by
  refine asc_uniq (nam_asc fs) (nam_asc gs) ?_
  refine (List.perm_ext_iff_of_nodup (nam_nd fs) (nam_nd gs)).mpr fun s => ?_
  rw [nam_mem, nam_mem]
  exact h s
end VM
end
section
namespace VP
open VM MT
abbrev Fm := List (List (List Nat))
def SpOne (f : Nat) (cs : CS) : Prop := ∀ (n : Nat) (tl : PV) (T : List Tie) (st : Store) (k x : KV), sq st tl = some (ties T) → Tree n T → n ≤ 1000 → k (.bl true) st → cs f [.int (n : Nat), tl] st k x
theorem one_at {FT : Nat → Option FD} {d : Nat} (hF : FT 69 = some ⟨2, 2, T_is_one_tree⟩) (h1 : At FT d (SpReach 68)) : At FT (d + 1) (SpOne 69) := at_of hF h1 fun cs cs' rc go => by
  intro n tl T st k x hs ht hn hk
  obtain ⟨s1, s2, s3, s4⟩ := sq_facts hs
  refine go _ _ _ _ rfl ?_
  have hnum := ht.num
  have e1 : ((T.length : Int) == (n : Int) - 1) = true := by
    rw [beq_iff_eq]
    omega
  simp only [T_is_one_tree, sRet, eAnd, eCmp, eB1, fLen, eBin, eC, eVar, eCall, eRangeL, aCons, aNil, opCm, opEq, frz, isD, eqv, opBin, opSub, truth, D0, List.map_cons, List.map_nil, List.replicate_zero, List.cons_append, List.nil_append, List.append_nil, List.getElem?_cons_zero, List.getElem?_cons_succ, s3, List.length_map, e1, true_and, Nat.reduceSub]
  refine ⟨by unfold i62; omega, by show _ ≤ 16777216; omega, ?_⟩
  rw [Int.toNat_natCast]
  refine rc (List.range n) tl T st _ _ hs List.nodup_range (by simpa using hn) ?_
  simp only [bLen, asL, List.length_map, ht.one, beq_self_eq_true]
  exact hk
theorem lone_at {FT : Nat → Option FD} {d : Nat} (hF : FT 78 = some ⟨2, 2, T__law_one_tree⟩) (h1 : At FT d (SpReach 76)) : At FT (d + 1) (SpOne 78) := at_of hF h1 fun cs cs' rc go => by
  intro n tl T st k x hs ht hn hk
  obtain ⟨s1, s2, s3, s4⟩ := sq_facts hs
  refine go _ _ _ _ rfl ?_
  have hnum := ht.num
  have e1 : ((T.length : Int) == (n : Int) - 1) = true := by
    rw [beq_iff_eq]
    omega
  simp only [T__law_one_tree, sRet, eAnd, eCmp, eB1, fLen, eBin, eC, eVar, eCall, eRangeL, aCons, aNil, opCm, opEq, frz, isD, eqv, opBin, opSub, truth, D0, List.map_cons, List.map_nil, List.replicate_zero, List.cons_append, List.nil_append, List.append_nil, List.getElem?_cons_zero, List.getElem?_cons_succ, s3, List.length_map, e1, true_and, Nat.reduceSub]
  refine ⟨by unfold i62; omega, by show _ ≤ 16777216; omega, ?_⟩
  rw [Int.toNat_natCast]
  refine rc (List.range n) tl T st _ _ hs List.nodup_range (by simpa using hn) ?_
  simp only [bLen, asL, List.length_map, ht.one, beq_self_eq_true]
  exact hk
/-- the places of the faces that have a name -/
def hold (fs : Fm) (s : List Nat) : List Nat := (List.range fs.length).filter fun i => decide (s ∈ fs.getD i [])
theorem hold_nd (fs : Fm) (s : List Nat) : (hold fs s).Nodup := (List.nodup_range).sublist (List.filter_sublist ..)
theorem hold_mem {fs : Fm} {s : List Nat} {i : Nat} : i ∈ hold fs s ↔ i < fs.length ∧ s ∈ fs.getD i [] := by
  unfold hold
  rw [List.mem_filter, List.mem_range, decide_eq_true_eq]
theorem hold_len (fs : Fm) (s : List Nat) : (hold fs s).length ≤ fs.length := by
  have := List.length_filter_le (fun i => decide (s ∈ fs.getD i [])) (List.range fs.length)
  rw [List.length_range] at this
  exact this
def SpHold (f : Nat) (cs : CS) : Prop := ∀ (fl : PV) (fs : Fm) (s : List Nat) (st : Store) (k x : KV), sq st fl = some (fcs fs) → fs.length ≤ 1000 → k (.lst (nats (hold fs s))) st → cs f [fl, .str s] st k x
theorem fcs_get {fs : Fm} {i : Nat} (h : i < fs.length) : (fcs fs)[i]? = some (face (fs.getD i [])) := by
  rw [List.getElem?_map, List.getElem?_eq_getElem h]
  simp [List.getD, h]
theorem fm_filter2 {α : Type} (p : α → Bool) (f : α → PV) : ∀ l : List α, l.filterMap (fun a => if p a = true then some (f a) else none) = (l.filter p).map f
  | [] => rfl
  | a :: l => by
    rw [List.filterMap_cons, List.filter_cons]
    by_cases h : p a = true
    · simp only [h, if_true, List.map_cons]
      rw [fm_filter2 p f l]
    · simp only [h, if_false]
      simpa using fm_filter2 p f l
theorem hold_body {cs : CS} {fl : PV} {fs : Fm} {s : List Nat} {st : Store} {k x : KV} (hs : sq st fl = some (fcs fs)) (hl : fs.length ≤ 1000) (hk : k (.lst (nats (hold fs s))) st) :
    (sRet (eComp (iRange1 (eB1 fLen (eVar 0))) (gName 2) (tCmp .isin (eVar 1) (eIx (eVar 0) (eVar 2))) (eVar 2) [2])) (D0 k x) [some fl, some (.str s), none] st := by
  obtain ⟨s1, s2, s3, s4⟩ := sq_facts hs
  simp only [sRet, eComp, iRange1, eB1, fLen, eVar, D0, List.getElem?_cons_zero, List.getElem?_cons_succ, s3, List.length_map]
  refine ⟨by unfold i62; omega, ?_⟩
  rw [Int.toNat_natCast]
  refine comp_of (fun (i : Nat) => PV.int (i : Int)) (fun i => if decide (s ∈ fs.getD i []) = true then some (.int (i : Int)) else none) trivial (List.range fs.length) (fun i hi k' hk' => ?_) (by rw [List.length_range]; show _ ≤ 16777216; omega) ?_
  · have hi := List.mem_range.mp hi
    simp only [turn, gName, tCmp, eVar, eIx, wipe, opCm, List.set_cons_succ, List.set_cons_zero, List.getElem?_cons_zero, List.getElem?_cons_succ]
    refine get_sq hs (fcs_get hi) ?_
    rw [in_face]
    by_cases hc : s ∈ fs.getD i []
    · simp only [hc, decide_true, if_true] at hk' ⊢
      exact hk'
    · simp only [hc, decide_false, Bool.false_eq_true, if_false] at hk' ⊢
      exact hk'
  · rw [fm_filter2]
    exact hk
theorem holders_at {FT : Nat → Option FD} (hF : FT 71 = some ⟨2, 3, T_holders⟩) : At FT 1 (SpHold 71) := at_of (C := fun _ => True) hF (fun _ _ => trivial) fun cs cs' _ go => fun fl fs s st k x hs hl hk => go _ _ _ _ rfl (hold_body (cs := cs) hs hl hk)
theorem lholders_at {FT : Nat → Option FD} (hF : FT 75 = some ⟨2, 3, T__law_holders⟩) : At FT 1 (SpHold 75) := at_of (C := fun _ => True) hF (fun _ _ => trivial) fun cs cs' _ go => fun fl fs s st k x hs hl hk => go _ _ _ _ rfl (hold_body (cs := cs) hs hl hk)
/-- few faces, few names -/
structure FewF (fs : Fm) : Prop where
  len : fs.length ≤ 12
  wide : ∀ f ∈ fs, f.length ≤ 20
  nam : (nam fs).length < 64
def SpNam (f : Nat) (cs : CS) : Prop := ∀ (fl : PV) (fs : Fm) (st : Store) (k x : KV), sq st fl = some (fcs fs) → FewF fs → k (.lst (strz (nam fs))) st → cs f [fl] st k x
theorem asStrs_strs (ss : List (List Nat)) : asStrs (strz ss) = some ss := asStrs_map ss
theorem flat_len {n : Nat} : ∀ {fs : Fm}, (∀ f ∈ fs, f.length ≤ n) → fs.flatten.length ≤ fs.length * n
  | [], _ => by simp
  | f :: fs, h => by
    rw [List.flatten_cons, List.length_append, List.length_cons, Nat.add_mul, Nat.one_mul]
    have a := h f (List.mem_cons_self ..)
    have b := flat_len (fs := fs) (n := n) fun g hg => h g (List.mem_cons_of_mem _ hg)
    omega
theorem FewF.flat {fs : Fm} (h : FewF fs) : fs.flatten.length ≤ 240 := by
  have := flat_len h.wide
  have : fs.length * 20 ≤ 12 * 20 := Nat.mul_le_mul_right 20 h.len
  have := h.len
  omega
theorem FewF.ded {fs : Fm} (h : FewF fs) : (dedup fs.flatten).length < 64 := by
  rw [← nam_len]
  exact h.nam
theorem strs_app (a b : List (List Nat)) : strz a ++ strz b = strz (a ++ b) := by simp
theorem lunion_at {FT : Nat → Option FD} (hF : FT 74 = some ⟨1, 3, T__law_union⟩) : At FT 1 (SpNam 74) := at_of (C := fun _ => True) hF (fun _ _ => trivial) fun cs cs' _ go => by
  intro fl fs st k x hs fw hk
  obtain ⟨s1, s2, s3, s4⟩ := sq_facts hs
  refine go _ _ _ _ rfl ?_
  simp only [T__law_union, sCons, sSet, eLst, aNil, gName, sFor, iE, eVar, List.map_cons, List.map_nil, List.replicate_succ, List.replicate_zero, List.cons_append, List.nil_append, List.set_cons_succ, List.set_cons_zero, List.getElem?_cons_zero, List.getElem?_cons_succ, Nat.reduceSub, s1]
  refine ⟨by show 0 ≤ 16777216; decide, s2, ?_⟩
  refine for_inv (fun rem ρ st' => st = st' ∧ ∃ pre suf a2, pre ++ suf = fs ∧ rem = fcs suf ∧ ρ = [some fl, some (.lst (strz pre.flatten)), a2]) ?_ ?_ _ _ _ ⟨rfl, [], fs, none, rfl, rfl, rfl⟩
  · rintro v rem ρ st' ⟨rfl, pre, suf, a2, e1, e2, rfl⟩
    refine ⟨stays_self _ _, fun D' d1 d2 d3 d4 d5 => ?_⟩
    cases suf with
    | nil => cases e2
    | cons f suf =>
      cases e2
      simp only [gName, sSet, List.set_cons_succ, List.set_cons_zero, List.getElem?_cons_zero, List.getElem?_cons_succ, eBin, eB1, fList, seqOf, eVar, opBin, opAdd, asL]
      refine ⟨?_, ?_⟩
      · have hf : f ∈ fs := by rw [← e1]; simp
        have h1 : (pre ++ [f]).flatten.length ≤ 240 := by
          have hp : (pre ++ [f]).flatten.length ≤ fs.flatten.length := by
            rw [← e1, show pre ++ f :: suf = (pre ++ [f]) ++ suf by simp, List.flatten_append (L₁ := pre ++ [f]), List.length_append]
            omega
          exact Nat.le_trans hp fw.flat
        rw [List.flatten_append, List.length_append] at h1
        simp only [List.flatten_cons, List.flatten_nil, List.append_nil] at h1
        show _ ≤ 16777216
        rw [List.length_map, List.length_map]
        omega
      · refine d4 _ _ ⟨rfl, pre ++ [f], suf, some (face f), by rw [List.append_assoc]; exact e1, rfl, ?_⟩
        rw [strs_app, List.flatten_append]
        simp
  · rintro ρ st' ⟨rfl, pre, suf, a2, e1, e2, rfl⟩
    cases suf with
    | cons f suf => cases e2
    | nil =>
      rw [List.append_nil] at e1
      subst e1
      refine ⟨stays_self _ _, ?_⟩
      simp only [sRet, eSortSet, eVar, List.getElem?_cons_zero, List.getElem?_cons_succ, asL, asStrs_strs, D0]
      exact ⟨by have := fw.flat; omega, fw.ded, hk⟩
theorem allnames_at {FT : Nat → Option FD} (hF : FT 70 = some ⟨1, 3, T_all_names⟩) : At FT 1 (SpNam 70) := at_of (C := fun _ => True) hF (fun _ _ => trivial) fun cs cs' _ go => by
  intro fl fs st k x hs fw hk
  obtain ⟨s1, s2, s3, s4⟩ := sq_facts hs
  refine go _ _ _ _ rfl ?_
  simp only [T_all_names, sRet, eSortSet, eComp2, iE, eVar, List.map_cons, List.map_nil, List.replicate_succ, List.replicate_zero, List.cons_append, List.nil_append, List.getElem?_cons_zero, Nat.reduceSub, s1]
  refine ⟨s2, ?_⟩
  have key : ∀ (suf pre : Fm), pre ++ suf = fs → compGo2 (gName 1) tYes (iE (eVar 1)) (gName 2) tYes (eVar 2) [1, 2] [2] (stays st fl) (fcs suf) (strz pre.flatten) (wipe [some fl, none, none] [1, 2]) st fun ys st => (match asL st (.lst ys) with
      | some xs => match asStrs xs with
        | some ss => ss.length < 4000 ∧ (dedup ss).length < 64 ∧ (D0 k x).rt (.lst ((sortS (dedup ss)).map .str)) st
        | none => False
      | none => False) := by
    intro suf
    induction suf with
    | nil =>
      intro pre e
      rw [List.append_nil] at e
      subst e
      refine ⟨stays_self _ _, ?_⟩
      simp only [asL, asStrs_strs, D0]
      exact ⟨by have := fw.flat; omega, fw.ded, hk⟩
    | cons f suf ih =>
      intro pre e
      rw [show fcs (f :: suf) = face f :: fcs suf from rfl]
      unfold compGo2
      refine ⟨stays_self _ _, ?_⟩
      simp only [gName, tYes, wipe, List.set_cons_succ, List.set_cons_zero, if_true, eVar, List.getElem?_cons_zero, List.getElem?_cons_succ, iE, items, isSeq, true_and]
      have ih' := ih (pre ++ [f]) (by rw [List.append_assoc]; exact e)
      have hl : (pre.flatten ++ f).length ≤ 240 := by
        have hp : (pre ++ [f]).flatten.length ≤ fs.flatten.length := by
          rw [← e, show pre ++ f :: suf = (pre ++ [f]) ++ suf by simp, List.flatten_append (L₁ := pre ++ [f]), List.length_append]
          omega
        have := Nat.le_trans hp fw.flat
        rw [List.flatten_append] at this
        simpa using this
      refine comp_pure (fun v => some v) trivial (strz f) (strz pre.flatten) (fun v hv k' hk' => ?_) ?_ ?_
      · simp only [turn, gName, tYes, wipe, List.set_cons_succ, List.set_cons_zero, if_true, eVar, List.getElem?_cons_zero, List.getElem?_cons_succ]
        exact hk'
      · show _ ≤ 16777216
        rw [List.length_map, List.length_map, ← List.length_append]
        omega
      · rw [List.filterMap_some, strs_app]
        rw [List.flatten_append] at ih'
        simp only [List.flatten_cons, List.flatten_nil, List.append_nil] at ih'
        exact ih'
  exact key fs [] rfl
end VP
end
section
namespace VP
open VM MT
abbrev dK (d : Dc) : List PV := nats (d.map (·.1))
abbrev dV (d : Dc) : List PV := nats (d.map (·.2))
theorem dhas_nats (ns : List Nat) (v : Nat) : dhas (nats ns) (.int (v : Int)) = decide (v ∈ ns) := by
  induction ns with
  | nil => rfl
  | cons m ns ih =>
    show (((m : Int) == (v : Int)) || dhas (nats ns) (.int (v : Int))) = _
    rw [ih, Bool.eq_iff_iff]
    simp only [Bool.or_eq_true, beq_iff_eq, decide_eq_true_eq, List.mem_cons]
    exact ⟨fun z => z.imp (fun h => by omega) id, fun z => z.imp (fun h => by omega) id⟩
theorem dfind_has (d : Dc) (v : Nat) : (dfind (dK d) (dV d) (.int (v : Int))).isSome = decide (has d v) := by
  induction d with
  | nil => rfl
  | cons x d ih =>
    show (if keyEq (.int (x.1 : Int)) (.int (v : Int)) = true then some (PV.int (x.2 : Int)) else dfind (dK d) (dV d) (.int (v : Int))).isSome = _
    by_cases h : x.1 = v
    · subst h
      rw [if_pos (by simp [keyEq])]
      simp [has]
    · rw [if_neg (by simp [keyEq]; omega), ih]
      refine decide_eq_decide.mpr ?_
      show v ∈ d.map (·.1) ↔ v ∈ x.1 :: d.map (·.1)
      rw [List.mem_cons]
      exact ⟨.inr, fun z => z.resolve_left fun e => h e.symm⟩
theorem dfind_get {d : Dc} {v q : Nat} (nd : (d.map (·.1)).Nodup) (h : (v, q) ∈ d) : dfind (dK d) (dV d) (.int (v : Int)) = some (.int (q : Int)) := by
  induction d with
  | nil => cases h
  | cons x d ih =>
    show (if keyEq (.int (x.1 : Int)) (.int (v : Int)) = true then some (PV.int (x.2 : Int)) else dfind (dK d) (dV d) (.int (v : Int))) = _
    rw [List.map_cons] at nd
    obtain ⟨n1, n2⟩ := List.nodup_cons.mp nd
    rcases List.mem_cons.mp h with e | m
    · subst e
      rw [if_pos (by simp [keyEq])]
    · rw [if_neg ?_]
      · exact ih n2 m
      · intro z
        have z : x.1 = v := by simp [keyEq] at z; omega
        exact n1 (z ▸ List.mem_map.mpr ⟨_, m, rfl⟩)
theorem dput_new {d : Dc} {v q : Nat} (h : ¬ has d v) : dputK (dK d) (.int (v : Int)) = dK (d ++ [(v, q)]) ∧ dputV (dK d) (dV d) (.int (v : Int)) (.int (q : Int)) = dV (d ++ [(v, q)]) := by
  have e : dhas (dK d) (.int (v : Int)) = false := by
    rw [dhas_nats]
    exact decide_eq_false h
  unfold dputK dputV
  rw [e]
  simp
def SpPath (cs : CS) : Prop := ∀ (n : Nat) (tl : PV) (T : List Tie) (p q : Nat) (st : Store) (k x : KV), sq st tl = some (ties T) → Tree n T → p < n → q < n → n ≤ 1000 → (∀ st', Grow st st' → k (.lst (nats (way (bfr T n p) q))) st') → cs 72 [tl, .int (n : Nat), .int (p : Nat), .int (q : Nat)] st k x
theorem set_ge {st st' : Store} {j : Nat} {o : SO} (h : Grow st st') (hj : st.length ≤ j) : Grow st (st'.set j o) := h.put hj
theorem ix_last {α : Type} {xs : List α} {y : α} : ix (xs ++ [y]).length (-1) = some xs.length ∧ (xs ++ [y])[xs.length]? = some y := by
  constructor
  · unfold ix
    rw [if_neg (by decide), if_pos (by rw [List.length_append, List.length_singleton]; omega)]
    congr 1
    rw [List.length_append, List.length_singleton]
    omega
  · simp
theorem get_last {f : List Nat} {c : Nat} {st : Store} {k : KV} (hk : k (.int (c : Nat)) st) : getIx (.lst (nats (f ++ [c]))) (.int (-1)) st k := by
  have e : nats (f ++ [c]) = nats f ++ [.int (c : Int)] := by simp
  rw [e]
  obtain ⟨h1, h2⟩ := ix_last (xs := nats f) (y := PV.int (c : Int))
  show (match asL st (.lst (nats f ++ [.int (c : Int)])) with | some xs => (match ix xs.length (-1) with | some n => (match xs[n]? with | some y => k y st | none => False) | none => False) | none => False)
  simp only [asL, h1, h2]
  exact hk
theorem path_at {FT : Nat → Option FD} (hF : FT 72 = some ⟨4, 9, T_path⟩) : At FT 1 SpPath := at_of (C := fun _ => True) hF (fun _ _ => trivial) fun cs cs' _ go => by
  intro n tl T p q st k x hs ht hp hq hn hk
  refine go _ _ _ _ rfl ?_
  rw [T_path, sCons]
  simp only [sSet, eDict1M, eVar, gName, isKey, List.map_cons, List.map_nil, List.replicate_succ, List.replicate_zero, List.cons_append, List.nil_append, List.getElem?_cons_zero, List.getElem?_cons_succ, List.set_cons_succ, List.set_cons_zero, Nat.reduceSub, true_and]
  rw [sCons]
  have g0 : Gd (List.range n) (([(p, p)] : Dc).map (·.1)) := ⟨by simp, fun v hv => by
    have : v = p := by simpa using hv
    rw [this]
    exact List.mem_range.mpr hp⟩
  generalize hj : st.length = j
  simp only [sFor, iRange1, eVar, List.getElem?_cons_zero, List.getElem?_cons_succ]
  refine ⟨by unfold i62; omega, ?_⟩
  rw [Int.toNat_natCast]
  refine for_inv (fun rem ρ st' => Grow st st' ∧ ∃ i a5 a6 a7, rem.length + i = n ∧ Gd (List.range n) ((itr (drnd T) i [(p, p)]).map (·.1)) ∧ st'[j]? = some (.dct (dK (itr (drnd T) i [(p, p)])) (dV (itr (drnd T) i [(p, p)]))) ∧ ρ = [some tl, some (.int (n : Nat)), some (.int (p : Nat)), some (.int (q : Nat)), some (.ref j), a5, a6, a7, none]) ?_ ?_ _ _ _ ⟨Grow.app, 0, none, none, none, by simp, g0, by simp [← hj, itr], rfl⟩
  · rintro v rem ρ st1 ⟨g1, i, a5, a6, a7, hl, gd, hd, rfl⟩
    refine ⟨trivial, fun D' d1 d2 d3 d4 d5 => ?_⟩
    have hs1 := sq_grow hs g1
    obtain ⟨s1, s2, s3, s4⟩ := sq_facts hs1
    simp only [gName, sFor, iE, eVar, List.set_cons_succ, List.set_cons_zero, List.getElem?_cons_succ, List.getElem?_cons_zero, s1]
    refine ⟨s2, ?_⟩
    refine for_inv (fun rem' ρ st' => Grow st st' ∧ ∃ pre suf a5 a6 a7, pre ++ suf = T ∧ rem' = ties suf ∧ Gd (List.range n) ((drnd pre (itr (drnd T) i [(p, p)])).map (·.1)) ∧ st'[j]? = some (.dct (dK (drnd pre (itr (drnd T) i [(p, p)]))) (dV (drnd pre (itr (drnd T) i [(p, p)])))) ∧ ρ = [some tl, some (.int (n : Nat)), some (.int (p : Nat)), some (.int (q : Nat)), some (.ref j), a5, a6, a7, none]) ?_ ?_ _ _ _ ⟨g1, [], T, _, _, _, rfl, rfl, gd, hd, rfl⟩
    · rintro v rem' ρ st2 ⟨g2, pre, suf, b5, b6, b7, e1, e2, gd, hd, rfl⟩
      refine ⟨stays_grow g1 g2 (sq_lt hs), fun D2 d1 d2 d3 d4 d5 => ?_⟩
      cases suf with
      | nil => cases e2
      | cons t suf =>
        cases e2
        have htT : t ∈ T := by rw [← e1]; simp
        obtain ⟨r1, r2⟩ := ht.rngP t htT
        have en : drnd (pre ++ [t]) (itr (drnd T) i [(p, p)]) = dst (drnd pre (itr (drnd T) i [(p, p)])) t := foldl_snoc _ _ _ _
        have gd2 : Gd (List.range n) ((dst (drnd pre (itr (drnd T) i [(p, p)])) t).map (·.1)) := by
          rw [keys_dst r1 r2]
          exact gd.stp
        have fin : ∀ st3 a6 a7, Grow st st3 → st3[j]? = some (.dct (dK (dst (drnd pre (itr (drnd T) i [(p, p)])) t)) (dV (dst (drnd pre (itr (drnd T) i [(p, p)])) t))) → D2.nx [some tl, some (.int (n : Nat)), some (.int (p : Nat)), some (.int (q : Nat)), some (.ref j), b5, a6, a7, none] st3 := fun st3 a6 a7 g3 h3 =>
          d4 _ _ ⟨g3, pre ++ [t], suf, _, _, _, by rw [List.append_assoc]; exact e1, rfl, by rw [en]; exact gd2, by rw [en]; exact h3, rfl⟩
        clear d4 d5 en gd2
        generalize drnd pre (itr (drnd T) i [(p, p)]) = d at *
        have hln : d.length ≤ 1000 := by
          have := gd.le
          simp at this
          omega
        have e : dst d t = if has d t.1 then (if has d t.2 then d else d ++ [(t.2, t.1)]) else (if has d t.2 then d ++ [(t.1, t.2)] else d) := rfl
        simp only [gTup, gEach, gName, List.length_cons, List.length_nil, true_and, List.set_cons_succ, List.set_cons_zero, sCons, sIf, sNil, tAnd, tDIn, sDPut, eVar, asD, isKey, List.getElem?_cons_zero, List.getElem?_cons_succ, hd, dfind_has, Bool.bne_false, Bool.bne_true, if_dec, if_ndec]
        have hlt : (dK d).length < SZ := by
          show _ < 16777216
          rw [List.length_map, List.length_map]
          omega
        have hjl : j < st2.length := (List.getElem?_eq_some_iff.mp hd).1
        by_cases h1 : has d t.1
        · rw [if_pos h1] at e
          by_cases h2 : has d t.2
          · rw [if_pos h2] at e
            simp only [h1, h2, if_true, if_false]
            rw [e] at fin
            exact fin _ _ _ g2 hd
          · rw [if_neg h2] at e
            have n1 : has (d ++ [(t.2, t.1)]) t.1 := has_app.mpr (.inl h1)
            have n2 : has (d ++ [(t.2, t.1)]) t.2 := has_app.mpr (.inr rfl)
            simp only [h1, h2, if_true, if_false, hd, (dput_new (q := t.1) h2).1, (dput_new (q := t.1) h2).2, set_self hd, dfind_has, Bool.bne_false, Bool.bne_true, if_dec, if_ndec, n1, n2]
            rw [e] at fin
            exact ⟨hlt, fin _ _ _ (g2.put (by omega)) (set_self hd)⟩
        · rw [if_neg h1] at e
          by_cases h2 : has d t.2
          · rw [if_pos h2] at e
            simp only [h1, h2, if_true, if_false, hd, (dput_new (q := t.2) h1).1, (dput_new (q := t.2) h1).2]
            rw [e] at fin
            exact ⟨hlt, fin _ _ _ (g2.put (by omega)) (set_self hd)⟩
          · rw [if_neg h2] at e
            simp only [h1, h2, if_true, if_false]
            rw [e] at fin
            exact fin _ _ _ g2 hd
    · rintro ρ st2 ⟨g2, pre, suf, b5, b6, b7, e1, e2, gd, hd, rfl⟩
      cases suf with
      | cons t suf => cases e2
      | nil =>
        rw [List.append_nil] at e1
        subst e1
        refine ⟨stays_grow g1 g2 (sq_lt hs), d4 _ _ ⟨g2, i + 1, b5, b6, b7, by rw [List.length_cons] at hl; omega, ?_, ?_, rfl⟩⟩
        · rw [itr_succ]
          exact gd
        · rw [itr_succ]
          exact hd
  · rintro ρ st1 ⟨g1, i, a5, a6, a7, hl, gd, hd, rfl⟩
    have hi : i = n := by simpa using hl
    subst hi
    refine ⟨trivial, ?_⟩
    have eb : itr (drnd T) i [(p, p)] = bfr T i p := rfl
    rw [eb] at hd
    have I := PI.bfr T i p
    show sCons _ _ _ _ _
    rw [sCons]
    simp only [sSet, eLst, eVar, aCons, aNil, gName, List.set_cons_succ, List.set_cons_zero, List.getElem?_cons_zero, List.getElem?_cons_succ]
    refine ⟨by show 1 ≤ 16777216; decide, ?_⟩
    show sCons _ _ _ _ _
    rw [sCons]
    have sz := ht.size hp
    refine while_meas (fun m ρ st' => st1 = st' ∧ ∃ pre c, c < i ∧ m = (way (bfr T i p) c).length ∧ pre ++ way (bfr T i p) c = way (bfr T i p) q ∧ ρ = [some tl, some (.int (i : Nat)), some (.int (p : Nat)), some (.int (q : Nat)), some (.ref j), a5, a6, a7, some (.lst (nats (pre ++ [c])))]) ?_ _ _ _ ⟨rfl, [], q, hq, rfl, rfl, rfl⟩
    rintro m ρ st2 ⟨rfl, pre, c, hc, rfl, e1, rfl⟩ D' d1 d2 d3 d4 d5
    simp only [tCmp, eIx, eVar, eNeg, eC, List.getElem?_cons_zero, List.getElem?_cons_succ]
    refine get_last ?_
    simp only [opCm, opEq, frz, isD, eqv, true_and]
    by_cases h : c = p
    · subst h
      rw [way_root I] at e1
      simp only [beq_self_eq_true, Bool.not_true, Bool.false_eq_true, if_false, sRet, eVar, List.getElem?_cons_zero, List.getElem?_cons_succ]
      rw [e1]
      exact hk _ g1
    · have hne : ((c : Int) == (p : Int)) = false := beq_eq_false_iff_ne.mpr fun z => h (by omega)
      rw [hne]
      simp only [Bool.not_false, if_true, sSet, eBin, eVar, eLst, aCons, aNil, eDGet, eIx, eNeg, eC, List.getElem?_cons_zero, List.getElem?_cons_succ]
      refine get_last ?_
      simp only [asD, hd, isKey, true_and]
      obtain ⟨⟨a, r⟩, mm, ea⟩ := List.mem_map.mp ((ht.keys hp).mpr hc)
      simp only at ea
      subst ea
      have ew := way_par I mm h
      rw [dfind_get I.nd mm]
      refine ⟨by show 1 ≤ 16777216; decide, ?_⟩
      have hr : r < i := (ht.keys hp).mp (I.parKey mm)
      have hle := (way_keys I ((ht.keys hp).mpr hq)).2.2
      have hpl : pre.length + (way (bfr T i p) a).length ≤ i := by
        rw [← List.length_append, e1]
        exact Nat.le_trans hle (Nat.le_of_eq sz)
      have hw0 : 0 < (way (bfr T i p) r).length := List.length_pos_of_mem (way_mem I ((ht.keys hp).mpr hr))
      rw [ew, List.length_cons] at hpl
      simp only [opBin, opAdd, asL, gName, List.set_cons_succ, List.set_cons_zero]
      refine ⟨by
        show _ ≤ 16777216
        rw [List.length_map, List.length_append, List.length_singleton, List.length_singleton]
        omega, d4 _ _ _ (by rw [ew, List.length_cons]; exact Nat.lt_succ_self _) ⟨rfl, pre ++ [a], r, hr, rfl, by rw [← e1, ew]; simp, by rw [nats_snoc]⟩⟩
end VP
end
section
namespace VP
open VM MT
/-- the scattered names -/
def scat (fs : Fm) (T : List Tie) : List (List Nat) := (nam fs).filter fun s => decide ((reach (hold fs s) T).length < (hold fs s).length)
theorem scat_mem {fs : Fm} {T : List Tie} {s : List Nat} : s ∈ scat fs T ↔ (∃ f ∈ fs, s ∈ f) ∧ (reach (hold fs s) T).length < (hold fs s).length := by
  unfold scat
  rw [List.mem_filter, decide_eq_true_eq, nam_mem]
def SpScat (cs : CS) : Prop := ∀ (fl tl : PV) (fs : Fm) (T : List Tie) (st : Store) (k x : KV), sq st fl = some (fcs fs) → FewF fs → sq st tl = some (ties T) → (∀ st' j, Grow st st' → st'[j]? = some (.lst (strz (scat fs T))) → k (.ref j) st') → cs 77 [fl, tl] st k x
theorem scat_at {FT : Nat → Option FD} {d : Nat} (hF : FT 77 = some ⟨2, 5, T__law_scattered⟩) (h1 : At FT d (SpNam 74)) (h2 : At FT d (SpHold 75)) (h3 : At FT d (SpReach 76)) : At FT (d + 1) SpScat := at_of (C := fun cs => SpNam 74 cs ∧ SpHold 75 cs ∧ SpReach 76 cs) hF (fun n hn => ⟨h1 n hn, h2 n hn, h3 n hn⟩) fun cs cs' C go => by
  obtain ⟨nm, ho, rc⟩ := C
  intro fl tl fs T st k x hf fw hs hk
  refine go _ _ _ _ rfl ?_
  have g0 : Grow st (st ++ [.lst []]) := Grow.app
  have hf0 := sq_grow hf g0
  rw [T__law_scattered, sCons]
  simp only [sSet, eLstM, aNil, gName, List.map_cons, List.map_nil, List.replicate_succ, List.replicate_zero, List.cons_append, List.nil_append, List.set_cons_succ, List.set_cons_zero, Nat.reduceSub]
  refine ⟨by show 0 ≤ 16777216; decide, ?_⟩
  rw [sCons]
  generalize hj : st.length = j
  simp only [sFor, iE, eCall, aCons, aNil, eVar, List.getElem?_cons_zero, List.getElem?_cons_succ]
  refine nm fl fs _ _ _ hf0 fw ?_
  simp only [items, isSeq, true_and]
  have fl12 := fw.len
  refine for_inv (fun rem ρ st' => Grow st st' ∧ ∃ pre suf a3 a4, pre ++ suf = nam fs ∧ rem = strz suf ∧ st'[j]? = some (.lst (strz (pre.filter fun s => decide ((reach (hold fs s) T).length < (hold fs s).length)))) ∧ ρ = [some fl, some tl, some (.ref j), a3, a4]) ?_ ?_ _ _ _ ⟨g0, [], nam fs, none, none, rfl, rfl, by simp [← hj], rfl⟩
  · rintro v rem ρ st1 ⟨g1, pre, suf, a3, a4, e1, e2, hd, rfl⟩
    refine ⟨trivial, fun D' d1 d2 d3 d4 d5 => ?_⟩
    cases suf with
    | nil => cases e2
    | cons s suf =>
      cases e2
      have hf1 := sq_grow hf g1
      have hs1 := sq_grow hs g1
      simp only [gName, sCons, sSet, eCall, aCons, aNil, eVar, List.set_cons_succ, List.set_cons_zero, List.getElem?_cons_zero, List.getElem?_cons_succ]
      refine ho fl fs s st1 _ _ hf1 (by omega) ?_
      simp only [sIf, tCmp, eB1, fLen, eCall, aCons, aNil, eVar, List.set_cons_succ, List.set_cons_zero, List.getElem?_cons_zero, List.getElem?_cons_succ]
      refine rc (hold fs s) tl T st1 _ _ hs1 (hold_nd fs s) (by have := hold_len fs s; omega) ?_
      have hjl : j < st1.length := (List.getElem?_eq_some_iff.mp hd).1
      simp only [bLen, asL, opCm, List.length_map, if_dec, Int.ofNat_lt, sNil, sExpr, eAppend, eVar, List.getElem?_cons_zero, List.getElem?_cons_succ, hd, Option.isSome_some]
      by_cases h : (reach (hold fs s) T).length < (hold fs s).length
      · rw [if_pos h]
        refine ⟨trivial, ?_, d4 _ _ ⟨g1.put (by omega), pre ++ [s], suf, _, _, by rw [List.append_assoc]; exact e1, rfl, ?_, rfl⟩⟩
        · show _ < 16777216
          have a := List.length_filter_le (fun s => decide ((reach (hold fs s) T).length < (hold fs s).length)) pre
          have b : (pre ++ s :: suf).length < 64 := by rw [e1]; exact fw.nam
          rw [List.length_append] at b
          omega
        · rw [set_self hd, List.filter_append]
          simp [h]
      · rw [if_neg h]
        refine d4 _ _ ⟨g1, pre ++ [s], suf, _, _, by rw [List.append_assoc]; exact e1, rfl, ?_, rfl⟩
        rw [hd, List.filter_append]
        simp [h]
  · rintro ρ st1 ⟨g1, pre, suf, a3, a4, e1, e2, hd, rfl⟩
    cases suf with
    | cons s suf => cases e2
    | nil =>
      rw [List.append_nil] at e1
      subst e1
      refine ⟨trivial, ?_⟩
      simp only [sRet, eVar, List.getElem?_cons_zero, List.getElem?_cons_succ]
      exact hk st1 j g1 hd
def SpFits (cs : CS) : Prop := ∀ (fl tl : PV) (fs : Fm) (T : List Tie) (st : Store) (k x : KV), sq st fl = some (fcs fs) → FewF fs → sq st tl = some (ties T) → Tree fs.length T → (∀ st', Grow st st' → k (.bl (scat fs T).isEmpty) st') → cs 79 [fl, tl] st k x
theorem eqvL_nil (xs : List PV) : eqvL xs [] = xs.isEmpty := by cases xs <;> rfl
theorem fits_at {FT : Nat → Option FD} {d : Nat} (hF : FT 79 = some ⟨2, 2, T__law_fits⟩) (h1 : At FT d (SpOne 78)) (h2 : At FT d SpScat) : At FT (d + 1) SpFits := at_of (C := fun cs => SpOne 78 cs ∧ SpScat cs) hF (fun n hn => ⟨h1 n hn, h2 n hn⟩) fun cs cs' C go => by
  obtain ⟨on, sc⟩ := C
  intro fl tl fs T st k x hf fw hs ht hk
  obtain ⟨s1, s2, s3, s4⟩ := sq_facts hf
  have fl12 := fw.len
  refine go _ _ _ _ rfl ?_
  simp only [T__law_fits, sRet, eAnd, eCall, aCons, aNil, eB1, fLen, eVar, List.map_cons, List.map_nil, List.replicate_zero, List.append_nil, Nat.reduceSub, List.getElem?_cons_zero, List.getElem?_cons_succ, s3, List.length_map]
  refine on fs.length tl T st _ _ hs ht (by omega) ?_
  simp only [truth, eCmp, eCall, aCons, aNil, eLst, eVar, List.getElem?_cons_zero, List.getElem?_cons_succ]
  refine sc fl tl fs T st _ _ hf fw hs fun st' j g hd => ⟨by show 0 ≤ 16777216; decide, ?_⟩
  simp only [opCm, opEq, frz, hd, isD, isDL, eqv, eqvL_nil]
  refine ⟨isDL_strs 59 _, trivial, ?_⟩
  rw [show (strz (scat fs T)).isEmpty = (scat fs T).isEmpty by simp]
  exact hk st' g
/-- a family -/
structure Fam (fs : Fm) : Prop where
  pos : 1 ≤ fs.length
  len : fs.length ≤ 12
  wide : ∀ f ∈ fs, f.length ≤ 8
  nd : ∀ f ∈ fs, f.Nodup
  nm : ∀ f ∈ fs, ∀ s ∈ f, nmS s = true
def SpTieB (cs : CS) : Prop := ∀ (t : Tie) (n : Nat) (st : Store) (k x : KV), t.1 < n → t.2 < n → t.1 ≠ t.2 → k (.bl true) st → cs 67 [tie t, .int (n : Nat)] st k x
theorem tieb_at {FT : Nat → Option FD} {d : Nat} (hF : FT 67 = some ⟨2, 3, T_is_tie⟩) (h1 : At FT d SpIn) : At FT (d + 1) SpTieB := at_of hF h1 fun cs cs' sin go => by
  intro t n st k x h1 h2 h3 hk
  refine go _ _ _ _ rfl ?_
  have e0 : ((t.1 : Int) == (t.2 : Int)) = false := beq_eq_false_iff_ne.mpr fun z => h3 (by omega)
  have inb : ∀ v : Nat, v < n → inB (.int (v : Int)) 0 ((n : Int) - 1) = true := fun v hv => by
    simp [inB]
    omega
  simp only [T_is_tie, sCons, sIf, tOr, tNot, tOf, tCmp, eB1, eVar, eC, fIsi, kdOf, fLen, bLen, truth, List.map_cons, List.map_nil, List.replicate_succ, List.replicate_zero, List.cons_append, List.nil_append, List.getElem?_cons_zero, Nat.reduceSub]
  refine ⟨by decide, ?_⟩
  have ek : ([Ty.tuple].any (kdIs Kd.tuple)) = true := rfl
  simp only [ek, Bool.not_true, Bool.false_eq_true, if_false, opCm, opEq, frz, isD, eqv, List.length_cons, List.length_nil, true_and]
  simp only [sNil, sRet, eAnd, eB1, eComp, iE, items, isSeq, eVar, eCmp, List.getElem?_cons_zero, true_and]
  refine comp_of (fun (i : Nat) => PV.int (i : Int)) (fun _ => some (.bl true)) trivial [t.1, t.2] (fun i hi k' hk' => ?_) (by show 2 ≤ 16777216; decide) ?_
  · have hi : i < n := by
      simp at hi
      rcases hi with rfl | rfl
      · exact h1
      · exact h2
    simp only [turn, gName, tYes, wipe, if_true, eCall, aCons, aNil, eVar, eC, eBin, opBin, opSub, List.set_cons_succ, List.set_cons_zero, List.getElem?_cons_zero, List.getElem?_cons_succ]
    refine sin 0 (.int (i : Int)) 0 ((n : Int) - 1) st _ _ trivial ?_
    rw [inb i hi]
    exact hk'
  · simp only [List.filterMap_cons, List.filterMap_nil, fAll, asL, allBl, Option.map, truth, eIx, eVar, eC, List.getElem?_cons_zero]
    refine get_tup (i := 0) (y := .int (t.1 : Nat)) rfl (get_tup (i := 1) (y := .int (t.2 : Nat)) rfl ?_)
    simp only [opCm, opEq, frz, isD, eqv, e0, true_and]
    exact hk
def SpFace (cs : CS) : Prop := ∀ (f : List (List Nat)) (m : Nat) (st : Store) (k x : KV), f.length ≤ m → m ≤ 1000 → f.Nodup → (∀ s ∈ f, nmS s = true) → k (.bl true) st → cs 65 [face f, .int (m : Nat)] st k x
theorem allBl_rep (n : Nat) : allBl (List.replicate n (PV.bl true)) = some (List.replicate n true) := all_true n
theorem dcnt_nd : ∀ {l : List (List Nat)}, l.Nodup → dcnt l = l.length
  | [], _ => rfl
  | x :: l, h => by
    obtain ⟨h1, h2⟩ := List.nodup_cons.mp h
    unfold dcnt
    rw [if_neg (fun z => h1 (List.contains_iff_mem.mp z)), dcnt_nd h2]
    rfl
theorem face_at {FT : Nat → Option FD} {d : Nat} (hF : FT 65 = some ⟨2, 3, T_is_face⟩) (h1 : At FT d (SpNm 41)) : At FT (d + 1) SpFace := at_of hF h1 fun cs cs' sn go => by
  intro f m st k x hl hm nd hn hk
  refine go _ _ _ _ rfl ?_
  simp only [T_is_face, sCons, sIf, tOr, tNot, tOf, tCmp, eB1, eVar, eC, fIsi, kdOf, fLen, bLen, truth, List.map_cons, List.map_nil, List.replicate_succ, List.replicate_zero, List.cons_append, List.nil_append, List.getElem?_cons_zero, List.getElem?_cons_succ, Nat.reduceSub]
  refine ⟨by decide, ?_⟩
  have ek : ([Ty.tuple].any (kdIs Kd.tuple)) = true := rfl
  have e1 : decide ((m : Int) < (((strz f).length : Nat) : Int)) = false := decide_eq_false (by simp; omega)
  simp only [ek, Bool.not_true, Bool.false_eq_true, if_false, opCm, e1]
  simp only [sNil, sRet, eAnd, eB1, eComp, iE, items, isSeq, eVar, eCmp, List.getElem?_cons_zero, true_and]
  refine comp_of PV.str (fun _ => some (.bl true)) trivial f (fun s hs k' hk' => ?_) (by show _ ≤ 16777216; omega) ?_
  · simp only [turn, gName, tYes, wipe, if_true, eCall, aCons, aNil, eVar, List.set_cons_succ, List.set_cons_zero, List.getElem?_cons_zero, List.getElem?_cons_succ]
    refine sn 0 (.str s) st _ _ trivial ?_
    rw [show nmB (.str s) = true from hn s hs]
    exact hk'
  · have er : f.filterMap (fun _ => some (PV.bl true)) = List.replicate f.length (.bl true) := by
      rw [show (fun _ : List Nat => some (PV.bl true)) = some ∘ (fun _ => PV.bl true) from rfl, List.filterMap_eq_map, List.map_const']
    rw [er]
    simp only [fAll, asL, allBl_rep, all_true2, truth, eLenSetT, eVar, List.getElem?_cons_zero, asStrs_strs, fLen, bLen]
    refine ⟨by omega, ?_⟩
    have ndr : f.reverse.Nodup := (List.reverse_perm f).nodup_iff.mpr nd
    rw [dcnt_nd ndr]
    simp only [opCm, opEq, frz, isD, eqv, List.length_reverse, List.length_map, beq_self_eq_true, true_and]
    exact hk
def SpChk (cs : CS) : Prop := ∀ (fl : PV) (fs : Fm) (st : Store) (k x : KV), (fl = .lst (fcs fs) ∨ fl = .tup (fcs fs)) → Fam fs → k .non st → cs 66 [fl] st k x
theorem chk_at {FT : Nat → Option FD} {d : Nat} (hF : FT 66 = some ⟨1, 2, T_check_family⟩) (h1 : At FT d SpFace) : At FT (d + 1) SpChk := at_of hF h1 fun cs cs' fc go => by
  intro fl fs st k x hfl fm hk
  refine go _ _ _ _ rfl ?_
  have hs : sq st fl = some (fcs fs) := by rcases hfl with rfl | rfl <;> rfl
  have hkd : ([Ty.list, Ty.tuple].any (kdIs (kdOf st fl))) = true ∧ kdOf st fl ≠ .other := by rcases hfl with rfl | rfl <;> exact ⟨rfl, fun z => by cases z⟩
  obtain ⟨s1, s2, s3, s4⟩ := sq_facts hs
  have p1 := fm.pos
  have p2 := fm.len
  have c1 : decide ((1 : Int) ≤ (((fcs fs).length : Nat) : Int)) = true := decide_eq_true (by simp; omega)
  have c2 : decide ((((fcs fs).length : Nat) : Int) ≤ 12) = true := decide_eq_true (by simp; omega)
  simp only [T_check_family, sCons, sIf, tOr, tNot, tOf, tChain, eB1, eVar, eC, fIsi, fLen, truth, List.map_cons, List.map_nil, List.replicate_succ, List.replicate_zero, List.cons_append, List.nil_append, List.getElem?_cons_zero, List.getElem?_cons_succ, Nat.reduceSub]
  refine ⟨hkd.2, ?_⟩
  simp only [hkd.1, Bool.not_true, Bool.false_eq_true, if_false, s3, opCm, c1, c2, if_true, sNil]
  simp only [sFor, iRange1, eB1, fLen, eVar, List.getElem?_cons_zero, s3]
  refine ⟨by unfold i62; simp; omega, ?_⟩
  rw [Int.toNat_natCast, List.length_map]
  refine for_inv (fun rem ρ st' => st = st' ∧ ∃ pre a1, pre ++ rem = (List.range fs.length).map (fun (i : Nat) => PV.int (i : Int)) ∧ ρ = [some fl, a1]) ?_ ?_ _ _ _ ⟨rfl, [], none, rfl, rfl⟩
  · rintro v rem ρ st' ⟨rfl, pre, a1, e1, rfl⟩
    refine ⟨trivial, fun D' d1 d2 d3 d4 d5 => ?_⟩
    obtain ⟨rfl, hi⟩ := range_split e1
    simp only [gName, sIf, tNot, tOf, eCall, aCons, aNil, eIx, eC, eVar, List.set_cons_succ, List.set_cons_zero, List.getElem?_cons_zero, List.getElem?_cons_succ]
    refine get_sq hs (fcs_get hi) ?_
    have hm : fs.getD pre.length [] ∈ fs := by
      rw [show fs.getD pre.length [] = fs[pre.length] by simp [List.getD, hi]]
      exact List.getElem_mem hi
    refine fc _ 8 st _ _ (fm.wide _ hm) (by decide) (fm.nd _ hm) (fm.nm _ hm) ?_
    simp only [truth, Bool.not_true, Bool.false_eq_true, if_false, sNil]
    exact d4 _ _ ⟨rfl, pre ++ [.int (pre.length : Nat)], _, by rw [List.append_assoc]; exact e1, rfl⟩
  · rintro ρ st' ⟨rfl, pre, a1, e1, rfl⟩
    exact ⟨trivial, hk⟩
end VP
end
section
namespace VP
open VM MT
/-- faces that fit the ties: what is shared with an earlier face is in the tied one -/
structure Rip (pool : List (List Nat)) (most : Nat) (fs : List (List (List Nat))) (T : List Tie) : Prop where
  num : T.length = fs.length - 1
  nd : ∀ f ∈ fs, f.Nodup
  le : ∀ f ∈ fs, f.length ≤ most
  sub : ∀ f ∈ fs, ∀ s ∈ f, s ∈ pool
  tie : ∀ (i : Nat) (t : Tie), T[i]? = some t → t.2 = i + 1 ∧ t.1 ≤ i ∧ ∀ s ∈ fs.getD (i + 1) [], (∃ j ≤ i, s ∈ fs.getD j []) → s ∈ fs.getD t.1 []
def SpFaces (cs : CS) : Prop := ∀ (h most r : Nat) (pl : PV) (pool : List (List Nat)) (st : Store), asL st pl = some (strz pool) → pool.Nodup → pool.length ≤ 11 → most ≤ 8 → h ≤ 12 → Dr cs 61 [.int (h : Nat), pl, .int (most : Nat)] r (60 * h) st fun v st' => ∃ (a b : Nat) (js : List Nat) (fs : List (List (List Nat))) (T : List Tie), v = .tup [.ref a, .ref b] ∧ st.length ≤ a ∧ st'[a]? = some (.lst (js.map PV.ref)) ∧ st'[b]? = some (.lst (ties T)) ∧ FcsAt st' st.length js fs ∧ fs.length = h ∧ Rip pool most fs T
theorem drawT {cs : CS} (tk : SpTake cs) {r b : Nat} {m : Nat} {st : Store} {k x : KV} (hm : 0 < m) (hb : Bag st r (b + 1)) (hk : ∀ (d : Nat) st', d < m → Bag st' r b → Keep r st st' → k (.int (d : Nat)) st') : cs 1 [.ref r, .int (m : Nat)] st k x := by
  refine tk r (m : Int) (by omega) st b k x hb fun v st' hv hb' kp => ?_
  obtain ⟨d, rfl, d0, d1⟩ := hv
  have := hk d.toNat st' (by omega) hb' kp
  rw [Int.toNat_of_nonneg d0] at this
  exact this
/-- the face grows out of what is left -/
theorem grow_loop {cs : CS} (tk : SpTake cs) {r b : Nat} {pl s7 s9 : Option PV} {j4 j5 j6 j8 : Nat} {st0 : Store} {most : Nat} {D : Ends} {hh : PV} {Pf : List (List Nat) → List (List Nat) → Prop}
    (h6 : j6 ≠ j8) (hr6 : r ≠ j6) (hr8 : r ≠ j8)
    (step : ∀ face x left, Pf face (left ++ [x]) → face.length < most → Pf (face ++ [x]) left)
    (lens : ∀ face left, Pf face left → left.length ≤ 11 ∧ face.length ≤ 1000) (hmost : most ≤ 1000)
    (hx : D.xk = D.xk)
    (fin : ∀ st' face left, Pf face left → Bag st' r b → st0.length ≤ st'.length → (∀ i, i < st0.length → i ≠ r → i ≠ j6 → i ≠ j8 → st'[i]? = st0[i]?) → st'[j6]? = some (.lst (strz left)) → st'[j8]? = some (.lst (strz face)) →
      D.nx [some (.ref r), some hh, pl, some (.int (most : Nat)), some (.ref j4), some (.ref j5), some (.ref j6), s7, some (.ref j8), s9] st') :
    ∀ (face left : List (List Nat)), Pf face left → Bag st0 r (b + 12) → st0[j6]? = some (.lst (strz left)) → st0[j8]? = some (.lst (strz face)) →
    sWhile (tAnd (tCmp .ne (eVar 6) (eLst aNil)) (tAnd (tCmp .lt (eB1 fLen (eVar 8)) (eVar 3)) (tCmp .lt (eCall cs 1 (aCons (eVar 0) (aCons (eC (.int 5)) aNil))) (eIf (tCmp .eq (eVar 8) (eLst aNil)) (eC (.int 4)) (eC (.int 2))))))
      (sExpr (eAppend (eVar 8) (ePop (eVar 6)))) D [some (.ref r), some hh, pl, some (.int (most : Nat)), some (.ref j4), some (.ref j5), some (.ref j6), s7, some (.ref j8), s9] st0 := by
  intro face left hp hb e6 e8
  refine while_meas (fun m ρ st' => ∃ face left, m = left.length ∧ Pf face left ∧ Bag st' r (b + left.length + 1) ∧ st0.length ≤ st'.length ∧ (∀ i, i < st0.length → i ≠ r → i ≠ j6 → i ≠ j8 → st'[i]? = st0[i]?) ∧ st'[j6]? = some (.lst (strz left)) ∧ st'[j8]? = some (.lst (strz face)) ∧
    ρ = [some (.ref r), some hh, pl, some (.int (most : Nat)), some (.ref j4), some (.ref j5), some (.ref j6), s7, some (.ref j8), s9]) ?_ left.length _ _ ⟨face, left, rfl, hp, hb.le (by have := (lens face left hp).1; omega), Nat.le_refl _, fun _ _ _ _ _ => rfl, e6, e8, rfl⟩
  rintro m ρ st1 ⟨face, left, rfl, hp, hb, hl, hk, e6, e8, rfl⟩ D' d1 d2 d3 d4 d5
  have j6l : j6 < st1.length := (List.getElem?_eq_some_iff.mp e6).1
  have j8l : j8 < st1.length := (List.getElem?_eq_some_iff.mp e8).1
  have el := lens face left hp
  simp only [tAnd, tCmp, eVar, eLst, aNil, eB1, fLen, eCall, aCons, eC, eIf, opCm, opEq, frz, bLen, asL, e6, e8, isD, isDL, eqv, eqvL_nil, isDL_strs, List.getElem?_cons_zero, List.getElem?_cons_succ, true_and]
  refine ⟨by show 0 ≤ 16777216; decide, ?_⟩
  rcases List.eq_nil_or_concat left with rfl | ⟨left', x, rfl⟩
  · simp only [List.map_nil, List.isEmpty_nil, Bool.not_true, Bool.false_eq_true, if_false]
    exact fin st1 face [] hp (hb.le (by omega)) hl hk e6 e8
  · simp only [List.concat_eq_append] at *
    have ne : (strz (left' ++ [x])).isEmpty = false := by simp
    simp only [ne, Bool.not_false, if_true]
    by_cases hm : face.length < most
    · have c1 : decide (((strz face).length : Int) < (most : Int)) = true := decide_eq_true (by simp; omega)
      simp only [c1, if_true]
      refine drawT (m := 5) tk (by decide) (b := b + (left' ++ [x]).length) (by rw [show b + (left' ++ [x]).length + 1 = b + (left' ++ [x]).length + 1 from rfl]; exact hb) fun dd st2 hd hb2 k2 => ?_
      have e6' : st2[j6]? = some (.lst (strz (left' ++ [x]))) := (k2.2 j6 (Ne.symm hr6) j6l).trans e6
      have e8' : st2[j8]? = some (.lst (strz face)) := (k2.2 j8 (Ne.symm hr8) j8l).trans e8
      have hk2 : ∀ i, i < st0.length → i ≠ r → i ≠ j6 → i ≠ j8 → st2[i]? = st0[i]? := fun i a b c d => (k2.2 i b (Nat.lt_of_lt_of_le a hl)).trans (hk i a b c d)
      have hl2 := Nat.le_trans hl k2.1
      have cont : ∀ (w : Bool), (if w = true then (sExpr (eAppend (eVar 8) (ePop (eVar 6)))) D' [some (.ref r), some hh, pl, some (.int (most : Nat)), some (.ref j4), some (.ref j5), some (.ref j6), s7, some (.ref j8), s9] st2
          else D.nx [some (.ref r), some hh, pl, some (.int (most : Nat)), some (.ref j4), some (.ref j5), some (.ref j6), s7, some (.ref j8), s9] st2) := by
        intro w
        cases w with
        | false =>
          simp only [Bool.false_eq_true, if_false]
          exact fin st2 face (left' ++ [x]) hp (hb2.le (by omega)) hl2 hk2 e6' e8'
        | true =>
          simp only [if_true, sExpr, eAppend, ePop, eVar, asL, List.getElem?_cons_zero, List.getElem?_cons_succ, e6', e8', Option.isSome_some, true_and]
          have gl : (strz (left' ++ [x])).getLast? = some (.str x) := by simp
          have dl : (strz (left' ++ [x])).dropLast = strz left' := by simp
          simp only [gl, dl]
          have e8'' : (st2.set j6 (.lst (strz left')))[j8]? = some (.lst (strz face)) := by rw [List.getElem?_set_ne h6]; exact e8'
          simp only [e8'']
          have hj6 : j6 < st2.length := (List.getElem?_eq_some_iff.mp e6').1
          refine ⟨by show _ < 16777216; rw [List.length_map]; omega, d4 left'.length _ _ (by rw [List.length_append, List.length_singleton]; omega) ⟨face ++ [x], left', rfl, step face x left' hp hm, ((hb2.le (by rw [List.length_append, List.length_singleton]; omega)).put (Ne.symm hr6)).put (Ne.symm hr8), ?_, fun i a b c d => ?_, ?_, ?_, rfl⟩⟩
          · rw [List.length_set, List.length_set]
            exact hl2
          · rw [List.getElem?_set_ne (Ne.symm d), List.getElem?_set_ne (Ne.symm c)]
            exact hk2 i a b c d
          · rw [List.getElem?_set_ne (Ne.symm h6), List.getElem?_set_self hj6]
          · rw [List.getElem?_set_self (by rw [List.length_set]; exact (List.getElem?_eq_some_iff.mp e8').1)]
            simp
      simp only [frz, e8', isD, isDL_strs, true_and, eqv]
      by_cases hfe : eqvL (strz face) [] = true
      · rw [if_pos hfe]
        exact ⟨by show 0 ≤ 16777216; decide, cont _⟩
      · rw [if_neg hfe]
        exact ⟨by show 0 ≤ 16777216; decide, cont _⟩
    · have c1 : decide (((strz face).length : Int) < (most : Int)) = false := decide_eq_false (by simp; omega)
      simp only [c1, Bool.false_eq_true, if_false]
      exact fin st1 face (left' ++ [x]) hp (hb.le (by omega)) hl hk e6 e8
end VP
end
section
namespace VP
open VM MT
theorem FcsAt.weak {st : Store} {lo lo' : Nat} {js : List Nat} {fs : List (List (List Nat))} (h : FcsAt st lo js fs) (hl : lo' ≤ lo) : FcsAt st lo' js fs :=
  ⟨h.len, h.lst, fun j hj => ⟨Nat.le_trans hl (h.lo j hj).1, (h.lo j hj).2⟩⟩
/-- while a face grows -/
structure Pf (pool : List (List Nat)) (most : Nat) (fs : List (List (List Nat))) (pre : List (List Nat)) (face left : List (List Nat)) : Prop where
  nd : (face ++ left).Nodup
  sub : ∀ s ∈ face ++ left, s ∈ pool
  new : ∀ s ∈ left, ∀ f ∈ fs, s ∉ f
  old : ∀ s ∈ face, s ∈ pre ∨ ∀ f ∈ fs, s ∉ f
  le : face.length ≤ most
  ll : left.length ≤ 11
theorem Pf.step {pool : List (List Nat)} {most : Nat} {fs : List (List (List Nat))} {pre face left : List (List Nat)} {x : List Nat} (h : Pf pool most fs pre face (left ++ [x])) (hl : face.length < most) : Pf pool most fs pre (face ++ [x]) left := by
  have pm : (face ++ [x] ++ left).Perm (face ++ (left ++ [x])) := by
    rw [List.append_assoc]
    exact List.Perm.append_left _ List.perm_append_comm
  refine ⟨(pm.nodup_iff).mpr h.nd, fun s hs => h.sub s (pm.mem_iff.mp hs), fun s hs => h.new s (by simp [hs]), fun s hs => ?_, by simp; omega, ?_⟩
  · rcases List.mem_append.mp hs with m | m
    · exact h.old s m
    · rw [List.mem_singleton.mp m]
      exact .inr (h.new x (by simp))
  · have := h.ll
    simp at this
    omega
theorem Rip.first {pool : List (List Nat)} {most : Nat} {g : List (List Nat)} (gn : g.Nodup) (gl : g.length ≤ most) (gs : ∀ s ∈ g, s ∈ pool) : Rip pool most [g] [] :=
  ⟨rfl, fun f hf => by rw [List.mem_singleton.mp hf]; exact gn, fun f hf => by rw [List.mem_singleton.mp hf]; exact gl, fun f hf => by rw [List.mem_singleton.mp hf]; exact gs, fun i t e => by simp at e⟩
theorem Rip.snoc {pool : List (List Nat)} {most a : Nat} {fs : List (List (List Nat))} {T : List Tie} {g : List (List Nat)} (h : Rip pool most fs T) (ha : a < fs.length) (gn : g.Nodup) (gl : g.length ≤ most) (gs : ∀ s ∈ g, s ∈ pool)
    (go : ∀ s ∈ g, s ∈ fs.getD a [] ∨ ∀ f ∈ fs, s ∉ f) : Rip pool most (fs ++ [g]) (T ++ [(a, fs.length)]) := by
  have hn := h.num
  have gd : ∀ i, i < fs.length → (fs ++ [g]).getD i [] = fs.getD i [] := fun i hi => by
    rw [List.getD_eq_getElem?_getD, List.getD_eq_getElem?_getD, List.getElem?_append_left hi]
  refine ⟨by simp [hn]; omega, fun f hf => ?_, fun f hf => ?_, fun f hf => ?_, fun i t e => ?_⟩
  · rcases List.mem_append.mp hf with m | m
    · exact h.nd f m
    · rw [List.mem_singleton.mp m]; exact gn
  · rcases List.mem_append.mp hf with m | m
    · exact h.le f m
    · rw [List.mem_singleton.mp m]; exact gl
  · rcases List.mem_append.mp hf with m | m
    · exact h.sub f m
    · rw [List.mem_singleton.mp m]; exact gs
  · by_cases hi : i < T.length
    · rw [List.getElem?_append_left hi] at e
      obtain ⟨t1, t2, t3⟩ := h.tie i t e
      refine ⟨t1, t2, fun s hs hj => ?_⟩
      obtain ⟨j, hj, hs'⟩ := hj
      rw [gd _ (by omega)] at hs hs' ⊢
      exact t3 s hs ⟨j, hj, hs'⟩
    · have hi' : i = T.length := by
        have := (List.getElem?_eq_some_iff.mp e).1
        simp at this
        omega
      subst hi'
      rw [List.getElem?_append_right (Nat.le_refl _)] at e
      simp at e
      subst e
      refine ⟨by show fs.length = _; omega, by show a ≤ _; omega, fun s hs hj => ?_⟩
      obtain ⟨j, hj, hs'⟩ := hj
      have e1 : T.length + 1 = fs.length := by omega
      rw [e1] at hs
      have e2 : (fs ++ [g]).getD fs.length [] = g := by simp
      rw [e2] at hs
      rw [gd _ (by omega)] at hs'
      show s ∈ (fs ++ [g]).getD a []
      rw [gd _ ha]
      rcases go s hs with m | m
      · exact m
      · exfalso
        refine m (fs.getD j []) ?_ hs'
        have hjl : j < fs.length := by omega
        rw [List.getD_eq_getElem?_getD, List.getElem?_eq_getElem hjl]
        exact List.getElem_mem hjl
/-- the store between the rounds -/
structure FcR (pool : List (List Nat)) (most : Nat) (st st' : Store) (r : Nat) (js : List Nat) (fs : List (List (List Nat))) (T : List Tie) (left : List (List Nat)) : Prop where
  j4 : st'[st.length]? = some (.lst (js.map PV.ref))
  j5 : st'[st.length + 1]? = some (.lst (ties T))
  j6 : st'[st.length + 2]? = some (.lst (strz left))
  fcs : FcsAt st' (st.length + 3) js fs
  lnd : left.Nodup
  lle : left.length ≤ 11
  lp : ∀ s ∈ left, s ∈ pool ∧ ∀ f ∈ fs, s ∉ f
  kp : Keep r st st'
theorem faces_tail {cs : CS} (tk : SpTake cs) (mx : SpMixed cs) {r b most : Nat} {pl hh : PV} {pool pre : List (List Nat)} {st st0 : Store} {js : List Nat} {fs : List (List (List Nat))} {T : List Tie} {left face : List (List Nat)} {j8 : Nat} {s7 s9 : Option PV} {D : Ends}
    (rl : r < st.length) (h : FcR pool most st st0 r js fs T left) (hb : Bag st0 r (b + 30)) (h8 : st0[j8]? = some (.lst (strz face))) (h8l : st.length + 3 ≤ j8) (h8n : j8 ∉ js) (hpf : Pf pool most fs pre face left) (hm : most ≤ 8) (hn : js.length ≤ 1000)
    (fin : ∀ st' g left' zz a9, FcR pool most st st' r (js ++ [zz]) (fs ++ [g]) T left' → Bag st' r b → g.Nodup → g.length ≤ most → (∀ s ∈ g, s ∈ pool) → (∀ s ∈ g, s ∈ pre ∨ ∀ f ∈ fs, s ∉ f) →
      D.nx [some (.ref r), some hh, some pl, some (.int (most : Nat)), some (.ref st.length), some (.ref (st.length + 1)), some (.ref (st.length + 2)), s7, some (.ref j8), a9] st') :
    sCons (sWhile (tAnd (tCmp .ne (eVar 6) (eLst aNil)) (tAnd (tCmp .lt (eB1 fLen (eVar 8)) (eVar 3)) (tCmp .lt (eCall cs 1 (aCons (eVar 0) (aCons (eC (.int 5)) aNil))) (eIf (tCmp .eq (eVar 8) (eLst aNil)) (eC (.int 4)) (eC (.int 2))))))
      (sExpr (eAppend (eVar 8) (ePop (eVar 6))))) (sExpr (eAppend (eVar 4) (eCall cs 17 (aCons (eVar 0) (aCons (eVar 8) aNil))))) D
      [some (.ref r), some hh, some pl, some (.int (most : Nat)), some (.ref st.length), some (.ref (st.length + 1)), some (.ref (st.length + 2)), s7, some (.ref j8), s9] st0 := by
  rw [sCons]
  refine grow_loop (b := b + 18) tk (Pf := Pf pool most fs pre) (by omega) (by omega) (by omega) (fun face x left hp hl => hp.step hl) (fun face left hp => ⟨hp.ll, Nat.le_trans hp.le (by omega)⟩) (by omega) rfl ?_ face left hpf (hb.le (by omega)) h.j6 h8
  intro st1 g left1 hp hb1 hl1 hk1 e6 e8
  have gl := hp.le
  have hj4 : st1[st.length]? = some (.lst (js.map PV.ref)) := (hk1 _ (List.getElem?_eq_some_iff.mp h.j4).1 (by omega) (by omega) (by omega)).trans h.j4
  dsimp only
  simp only [sExpr, eAppend, eVar, eCall, aCons, aNil, asL, List.getElem?_cons_zero, List.getElem?_cons_succ, hj4, Option.isSome_some, true_and]
  refine mixS (b := b) mx (asL_ref e8) (fun z => by cases z; omega) (by omega) (hb1.le (by omega)) fun zs st2 pz hz hb2 k2 => ?_
  have hj4' : st2[st.length]? = some (.lst (js.map PV.ref)) := (k2.2 _ (by omega) (List.getElem?_eq_some_iff.mp hj4).1).trans hj4
  have rl4 := (List.getElem?_eq_some_iff.mp hj4').1
  simp only [hj4']
  have hl3 : st.length + 3 ≤ st1.length := by
    have := (List.getElem?_eq_some_iff.mp e8).1
    omega
  have zl := (List.getElem?_eq_some_iff.mp hz).1
  have keep : ∀ i, i < st0.length → i ≠ r → i ≠ st.length + 2 → i ≠ j8 → i ≠ st.length → (st2.set st.length (.lst (js.map PV.ref ++ [.ref st1.length])))[i]? = st0[i]? := fun i a b' c d e => by
    rw [List.getElem?_set_ne (Ne.symm e), k2.2 i b' (Nat.lt_of_lt_of_le a hl1)]
    exact hk1 i a b' c d
  have nz : ∀ j ∈ js, j ≠ j8 := fun j hj e => h8n (e ▸ hj)
  refine ⟨by show _ < 16777216; rw [List.length_map]; omega, fin _ zs left1 st1.length _ ⟨?_, ?_, ?_, ?_, ?_, hp.ll, fun s hs => ⟨hp.sub s (by simp [hs]), fun f hf => ?_⟩, ?_⟩ (hb2.put (by omega)) (pz.nodup_iff.mpr (List.nodup_append.mp hp.nd).1) (by rw [pz.length_eq]; exact hp.le) (fun s hs => hp.sub s (List.mem_append_left _ (pz.mem_iff.mp hs))) (fun s hs => hp.old s (pz.mem_iff.mp hs))⟩
  · rw [List.getElem?_set_self rl4, List.map_append]
    rfl
  · rw [keep _ (List.getElem?_eq_some_iff.mp h.j5).1 (by omega) (by omega) (by omega) (by omega)]
    exact h.j5
  · rw [List.getElem?_set_ne (by omega), k2.2 _ (by omega) (by omega)]
    exact e6
  · refine FcsAt.snoc ⟨h.fcs.len, fun i j f a b' => ?_, fun j hj => ?_⟩ ?_ hl3
    · have hj := h.fcs.lo j (List.mem_of_getElem? a)
      rw [keep j hj.2 (by omega) (by omega) (nz j (List.mem_of_getElem? a)) (by omega)]
      exact h.fcs.lst i j f a b'
    · have hj := h.fcs.lo j hj
      have := k2.1
      rw [List.length_set]
      omega
    · rw [List.getElem?_set_ne (by omega)]
      exact hz
  · exact (List.nodup_append.mp hp.nd).2.1
  · rcases List.mem_append.mp hf with m | m
    · exact hp.new s hs f m
    · rw [List.mem_singleton.mp m]
      exact fun z => (List.nodup_append.mp hp.nd).2.2 s (pz.mem_iff.mp z) s hs rfl
  · refine ⟨by rw [List.length_set]; omega, fun i a b' => ?_⟩
    have kl := h.kp.1
    rw [keep i (by omega) a (by omega) (by omega) (by omega)]
    exact h.kp.2 i a b'
end VP
end
section
namespace VP
open VM MT
theorem min_nat (a b : Nat) : (if (b : Int) < (a : Int) then (b : Int) else (a : Int)) = ((min a b : Nat) : Int) := by
  by_cases h : b < a
  · rw [if_pos (by omega), Nat.min_eq_right (by omega)]
  · rw [if_neg (by omega), Nat.min_eq_left (by omega)]
theorem faces_at {FT : Nat → Option FD} {d : Nat} (hF : FT 61 = some ⟨4, 10, T__law_faces⟩) (h1 : At FT d SpTake) (h2 : At FT d SpMixed) : At FT (d + 1) SpFaces := at_of (C := fun cs => SpTake cs ∧ SpMixed cs) hF (fun n hn => ⟨h1 n hn, h2 n hn⟩) fun cs cs' C go => by
  obtain ⟨tk, mx⟩ := C
  intro h most r pl pool st hpl pnd pll hm hh b k x hb hk
  refine go _ _ _ _ rfl ?_
  have rl := hb.lt
  have sp : seqOf st pl = some (strz pool) ∨ True := .inr trivial
  rw [T__law_faces, sCons]
  have e0 : ((st ++ [.lst []]) ++ [.lst []] : Store).length = st.length + 2 := by simp
  have e1 : (st ++ [.lst []] : Store).length = st.length + 1 := by simp
  have hpl2 : asL ((st ++ [.lst []]) ++ [.lst []]) pl = some (strz pool) := by
    cases pl <;> simp only [asL] at hpl ⊢ <;> first | exact hpl | (cases hpl; done) | skip
    rename_i j
    have hj : j < st.length := by
      cases e : st[j]? with
      | none => rw [e] at hpl; cases hpl
      | some o => exact (List.getElem?_eq_some_iff.mp e).1
    rw [List.getElem?_append_left (by rw [e1]; omega), List.getElem?_append_left hj]
    exact hpl
  have hsq : seqOf ((st ++ [.lst []]) ++ [.lst []]) pl = some (strz pool) := by
    cases pl <;> simp only [asL] at hpl2 <;> first | (cases hpl2; done) | skip
    all_goals simp only [seqOf, asL]
    all_goals exact hpl2
  simp only [sPar, aCons, aNil, eLstM, eB1, fListM, eVar, gEach, gName, List.map_cons, List.map_nil, List.replicate_succ, List.replicate_zero, List.cons_append, List.nil_append, List.getElem?_cons_zero, List.getElem?_cons_succ, List.set_cons_succ, List.set_cons_zero, Nat.reduceSub, hsq, e0, e1]
  refine ⟨by show 0 ≤ 16777216; decide, by show 0 ≤ 16777216; decide, ?_⟩
  rw [sCons]
  simp only [sFor, iRange1, eVar, List.getElem?_cons_zero, List.getElem?_cons_succ]
  refine ⟨by unfold i62; omega, ?_⟩
  rw [Int.toNat_natCast]
  have kp0 : Keep r st (((st ++ [.lst []]) ++ [.lst []]) ++ [.lst (strz pool)]) := ⟨by simp, fun i _ hi => by
    rw [List.getElem?_append_left (by rw [e0]; omega), List.getElem?_append_left (by rw [e1]; omega), List.getElem?_append_left hi]⟩
  have start : FcR pool most st (((st ++ [.lst []]) ++ [.lst []]) ++ [.lst (strz pool)]) r [] [] [] pool := by
    refine ⟨?_, ?_, ?_, ⟨rfl, fun i j f a _ => by simp at a, fun j hj => by cases hj⟩, pnd, pll, fun s hs => ⟨hs, fun f hf => by cases hf⟩, kp0⟩
    · rw [List.getElem?_append_left (by rw [e0]; omega), List.getElem?_append_left (by rw [e1]; omega)]
      simp
    · rw [List.getElem?_append_left (by rw [e0]; omega), ← e1]
      simp
    · rw [← e0]
      simp
  refine for_inv (fun rem ρ st' => ∃ pre js fs T left a7 a8 a9, pre ++ rem = (List.range h).map (fun (i : Nat) => PV.int (i : Int)) ∧ fs.length = pre.length ∧ Rip pool most fs T ∧ FcR pool most st st' r js fs T left ∧ Bag st' r (b + 60 * rem.length) ∧
    ρ = [some (.ref r), some (.int (h : Nat)), some pl, some (.int (most : Nat)), some (.ref st.length), some (.ref (st.length + 1)), some (.ref (st.length + 2)), a7, a8, a9]) ?_ ?_ _ _ _ ⟨[], [], [], [], pool, none, none, none, rfl, rfl, ⟨rfl, fun f hf => by (cases hf), fun f hf => by (cases hf), fun f hf => by (cases hf), fun i t e => by simp at e⟩, start, ?_, rfl⟩
  · rintro v rem ρ st1 ⟨pre, js, fs, T, left, a7, a8, a9, er, el, rip, fr, hb1, rfl⟩
    refine ⟨trivial, fun D' d1 d2 d3 d4 d5 => ?_⟩
    obtain ⟨rfl, hi⟩ := range_split er
    have er' : (pre ++ [PV.int (pre.length : Nat)]) ++ rem = (List.range h).map (fun (i : Nat) => PV.int (i : Int)) := by rw [List.append_assoc]; exact er
    rw [List.length_cons] at hb1
    have jl := fr.fcs.len
    have rl1 := hb1.lt
    have kl := fr.kp.1
    have f6 := (List.getElem?_eq_some_iff.mp fr.j6).1
    simp only [gName, List.set_cons_succ, List.set_cons_zero]
    rw [sCons]
    simp only [sSet, eLstM, aNil, gName, List.set_cons_succ, List.set_cons_zero]
    refine ⟨by show 0 ≤ 16777216; decide, ?_⟩
    rw [sCons]
    have frA : FcR pool most st (st1 ++ [.lst []]) r js fs T left := by
      refine ⟨?_, ?_, ?_, fr.fcs.app, fr.lnd, fr.lle, fr.lp, ⟨by rw [List.length_append]; omega, fun i a b' => ?_⟩⟩
      · rw [List.getElem?_append_left (by omega)]; exact fr.j4
      · rw [List.getElem?_append_left (by omega)]; exact fr.j5
      · rw [List.getElem?_append_left (by omega)]; exact fr.j6
      · rw [List.getElem?_append_left (by omega)]; exact fr.kp.2 i a b'
    by_cases h0 : pre.length = 0
    · have hc : decide ((pre.length : Int) > 0) = false := decide_eq_false (by omega)
      simp only [sIf, tCmp, opCm, eVar, eC, List.getElem?_cons_zero, List.getElem?_cons_succ, hc, Bool.false_eq_true, if_false, sNil]
      have fe : fs = [] := List.length_eq_zero_iff.mp (by omega)
      subst fe
      have je : js = [] := List.length_eq_zero_iff.mp (by simpa using jl)
      subst je
      have te : T = [] := List.length_eq_zero_iff.mp (by have := rip.num; simpa using this)
      subst te
      refine faces_tail (b := b + 60 * rem.length) (pre := []) tk mx rl frA (hb1.app.le (by omega)) (j8 := st1.length) (face := []) (by simp) (by omega) (by simp) ⟨by simpa using fr.lnd, fun s hs => (fr.lp s (by simpa using hs)).1, fun s hs => (fr.lp s hs).2, fun s hs => (by cases hs), Nat.zero_le _, fr.lle⟩ hm (by simp) fun st2 g left' zz a9' fr2 hb2 gn gl gs go => ?_
      exact d4 _ _ ⟨_, _, _, _, _, _, _, _, er', by simp [h0], Rip.first gn gl gs, fr2, hb2, rfl⟩
    · have hc : decide ((pre.length : Int) > 0) = true := decide_eq_true (by omega)
      simp only [sIf, tCmp, opCm, eVar, eC, List.getElem?_cons_zero, List.getElem?_cons_succ, hc, if_true]
      rw [sCons]
      simp only [sSet, eCall, aCons, aNil, eVar, gName, List.getElem?_cons_zero, List.getElem?_cons_succ, List.set_cons_succ, List.set_cons_zero]
      refine drawT (m := pre.length) (b := b + 60 * rem.length + 50) tk (by omega) (hb1.app.le (by omega)) fun a st2 ha hb2 k2 => ?_
      have hq : ∀ {i : Nat}, i ≠ r → i < st1.length + 1 → st2[i]? = (st1 ++ [.lst []])[i]? := fun {i} a b' => k2.2 i a (by rw [List.length_append]; exact b')
      have k2l := k2.1
      rw [List.length_append, List.length_singleton] at k2l
      have q4 : st2[st.length]? = some (.lst (js.map PV.ref)) := (hq (by omega) (by omega)).trans frA.j4
      have q5 : st2[st.length + 1]? = some (.lst (ties T)) := (hq (by omega) (by omega)).trans frA.j5
      have tl : T.length ≤ 12 := by have := rip.num; omega
      rw [sCons]
      simp only [sExpr, eAppend, eTup, aCons, aNil, eVar, asL, List.getElem?_cons_zero, List.getElem?_cons_succ, q5, Option.isSome_some, true_and, List.length_cons, List.length_nil]
      refine ⟨by show 2 ≤ 16777216; decide, by show _ < 16777216; rw [List.length_map]; omega, ?_⟩
      -- the mixed start of the tied face
      have al : a < js.length := by omega
      have al' : a < fs.length := by omega
      obtain ⟨j, hj⟩ : ∃ j, js[a]? = some j := ⟨_, List.getElem?_eq_getElem al⟩
      obtain ⟨f, hf⟩ : ∃ f, fs[a]? = some f := ⟨_, List.getElem?_eq_getElem al'⟩
      have fm := List.mem_of_getElem? hf
      have jlo := fr.fcs.lo j (List.mem_of_getElem? hj)
      have fl := rip.le f fm
      have q4s : (st2.set (st.length + 1) (.lst (ties T ++ [tie (a, pre.length)])))[st.length]? = some (.lst (js.map PV.ref)) := by
        rw [List.getElem?_set_ne (by omega)]; exact q4
      have qj : (st2.set (st.length + 1) (.lst (ties T ++ [tie (a, pre.length)])))[j]? = some (.lst (strz f)) := by
        rw [List.getElem?_set_ne (by omega), hq (by omega) (by omega)]
        exact frA.fcs.lst a j f hj hf
      show sSet (gName 8) _ _ _ (st2.set (st.length + 1) (.lst (ties T ++ [tie (a, pre.length)])))
      have hb2' := hb2.put (j := st.length + 1) (o := .lst (ties T ++ [tie (a, pre.length)])) (by omega)
      have sl : (st2.set (st.length + 1) (.lst (ties T ++ [tie (a, pre.length)]))).length = st2.length := List.length_set
      have s5 : (st2.set (st.length + 1) (.lst (ties T ++ [tie (a, pre.length)])))[st.length + 1]? = some (.lst (ties (T ++ [(a, pre.length)]))) := by
        rw [List.getElem?_set_self (List.getElem?_eq_some_iff.mp q5).1]; simp
      have so : ∀ i, i ≠ r → i < st1.length + 1 → i ≠ st.length + 1 → (st2.set (st.length + 1) (.lst (ties T ++ [tie (a, pre.length)])))[i]? = (st1 ++ [.lst []])[i]? := fun i a b' c => by
        rw [List.getElem?_set_ne (Ne.symm c)]; exact hq a b'
      generalize hs3 : st2.set (st.length + 1) (.lst (ties T ++ [tie (a, pre.length)])) = st3 at *
      have gj : (js.map PV.ref)[a]? = some (.ref j) := by rw [List.getElem?_map, hj]; rfl
      simp only [sSet, eSlM, eCall, aCons, aNil, eVar, gName, eIx, List.getElem?_cons_zero, List.getElem?_cons_succ, List.set_cons_succ, List.set_cons_zero]
      refine get_sq (u := .ref st.length) (by rw [sq_ref, q4s]) gj ?_
      refine mixS (b := b + 60 * rem.length + 35) mx (asL_ref qj) (fun z => by cases z; omega) (by omega) (hb2'.le (by omega)) fun zs st4 pz hz hb4 k4 => ?_
      have p4 : st4[st.length]? = some (.lst (js.map PV.ref)) := (k4.2 _ (by omega) (by omega)).trans q4s
      have pj : st4[j]? = some (.lst (strz f)) := (k4.2 _ (by omega) (by omega)).trans qj
      simp only [eBin, eMin2, eB1, fLen, eIx, eVar, eC, List.getElem?_cons_zero, List.getElem?_cons_succ]
      refine get_sq (u := .ref st.length) (by rw [sq_ref, p4]) gj ?_
      simp only [bLen, asL, pj, List.length_map, opBin, opAdd, min_nat]
      refine drawT (m := min f.length most + 1) (b := b + 60 * rem.length + 31) tk (by omega) (hb4.le (by omega)) fun c st5 hc hb5 k5 => ?_
      have zl := (List.getElem?_eq_some_iff.mp hz).1
      have pz5 : st5[st3.length]? = some (.lst (strz zs)) := (k5.2 _ (by omega) zl).trans hz
      simp only [getSlM, asL, pz5, slc_take]
      have k4l := k4.1
      have k5l := k5.1
      have so5 : ∀ i, i ≠ r → i < st1.length + 1 → i ≠ st.length + 1 → (st5 ++ [.lst ((strz zs).take c)])[i]? = (st1 ++ [.lst []])[i]? := fun i a b' c => by
        rw [List.getElem?_append_left (by omega), k5.2 i a (by omega), k4.2 i a (by omega)]
        exact so i a b' c
      have eT : (strz zs).take c = strz (zs.take c) := by simp
      have frB : FcR pool most st (st5 ++ [.lst ((strz zs).take c)]) r js fs (T ++ [(a, pre.length)]) left := by
        refine ⟨?_, ?_, ?_, ⟨fr.fcs.len, fun i j' f' a' b' => ?_, fun j' hj' => ?_⟩, fr.lnd, fr.lle, fr.lp, ⟨by rw [List.length_append]; omega, fun i a' b' => ?_⟩⟩
        · rw [so5 _ (by omega) (by omega) (by omega)]; exact frA.j4
        · rw [List.getElem?_append_left (by omega), k5.2 _ (by omega) (by omega), k4.2 _ (by omega) (by omega)]; exact s5
        · rw [so5 _ (by omega) (by omega) (by omega)]; exact frA.j6
        · have := fr.fcs.lo j' (List.mem_of_getElem? a')
          rw [so5 _ (by omega) (by omega) (by omega)]
          exact frA.fcs.lst i j' f' a' b'
        · have := fr.fcs.lo j' hj'
          rw [List.length_append, List.length_singleton]
          omega
        · rw [so5 _ a' (by omega) (by omega)]
          exact frA.kp.2 i a' b'
      have fgd : fs.getD a [] = f := by rw [List.getD_eq_getElem?_getD, hf]; rfl
      have cz : ∀ s ∈ zs.take c, s ∈ f := fun s hs => pz.mem_iff.mp (List.mem_of_mem_take hs)
      have znd : zs.Nodup := pz.nodup_iff.mpr (rip.nd f fm)
      refine faces_tail (b := b + 60 * rem.length) (pre := f) tk mx rl frB (hb5.app.le (by omega)) (j8 := st5.length) (face := zs.take c) (by rw [eT]; simp) (by omega) (fun z => by have := fr.fcs.lo _ z; omega) ⟨?_, fun s hs => ?_, fun s hs => (fr.lp s hs).2, fun s hs => .inl (cz s hs), ?_, fr.lle⟩ hm (by omega) fun st6 g left' zz a9' fr2 hb6 gn gl gs go => ?_
      · refine List.nodup_append.mpr ⟨znd.sublist (List.take_sublist ..), fr.lnd, fun s hs t ht e => ?_⟩
        subst e
        exact (fr.lp s ht).2 f fm (cz s hs)
      · rcases List.mem_append.mp hs with m | m
        · exact rip.sub f fm s (cz s m)
        · exact (fr.lp s m).1
      · rw [List.length_take, pz.length_eq]
        omega
      · refine d4 _ _ ⟨_, _, _, _, _, _, _, _, er', by simp [el], ?_, fr2, hb6, rfl⟩
        rw [← el]
        exact Rip.snoc rip al' gn gl gs (fun s hs => by rw [fgd]; exact go s hs)
  · rintro ρ st1 ⟨pre, js, fs, T, left, a7, a8, a9, er, el, rip, fr, hb1, rfl⟩
    refine ⟨trivial, ?_⟩
    rw [List.append_nil] at er
    have hl : pre.length = h := by rw [er, List.length_map, List.length_range]
    simp only [sRet, eTup, aCons, aNil, eVar, List.getElem?_cons_zero, List.getElem?_cons_succ]
    exact ⟨by show 2 ≤ 16777216; decide, hk _ _ ⟨_, _, js, fs, T, rfl, Nat.le_refl _, fr.j4, fr.j5, fr.fcs.weak (by omega), by omega, rip⟩ (hb1.le (by omega)) fr.kp⟩
  · rw [List.length_map, List.length_range]
    exact hb.app.app.app
end VP
end
section
namespace VP
open VM MT
abbrev lsts (fs : Fm) : List PV := fs.map fun f => .lst (strz f)
/-- faces of at most so many names out of some -/
structure Dn (zs : List (List Nat)) (n w : Nat) (fs : Fm) : Prop where
  pos : 1 ≤ fs.length
  len : fs.length ≤ n
  nd : ∀ f ∈ fs, f.Nodup
  wide : ∀ f ∈ fs, f.length ≤ w
  sub : ∀ f ∈ fs, ∀ s ∈ f, s ∈ zs
theorem Dn.weak {zs : List (List Nat)} {n w n' w' : Nat} {fs : Fm} (h : Dn zs n w fs) (hn : n ≤ n') (hw : w ≤ w') : Dn zs n' w' fs :=
  ⟨h.pos, Nat.le_trans h.len hn, h.nd, fun f hf => Nat.le_trans (h.wide f hf) hw, h.sub⟩
theorem Dn.put {zs : List (List Nat)} {n w a : Nat} {fs : Fm} {f : List (List Nat)} {s : List Nat} (h : Dn zs n w fs) (hf : f ∈ fs) (hs : s ∈ zs) (hn : s ∉ f) : Dn zs n (w + 1) (fs.set a (f ++ [s])) := by
  have key : ∀ g ∈ fs.set a (f ++ [s]), g ∈ fs ∨ g = f ++ [s] := fun g hg => List.mem_or_eq_of_mem_set hg
  refine ⟨by rw [List.length_set]; exact h.pos, by rw [List.length_set]; exact h.len, fun g hg => ?_, fun g hg => ?_, fun g hg t ht => ?_⟩
  · rcases key g hg with m | rfl
    · exact h.nd g m
    · refine List.nodup_append.mpr ⟨h.nd f hf, by simp, fun t ht u hu e => ?_⟩
      rw [List.mem_singleton.mp hu] at e
      exact hn (e ▸ ht)
  · rcases key g hg with m | rfl
    · exact Nat.le_succ_of_le (h.wide g m)
    · have := h.wide f hf
      simp
      omega
  · rcases key g hg with m | rfl
    · exact h.sub g m t ht
    · rcases List.mem_append.mp ht with q | q
      · exact h.sub f hf t q
      · rw [List.mem_singleton.mp q]; exact hs
theorem Dn.snoc {zs : List (List Nat)} {n w c : Nat} {fs : Fm} {f : List (List Nat)} (h : Dn zs n w fs) (hf : f ∈ fs) : Dn zs (n + 1) w (fs ++ [f.take c]) := by
  have key : ∀ g ∈ fs ++ [f.take c], g ∈ fs ∨ g = f.take c := fun g hg => (List.mem_append.mp hg).imp id fun z => List.mem_singleton.mp z
  refine ⟨by simp, by have := h.len; simp; exact this, fun g hg => ?_, fun g hg => ?_, fun g hg t ht => ?_⟩
  · rcases key g hg with m | rfl
    · exact h.nd g m
    · exact (h.nd f hf).sublist (List.take_sublist ..)
  · rcases key g hg with m | rfl
    · exact h.wide g m
    · have := h.wide f hf
      rw [List.length_take]
      omega
  · rcases key g hg with m | rfl
    · exact h.sub g m t ht
    · exact h.sub f hf t (List.mem_of_mem_take ht)
/-- lists of the store by pairs -/
def PsAt (st : Store) (lo : Nat) (ps : List (Nat × List (List Nat))) : Prop := ∀ p ∈ ps, st[p.1]? = some (.lst (strz p.2)) ∧ lo ≤ p.1 ∧ p.1 < st.length
theorem FcsAt.pairs {st : Store} {lo : Nat} : ∀ {js : List Nat} {fs : Fm}, FcsAt st lo js fs → PsAt st lo (js.zip fs) ∧ (js.zip fs).map (·.1) = js ∧ (js.zip fs).map (·.2) = fs := by
  intro js fs h
  refine ⟨fun p hp => ?_, ?_, ?_⟩
  · obtain ⟨i, hi, e⟩ := List.mem_iff_getElem.mp hp
    rw [List.getElem_zip] at e
    rw [List.length_zip] at hi
    have e1 : js[i]? = some p.1 := by rw [List.getElem?_eq_getElem (by omega), ← e]
    have e2 : fs[i]? = some p.2 := by rw [List.getElem?_eq_getElem (by omega), ← e]
    exact ⟨h.lst i _ _ e1 e2, h.lo _ (List.mem_of_getElem? e1)⟩
  · exact List.map_fst_zip (by rw [h.len]; exact Nat.le_refl _)
  · exact List.map_snd_zip (by rw [h.len]; exact Nat.le_refl _)
theorem PsAt.keep {st st' : Store} {lo r : Nat} {ps : List (Nat × List (List Nat))} (h : PsAt st lo ps) (k : Keep r st st') (hr : r < lo) : PsAt st' lo ps := fun p hp => by
  obtain ⟨h1, h2, h3⟩ := h p hp
  exact ⟨(k.2 _ (by omega) h3).trans h1, h2, Nat.lt_of_lt_of_le h3 k.1⟩
theorem PsAt.weak {st : Store} {lo lo' : Nat} {ps : List (Nat × List (List Nat))} (h : PsAt st lo ps) (hl : lo' ≤ lo) : PsAt st lo' ps := fun p hp => by
  obtain ⟨h1, h2, h3⟩ := h p hp
  exact ⟨h1, by omega, h3⟩
theorem perm_refs {α : Type} (f : α → Nat) {ys : List PV} {l : List α} (h : ys.Perm (l.map fun p => PV.ref (f p))) : ∃ l' : List α, ys = l'.map (fun p => PV.ref (f p)) ∧ l'.Perm l := by
  have key : ∀ (ys : List PV) (m : List PV), ys.Perm m → ∀ l : List α, m = l.map (fun p => PV.ref (f p)) → ∃ l' : List α, ys = l'.map (fun p => PV.ref (f p)) ∧ l'.Perm l := by
    intro ys m hp
    induction hp with
    | nil =>
      intro l e
      exact ⟨[], rfl, by rw [List.map_eq_nil_iff.mp e.symm]⟩
    | cons x hp ih =>
      intro l e
      cases l with
      | nil => cases e
      | cons a l =>
        rw [List.map_cons] at e
        obtain ⟨e1, e2⟩ := List.cons.inj e
        obtain ⟨l', h1, h2⟩ := ih l e2
        exact ⟨a :: l', by rw [h1, e1, List.map_cons], List.Perm.cons a h2⟩
    | swap x y m =>
      intro l e
      match l, e with
      | a :: b :: l, e =>
        simp only [List.map_cons, List.cons.injEq] at e
        obtain ⟨e1, e2, e3⟩ := e
        exact ⟨b :: a :: l, by rw [e1, e2, e3, List.map_cons, List.map_cons], List.Perm.swap a b l⟩
    | trans h1 h2 ih1 ih2 =>
      intro l e
      obtain ⟨l2, e2, p2⟩ := ih2 l e
      obtain ⟨l1, e1, p1⟩ := ih1 l2 e2
      exact ⟨l1, e1, p1.trans p2⟩
  exact key ys _ h l rfl
/-- what a drawn family is -/
def FamD (st' : Store) (lo : Nat) (zs : List (List Nat)) (v : PV) : Prop := ∃ (a : Nat) (ps : List (Nat × List (List Nat))), v = .ref a ∧ lo ≤ a ∧ st'[a]? = some (.lst (ps.map fun p => .ref p.1)) ∧ PsAt st' lo ps ∧ Dn zs 7 8 (ps.map (·.2))
theorem family_end {cs : CS} (mx : SpMixed cs) {r b lo : Nat} {zs : List (List Nat)} {st : Store} {fs : Fm} {u : PV} {six : PV} {a2 a3 a5 a6 a7 a8 a9 a10 : Option PV} {D : Ends} (rl : r < lo) (hl : lo ≤ st.length) (hu : asL st u = some (lsts fs)) (hur : u ≠ .ref r) (hd : Dn zs 7 8 fs) (hb : Bag st r (b + 70))
    (fin : ∀ v st', FamD st' lo zs v → Bag st' r b → Keep r st st' → D.rt v st') :
    sRet (eCall cs 17 (aCons (eVar 0) (aCons (eComp (iE (eVar 4)) (gName 10) tYes (eCall cs 17 (aCons (eVar 0) (aCons (eVar 10) aNil))) [10]) aNil))) D [some (.ref r), some six, a2, a3, some u, a5, a6, a7, a8, a9, a10] st := by
  obtain ⟨i1, i2⟩ := items_asL hu
  simp only [sRet, eCall, aCons, aNil, eComp, iE, eVar, List.getElem?_cons_zero, List.getElem?_cons_succ, i1, i2, true_and, wipe, List.set_cons_succ, List.set_cons_zero]
  have fl := hd.len
  refine comp_inv (fun rem acc st' => ∃ suf ps, rem = lsts suf ∧ acc = ps.map (fun p : Nat × List (List Nat) => PV.ref p.1) ∧ ps.length + suf.length = fs.length ∧ (∀ f ∈ suf, f ∈ fs) ∧ PsAt st' lo ps ∧ (∀ p ∈ ps, p.2.Nodup ∧ p.2.length ≤ 8 ∧ ∀ s ∈ p.2, s ∈ zs) ∧ Bag st' r (b + 7 + 8 * suf.length) ∧ Keep r st st') ?_ ?_ _ _ _ ⟨fs, [], rfl, rfl, by simp, fun f hf => hf, fun p hp => (by cases hp), fun p hp => (by cases hp), hb.le (by omega), Nat.le_refl _, fun _ _ _ => rfl⟩
  · rintro v rem acc st1 ⟨suf, ps, e1, rfl, el, hs, hp, hq, hb1, k1⟩
    have stay : stays st u st1 := by
      cases u <;> first | trivial | skip
      rename_i j
      simp only [asL] at hu
      refine k1.2 j (fun z => hur (by rw [z])) ?_
      cases e : st[j]? with
      | none => rw [e] at hu; cases hu
      | some o => exact (List.getElem?_eq_some_iff.mp e).1
    refine ⟨stay, fun k' hk' => ?_⟩
    cases suf with
    | nil => cases e1
    | cons f suf =>
      cases e1
      have ff := hs f (List.mem_cons_self ..)
      have fw := hd.wide f ff
      rw [List.length_cons] at hb1 el
      simp only [turn, tYes, gName, if_true, eCall, aCons, aNil, eVar, List.set_cons_succ, List.set_cons_zero, List.getElem?_cons_zero, List.getElem?_cons_succ]
      refine mixS (b := b + 7 + 8 * suf.length) mx (ss := f) rfl (fun z => by cases z) (by omega) (hb1.le (by omega)) fun ys st2 py hy hb2 k2 => ?_
      refine hk' _ _ ⟨by rw [List.length_map]; show _ < 16777216; omega, suf, ps ++ [(st1.length, ys)], rfl, by simp, by simp; omega, fun g hg => hs g (List.mem_cons_of_mem _ hg), fun p hp' => ?_, fun p hp' => ?_, hb2, k1.trans k2⟩
      · rcases List.mem_append.mp hp' with m | m
        · exact hp.keep k2 rl p m
        · rw [List.mem_singleton.mp m]
          exact ⟨hy, Nat.le_trans hl k1.1, (List.getElem?_eq_some_iff.mp hy).1⟩
      · rcases List.mem_append.mp hp' with m | m
        · exact hq p m
        · rw [List.mem_singleton.mp m]
          exact ⟨py.nodup_iff.mpr (hd.nd f ff), by rw [py.length_eq]; exact fw, fun s hs' => hd.sub f ff s (py.mem_iff.mp hs')⟩
  · rintro acc st1 ⟨suf, ps, e1, rfl, el, hs, hp, hq, hb1, k1⟩
    have stay : stays st u st1 := by
      cases u <;> first | trivial | skip
      rename_i j
      simp only [asL] at hu
      refine k1.2 j (fun z => hur (by rw [z])) ?_
      cases e : st[j]? with
      | none => rw [e] at hu; cases hu
      | some o => exact (List.getElem?_eq_some_iff.mp e).1
    refine ⟨stay, ?_⟩
    have se : suf = [] := List.map_eq_nil_iff.mp e1.symm
    subst se
    rw [List.length_nil, Nat.add_zero] at el
    refine mx r (.lst (ps.map fun p => PV.ref p.1)) _ st1 rfl (fun z => by cases z) (by rw [List.length_map]; omega) b _ _ (hb1.le (by rw [List.length_map]; omega)) fun v st2 hv hb2 k2 => ?_
    obtain ⟨ys, rfl, hy, py⟩ := hv
    obtain ⟨ps', rfl, pp⟩ := perm_refs (fun p : Nat × List (List Nat) => p.1) py
    have pl := pp.length_eq
    have dp := hd.pos
    refine fin _ _ ⟨st1.length, ps', rfl, Nat.le_trans hl k1.1, hy, fun p hp' => hp.keep k2 rl p (pp.mem_iff.mp hp'), ?_⟩ hb2 (k1.trans k2)
    refine ⟨by rw [List.length_map]; omega, by rw [List.length_map]; omega, fun f hf => ?_, fun f hf => ?_, fun f hf => ?_⟩
    all_goals obtain ⟨p, hp', rfl⟩ := List.mem_map.mp hf
    · exact (hq p (pp.mem_iff.mp hp')).1
    · exact (hq p (pp.mem_iff.mp hp')).2.1
    · exact (hq p (pp.mem_iff.mp hp')).2.2
/-- spare names, a further face, all mixed -/
theorem family_rest {cs : CS} (tk : SpTake cs) (mx : SpMixed cs) (of : SpOf cs) {r b lo j2 j4 : Nat} {zs : List (List Nat)} {st : Store} {fs : Fm} {six : PV} {a3 a5 a6 a7 a8 a9 a10 : Option PV} {D : Ends} (rl : r < lo) (hl : lo ≤ st.length) (l2 : lo ≤ j2) (l4 : lo ≤ j4) (ne : j2 ≠ j4)
    (h2 : st[j2]? = some (.lst (strz zs))) (h4 : st[j4]? = some (.lst (lsts fs))) (zl : zs.length = 8) (hd : Dn zs 6 5 fs) (hb : Bag st r (b + 90))
    (fin : ∀ v st', FamD st' lo zs v → Bag st' r b → (∀ i, i ≠ r → i < lo → st'[i]? = st[i]?) → st.length ≤ st'.length → D.rt v st') :
    (sCons (sSet (gName 7) (eSl (eVar 2) (some (eC (.int 6))) none))
    (sCons (sFor (iRange1 (eCall cs 1 (aCons (eVar 0) (aCons (eC (.int 3)) aNil)))) (gName 6)
    (sCons (sSet (gName 8) (eCall cs 1 (aCons (eVar 0) (aCons (eB1 fLen (eVar 4)) aNil))))
    (sCons (sSet (gName 9) (eCall cs 2 (aCons (eVar 0) (aCons (eVar 7) aNil))))
    (sIf (tCmp .notin (eVar 9) (eIx (eVar 4) (eVar 8)))
    (sSetIx (eVar 4) (eVar 8) (eBin .add (eIx (eVar 4) (eVar 8)) (eLst (aCons (eVar 9) aNil))))
    sNil))))
    (sCons (sIf (tCmp .eq (eCall cs 1 (aCons (eVar 0) (aCons (eC (.int 3)) aNil))) (eC (.int 0)))
    (sSet (gName 4) (eBin .add (eVar 4) (eLst (aCons (eSl (eCall cs 2 (aCons (eVar 0) (aCons (eVar 4) aNil))) none (some (eCall cs 1 (aCons (eVar 0) (aCons (eC (.int 3)) aNil))))) aNil))))
    sNil)
    (sRet (eCall cs 17 (aCons (eVar 0) (aCons (eComp (iE (eVar 4)) (gName 10) tYes (eCall cs 17 (aCons (eVar 0) (aCons (eVar 10) aNil))) [10]) aNil))))))) D [some (.ref r), some six, some (.ref j2), a3, some (.ref j4), a5, a6, a7, a8, a9, a10] st := by
  rw [sCons]
  have e6 : slc (strz zs) (some 6) none = strz (zs.drop 6) := by
    have := slc_drop (strz zs) 6
    rw [strz, ← List.map_drop] at this
    exact this
  simp only [sSet, eSl, eVar, eC, gName, getSl, asL, h2, e6, List.getElem?_cons_zero, List.getElem?_cons_succ, List.set_cons_succ, List.set_cons_zero]
  rw [sCons]
  simp only [sFor, iRange1, eCall, aCons, aNil, eVar, eC, List.getElem?_cons_zero, List.getElem?_cons_succ]
  refine drawT (m := 3) (b := b + 80) tk (by decide) (hb.le (by omega)) fun d st1 hd1 hb1 k1 => ?_
  refine ⟨by unfold i62; omega, ?_⟩
  rw [Int.toNat_natCast]
  have h2l := (List.getElem?_eq_some_iff.mp h2).1
  have h4l := (List.getElem?_eq_some_iff.mp h4).1
  refine for_inv (fun rem ρ st' => ∃ fs' a6 a8 a9, rem.length ≤ 2 ∧ Dn zs 6 (7 - rem.length) fs' ∧ st'[j2]? = some (.lst (strz zs)) ∧ st'[j4]? = some (.lst (lsts fs')) ∧ Bag st' r (b + 74 + 2 * rem.length) ∧ st.length ≤ st'.length ∧ (∀ i, i ≠ r → i < lo → st'[i]? = st[i]?) ∧
    ρ = [some (.ref r), some six, some (.ref j2), a3, some (.ref j4), a5, a6, some (.lst (strz (zs.drop 6))), a8, a9, a10]) ?_ ?_ _ _ _ ⟨fs, a6, a8, a9, by rw [List.length_map, List.length_range]; omega, hd.weak (Nat.le_refl _) (by rw [List.length_map, List.length_range]; omega), (k1.2 _ (by omega) h2l).trans h2, (k1.2 _ (by omega) h4l).trans h4, hb1.le (by rw [List.length_map, List.length_range]; omega), k1.1, fun i a c => k1.2 i a (by omega), rfl⟩
  · rintro v rem ρ st2 ⟨fs', b6, b8, b9, rl2, hd2, g2, g4, hb2, gl, gk, rfl⟩
    refine ⟨trivial, fun D' d1 d2 d3 d4 d5 => ?_⟩
    rw [List.length_cons] at rl2 hb2 hd2
    simp only [gName, List.set_cons_succ, List.set_cons_zero]
    rw [sCons]
    have fp := hd2.pos
    simp only [sSet, eCall, aCons, aNil, eB1, fLen, eVar, gName, bLen, asL, g4, List.length_map, List.getElem?_cons_zero, List.getElem?_cons_succ, List.set_cons_succ, List.set_cons_zero]
    refine drawT (m := fs'.length) (b := b + 74 + 2 * rem.length + 1) tk (by omega) (hb2.le (by omega)) fun at' st3 ha hb3 k3 => ?_
    rw [sCons]
    simp only [sSet, eCall, aCons, aNil, eVar, gName, List.getElem?_cons_zero, List.getElem?_cons_succ, List.set_cons_succ, List.set_cons_zero]
    refine of r (.lst (strz (zs.drop 6))) (strz (zs.drop 6)) st3 rfl (fun z => ?_) (fun z => by cases z) (fun j z => by cases z) (b + 74 + 2 * rem.length) _ _ (hb3.le (by omega)) fun v' st4 hv hb4 k4 => ?_
    · have := congrArg List.length z
      rw [List.length_map, List.length_drop, List.length_nil] at this
      omega
    · obtain ⟨s, hs, rfl⟩ := List.mem_map.mp hv
      have hs' := List.mem_of_mem_drop hs
      have k34 := k3.trans k4
      have g2' : st4[j2]? = some (.lst (strz zs)) := (k34.2 _ (by omega) (by omega)).trans g2
      have g4' : st4[j4]? = some (.lst (lsts fs')) := (k34.2 _ (by omega) (by omega)).trans g4
      have gk' : ∀ i, i ≠ r → i < lo → st4[i]? = st[i]? := fun i a c => (k34.2 i a (by omega)).trans (gk i a c)
      have gl' := Nat.le_trans gl k34.1
      obtain ⟨f, hf⟩ : ∃ f, fs'[at']? = some f := ⟨_, List.getElem?_eq_getElem ha⟩
      have hf' : (lsts fs')[at']? = some (.lst (strz f)) := by rw [List.getElem?_map, hf]; rfl
      have hfm := List.mem_of_getElem? hf
      have fw := hd2.wide f hfm
      simp only [sIf, tCmp, eVar, eIx, List.getElem?_cons_zero, List.getElem?_cons_succ]
      refine get_sq (u := .ref j4) (by rw [sq_ref, g4']) hf' ?_
      simp only [opCm, in_strs]
      by_cases hin : s ∈ f
      · simp only [hin, decide_true, Bool.not_true, Bool.false_eq_true, if_false, sNil]
        exact d4 _ _ ⟨fs', _, _, _, by omega, hd2.weak (Nat.le_refl _) (by omega), g2', g4', hb4, gl', gk', rfl⟩
      · simp only [hin, decide_false, Bool.not_false, if_true, sSetIx, eBin, eIx, eLst, eVar, aCons, aNil, List.getElem?_cons_zero, List.getElem?_cons_succ]
        refine get_sq (u := .ref j4) (by rw [sq_ref, g4']) hf' ?_
        refine ⟨by show 1 ≤ 16777216; decide, ?_⟩
        simp only [opBin, opAdd, asL]
        refine ⟨by rw [List.length_map]; show _ ≤ 16777216; simp; omega, ?_⟩
        have ei : ix (lsts fs').length (at' : Int) = some at' := ix_nat (by rw [List.length_map]; exact ha)
        simp only [setIx, g4', ei]
        refine d4 _ _ ⟨fs'.set at' (f ++ [s]), _, _, _, by omega, (hd2.put hfm hs' hin).weak (Nat.le_refl _) (by omega), by rw [List.getElem?_set_ne (Ne.symm ne)]; exact g2', ?_, hb4.put (by omega), by rw [List.length_set]; exact gl', fun i a c => by rw [List.getElem?_set_ne (by omega)]; exact gk' i a c, rfl⟩
        rw [List.getElem?_set_self (List.getElem?_eq_some_iff.mp g4').1]
        simp [List.map_set]
  · rintro ρ st2 ⟨fs', b6, b8, b9, rl2, hd2, g2, g4, hb2, gl, gk, rfl⟩
    refine ⟨trivial, ?_⟩
    dsimp only
    rw [sCons]
    simp only [sIf, tCmp, eCall, aCons, aNil, eVar, eC, opCm, List.getElem?_cons_zero, List.getElem?_cons_succ]
    refine drawT (m := 3) (b := b + 73) tk (by decide) (hb2.le (by omega)) fun d3 st3 hd3 hb3 k3 => ?_
    have g4' : st3[j4]? = some (.lst (lsts fs')) := (k3.2 _ (by omega) (by omega)).trans g4
    have gk' : ∀ i, i ≠ r → i < lo → st3[i]? = st[i]? := fun i a c => (k3.2 i a (by omega)).trans (gk i a c)
    have gl' := Nat.le_trans gl k3.1
    refine ⟨by simp [isD, frz], by simp [isD, frz], ?_⟩
    simp only [frz, eqv]
    by_cases hz : ((d3 : Int) == 0) = true
    · simp only [hz, if_true, sSet, eBin, eLst, eSl, eCall, aCons, aNil, eVar, eC, gName, List.getElem?_cons_zero, List.getElem?_cons_succ, List.set_cons_succ, List.set_cons_zero]
      refine of r (.ref j4) (lsts fs') st3 (asL_ref g4') (fun z => ?_) (fun z => by cases z; omega) (fun j z => by cases z; exact (List.getElem?_eq_some_iff.mp g4').1) (b + 72) _ _ (hb3.le (by omega)) fun v' st4 hv hb4 k4 => ?_
      · have := congrArg List.length z
        have := hd2.pos
        rw [List.length_map, List.length_nil] at *
        omega
      · obtain ⟨f, hf, rfl⟩ := List.mem_map.mp hv
        refine drawT (m := 3) (b := b + 71) tk (by decide) (hb4.le (by omega)) fun c st5 hc hb5 k5 => ?_
        have k45 := k4.trans k5
        have g4'' : st5[j4]? = some (.lst (lsts fs')) := (k45.2 _ (by omega) (by omega)).trans g4'
        simp only [getSl, asL, slc_take, opBin, opAdd, g4'']
        have fl := hd2.len
        refine ⟨by show 1 ≤ 16777216; decide, by rw [List.length_map]; show _ ≤ 16777216; simp; omega, ?_⟩
        have ee : lsts fs' ++ [PV.lst ((strz f).take c)] = lsts (fs' ++ [f.take c]) := by simp
        rw [ee]
        refine family_end (lo := lo) (b := b) mx rl (by have := k45.1; omega) rfl (fun z => by cases z) ((hd2.snoc hf).weak (by omega) (by omega)) (hb5.le (by omega)) fun v st6 hv hb6 k6 => fin v st6 hv hb6 (fun i a c => ?_) (by have := k45.1; have := k6.1; omega)
        rw [k6.2 i a (by have := k45.1; omega), k45.2 i a (by omega)]
        exact gk' i a c
    · simp only [hz, Bool.false_eq_true, if_false, sNil]
      refine family_end (lo := lo) (b := b) mx rl (by omega) (asL_ref g4') (fun z => by cases z; omega) (hd2.weak (by omega) (by omega)) (hb3.le (by omega)) fun v st6 hv hb6 k6 => fin v st6 hv hb6 (fun i a c => ?_) (by have := k6.1; omega)
      rw [k6.2 i a (by omega)]
      exact gk' i a c
end VP
end
section
namespace VP
open VM MT
theorem slc_mid {α : Type} (xs : List α) (n m : Nat) : slc xs (some (n : Int)) (some (m : Int)) = (xs.drop n).take (m - n) := by
  unfold slc cutIx
  simp only []
  rw [if_neg (by omega), if_neg (by omega), Int.toNat_natCast, Int.toNat_natCast]
  by_cases hn : n ≤ xs.length
  · rw [Nat.min_eq_left hn]
    by_cases hm : m ≤ xs.length
    · rw [Nat.min_eq_left hm]
    · rw [Nat.min_eq_right (by omega), List.take_of_length_le (by rw [List.length_drop]; exact Nat.le_refl _), List.take_of_length_le (by rw [List.length_drop]; omega)]
  · rw [Nat.min_eq_right (show xs.length ≤ n by omega), List.drop_of_length_le (Nat.le_refl _), List.drop_of_length_le (show xs.length ≤ n by omega)]
    simp
theorem fmod_nat (a b : Nat) : ((a : Int)).fmod (b : Int) = ((a % b : Nat) : Int) := by
  rw [Int.fmod_eq_emod_of_nonneg _ (by omega)]
  rfl
theorem gdN {zs : List (List Nat)} {i : Nat} (h : i < zs.length) : (strz zs)[i]? = some (.str (zs.getD i [])) := by
  rw [List.getElem?_map, List.getElem?_eq_getElem h, List.getD_eq_getElem?_getD, List.getElem?_eq_getElem h]
  rfl
theorem gd_mem {zs : List (List Nat)} {i : Nat} (h : i < zs.length) : zs.getD i [] ∈ zs := by
  rw [List.getD_eq_getElem?_getD, List.getElem?_eq_getElem h]
  exact List.getElem_mem h
theorem gd_inj {zs : List (List Nat)} (nd : zs.Nodup) {i j : Nat} (hi : i < zs.length) (hj : j < zs.length) (h : zs.getD i [] = zs.getD j []) : i = j := by
  rw [List.getD_eq_getElem?_getD, List.getD_eq_getElem?_getD, List.getElem?_eq_getElem hi, List.getElem?_eq_getElem hj] at h
  exact (List.getElem_inj nd).mp h
theorem ring_dn {zs : List (List Nat)} (zl : zs.length = 8) (nd : zs.Nodup) {m : Nat} (h : 4 ≤ m) (h' : m ≤ 6) : Dn zs 6 5 ((List.range m).map fun i => [zs.getD i [], zs.getD ((i + 1) % m) []]) := by
  refine ⟨by simp; omega, by simp; omega, fun f hf => ?_, fun f hf => ?_, fun f hf s hs => ?_⟩
  all_goals obtain ⟨i, hi, rfl⟩ := List.mem_map.mp hf
  all_goals have hi := List.mem_range.mp hi
  all_goals have hm := Nat.mod_lt (i + 1) (show m > 0 by omega)
  · have hne : i ≠ (i + 1) % m := by
      intro z
      by_cases e : i + 1 < m
      · rw [Nat.mod_eq_of_lt e] at z; omega
      · have : i + 1 = m := by omega
        rw [this, Nat.mod_self] at z
        omega
    simp only [List.nodup_cons, List.mem_singleton, List.not_mem_nil, not_false_eq_true, List.nodup_nil, and_true]
    exact fun z => hne (gd_inj nd (by omega) (by omega) z)
  · show 2 ≤ 5
    decide
  · simp only [List.mem_cons, List.not_mem_nil, or_false] at hs
    rcases hs with rfl | rfl
    · exact gd_mem (by omega)
    · exact gd_mem (by omega)
theorem knot_dn {zs : List (List Nat)} (zl : zs.length = 8) (nd : zs.Nodup) {m : Nat} (h : 3 ≤ m) (h' : m ≤ 5) : Dn zs 6 5 ((List.range m).map fun i => zs.take i ++ (zs.drop (i + 1)).take (m - (i + 1))) := by
  refine ⟨by simp; omega, by simp; omega, fun f hf => ?_, fun f hf => ?_, fun f hf s hs => ?_⟩
  all_goals obtain ⟨i, hi, rfl⟩ := List.mem_map.mp hf
  all_goals have hi := List.mem_range.mp hi
  · refine nd.sublist (List.Sublist.trans (l₂ := zs.take i ++ zs.drop (i + 1)) (List.Sublist.append (List.Sublist.refl _) (List.take_sublist ..)) ?_)
    rw [← List.eraseIdx_eq_take_drop_succ]
    exact List.eraseIdx_sublist ..
  · rw [List.length_append, List.length_take, List.length_take, List.length_drop]
    omega
  · rcases List.mem_append.mp hs with q | q
    · exact List.mem_of_mem_take q
    · exact List.mem_of_mem_drop (List.mem_of_mem_take q)
def SpFamily (cs : CS) : Prop := ∀ (r : Nat) (st : Store), Dr cs 62 [.int 6] r 1000 st fun v st' => ∃ zs : List (List Nat), zs.length = 8 ∧ zs.Nodup ∧ (∀ s ∈ zs, nmS s = true ∧ 111 ∉ s) ∧ FamD st' st.length zs v
set_option maxHeartbeats 1000000 in
theorem family_at {FT : Nat → Option FD} {d : Nat} (hF : FT 62 = some ⟨2, 11, T__law_family⟩) (h1 : At FT d SpTake) (h2 : At FT d SpMixed) (h3 : At FT d SpOf) (h4 : At FT d SpNamesM) (h5 : At FT d SpFaces) : At FT (d + 1) SpFamily := at_of (C := fun cs => SpTake cs ∧ SpMixed cs ∧ SpOf cs ∧ SpNamesM cs ∧ SpFaces cs) hF (fun n hn => ⟨h1 n hn, h2 n hn, h3 n hn, h4 n hn, h5 n hn⟩) fun cs cs' C go => by
  obtain ⟨tk, mx, of, nm, fa⟩ := C
  intro r st b k x hb hk
  refine go _ _ _ _ rfl ?_
  have rl := hb.lt
  rw [T__law_family, sCons]
  simp only [sSet, eCall, aCons, aNil, eVar, eC, gName, List.map_cons, List.map_nil, List.replicate_succ, List.replicate_zero, List.cons_append, List.nil_append, List.getElem?_cons_zero, List.getElem?_cons_succ, List.set_cons_succ, List.set_cons_zero, Nat.reduceSub]
  refine nm 8 r st (by decide) (b + 900) _ _ (hb.le (by omega)) fun v st1 hv hb1 k1 => ?_
  obtain ⟨ss, rfl, sl, snd, sok⟩ := hv
  refine mixS (b := b + 800) mx (ss := ss) rfl (fun z => by cases z) (by omega) (hb1.le (by omega)) fun zs st2 pz hz hb2 k2 => ?_
  have zl : zs.length = 8 := by rw [pz.length_eq]; exact sl
  have znd : zs.Nodup := pz.nodup_iff.mpr snd
  have zok : ∀ s ∈ zs, nmS s = true ∧ 111 ∉ s := fun s hs => sok s (pz.mem_iff.mp hs)
  have k12 := k1.trans k2
  have kl1 := k1.1
  have kl2 := k12.1
  have z2 := (List.getElem?_eq_some_iff.mp hz).1
  generalize hj2 : st1.length = j2 at *
  rw [sCons]
  simp only [sSet, eCall, aCons, aNil, eVar, eC, gName, List.getElem?_cons_zero, List.getElem?_cons_succ, List.set_cons_succ, List.set_cons_zero]
  refine drawT (m := 5) (b := b + 700) tk (by decide) (hb2.le (by omega)) fun kd st3 hkd hb3 k3 => ?_
  have k13 := k12.trans k3
  have kl3 := k3.1
  have hz3 : st3[j2]? = some (.lst (strz zs)) := (k3.2 _ (by omega) z2).trans hz
  rw [sCons]
  simp only [sIf, tCmp, opCm, eVar, eC, List.getElem?_cons_zero, List.getElem?_cons_succ]
  by_cases c1 : kd < 2
  · have hc : decide ((kd : Int) < 2) = true := decide_eq_true (by omega)
    simp only [hc, if_true, sRet, eIx, eCall, aCons, aNil, eBin, eVar, eC, List.getElem?_cons_zero, List.getElem?_cons_succ]
    refine drawT (m := 6) (b := b + 500) tk (by decide) (hb3.le (by omega)) fun e st4 he hb4 k4 => ?_
    simp only [opBin, opAdd]
    have ee : (1 : Int) + (e : Int) = ((1 + e : Nat) : Int) := by omega
    rw [ee]
    have hz4 : st4[j2]? = some (.lst (strz zs)) := (k4.2 _ (by omega) (by omega)).trans hz3
    refine fa (1 + e) 5 r (.ref j2) zs st4 (asL_ref hz4) znd (by omega) (by decide) (by omega) b _ _ (hb4.le (by omega)) fun v st5 hv hb5 k5 => ?_
    obtain ⟨a, b', js, fs, T, rfl, al, ha, _, hfc, hfl, rip⟩ := hv
    obtain ⟨p1, p2, p3⟩ := hfc.pairs
    have kl4 := k4.1
    refine get_tup (i := 0) (y := .ref a) rfl ?_
    refine hk _ _ ⟨zs, zl, znd, zok, a, js.zip fs, rfl, by omega, ?_, p1.weak (by omega), ?_⟩ hb5 ((k13.trans k4).trans k5)
    · rw [ha]
      congr 2
      conv => lhs; rw [← p2]
      rw [List.map_map]
      rfl
    · rw [p3]
      exact ⟨by omega, by omega, rip.nd, fun f hf => Nat.le_trans (rip.le f hf) (by decide), rip.sub⟩
  · have hc : decide ((kd : Int) < 2) = false := decide_eq_false (by omega)
    simp only [hc, Bool.false_eq_true, if_false, sNil]
    rw [sCons]
    simp only [sSet, eLstM, aNil, gName, List.set_cons_succ, List.set_cons_zero]
    refine ⟨by show 0 ≤ 16777216; decide, ?_⟩
    rw [sCons]
    have hz4 : (st3 ++ [SO.lst []])[j2]? = some (.lst (strz zs)) := by rw [List.getElem?_append_left (by omega)]; exact hz3
    have hb4 := hb3.app (o := SO.lst [])
    have k4 : Keep r st (st3 ++ [SO.lst []]) := ⟨by rw [List.length_append]; omega, fun i a c => by rw [List.getElem?_append_left (by omega)]; exact k13.2 i a c⟩
    have l4 : st.length ≤ (st3 ++ [SO.lst []]).length := k4.1
    have j2l : j2 < (st3 ++ [SO.lst []]).length := (List.getElem?_eq_some_iff.mp hz4).1
    generalize st3 ++ [SO.lst []] = st4 at *
    generalize st3.length = jg
    -- what is left to do, once the faces stand at a place
    have rest : ∀ (st5 : Store) (j4 : Nat) (fs : Fm) a5 a6, j2 < j4 → st5[j2]? = some (.lst (strz zs)) → st5[j4]? = some (.lst (lsts fs)) → Dn zs 6 5 fs → Bag st5 r (b + 90) → Keep r st st5 → _ :=
      fun st5 j4 fs a5 a6 h24 g2 g4 hd hb5 k5 => family_rest (cs := cs) (b := b) (D := D0 k x) (lo := st.length) (six := .int 6) (a3 := some (.int (kd : Nat))) (a5 := a5) (a6 := a6) (a7 := none) (a8 := none) (a9 := none) (a10 := none) tk mx of rl k5.1 (by omega) (by omega) (by omega) g2 g4 zl hd hb5
        fun v st6 hv hb6 h6 hl6 => hk v st6 ⟨zs, zl, znd, zok, hv⟩ hb6 ⟨Nat.le_trans k5.1 hl6, fun i a c => (h6 i a c).trans (k5.2 i a c)⟩
    simp only [sIf, tCmp, opCm, eVar, eC, List.getElem?_cons_zero, List.getElem?_cons_succ]
    refine ⟨by simp [isD, frz], by simp [isD, frz], ?_⟩
    simp only [frz, eqv]
    by_cases c2 : ((kd : Int) == 2) = true
    · simp only [c2, if_true]
      rw [sCons]
      simp only [sSet, eBin, eCall, aCons, aNil, eVar, eC, gName, List.getElem?_cons_zero, List.getElem?_cons_succ, List.set_cons_succ, List.set_cons_zero]
      refine drawT (m := 3) (b := b + 500) tk (by decide) (hb4.le (by omega)) fun e st5 he hb5 k5 => ?_
      have ee : (4 : Int) + (e : Int) = ((4 + e : Nat) : Int) := by omega
      have hz5 : st5[j2]? = some (.lst (strz zs)) := (k5.2 _ (by omega) j2l).trans hz4
      have kl5 := k5.1
      simp only [opBin, opAdd, ee, eCompM, iRange1, eVar, List.getElem?_cons_zero, List.getElem?_cons_succ]
      refine ⟨by unfold i62; omega, ?_⟩
      rw [Int.toNat_natCast]
      refine comp_of (fun i : Nat => PV.int (i : Int)) (fun i => some (.lst (strz [zs.getD i [], zs.getD ((i + 1) % (4 + e)) []]))) trivial (List.range (4 + e)) (fun i hi k' hk' => ?_) (by rw [List.length_range]; show _ ≤ 16777216; omega) ?_
      · have hi := List.mem_range.mp hi
        have hm := Nat.mod_lt (i + 1) (show 4 + e > 0 by omega)
        simp only [turn, gName, tYes, wipe, List.set_cons_zero, List.set_cons_succ, if_true, eLst, aCons, aNil, eIx, eBin, eB1, fInt, eVar, eC, List.getElem?_cons_zero, List.getElem?_cons_succ]
        refine get_sq (u := .ref j2) (by rw [sq_ref, hz5]) (gdN (by omega)) ?_
        simp only [opBin, opAdd, opMod, fInt]
        refine ⟨by omega, ?_⟩
        rw [show (i : Int) + 1 = ((i + 1 : Nat) : Int) by omega, fmod_nat]
        refine get_sq (u := .ref j2) (by rw [sq_ref, hz5]) (gdN (by omega)) ?_
        exact ⟨by show 2 ≤ 16777216; decide, hk'⟩
      · refine rest _ _ ((List.range (4 + e)).map fun i => [zs.getD i [], zs.getD ((i + 1) % (4 + e)) []]) _ _ (by omega) ?_ ?_ (ring_dn zl znd (by omega) (by omega)) (hb5.app.le (by omega)) ⟨by rw [List.length_append]; omega, fun i a c => ?_⟩
        · rw [List.getElem?_append_left (by omega)]; exact hz5
        · rw [List.getElem?_append_right (Nat.le_refl _), Nat.sub_self]
          rw [show (fun i : Nat => some (PV.lst (strz [zs.getD i [], zs.getD ((i + 1) % (4 + e)) []]))) = some ∘ (fun i => PV.lst (strz [zs.getD i [], zs.getD ((i + 1) % (4 + e)) []])) from rfl, List.filterMap_eq_map]
          simp
        · rw [List.getElem?_append_left (by omega), k5.2 i a (by omega)]
          exact k4.2 i a c
    · simp only [c2, Bool.false_eq_true, if_false, sIf, tCmp, opCm, eVar, eC, List.getElem?_cons_zero, List.getElem?_cons_succ]
      refine ⟨by simp [isD, frz], by simp [isD, frz], ?_⟩
      simp only [frz, eqv]
      by_cases c3 : ((kd : Int) == 3) = true
      · simp only [c3, if_true]
        rw [sCons]
        simp only [sSet, eBin, eCall, aCons, aNil, eVar, eC, gName, List.getElem?_cons_zero, List.getElem?_cons_succ, List.set_cons_succ, List.set_cons_zero]
        refine drawT (m := 3) (b := b + 500) tk (by decide) (hb4.le (by omega)) fun e st5 he hb5 k5 => ?_
        have ee : (3 : Int) + (e : Int) = ((3 + e : Nat) : Int) := by omega
        have hz5 : st5[j2]? = some (.lst (strz zs)) := (k5.2 _ (by omega) j2l).trans hz4
        have kl5 := k5.1
        simp only [opBin, opAdd, ee, eCompM, iRange1, eVar, List.getElem?_cons_zero, List.getElem?_cons_succ]
        refine ⟨by unfold i62; omega, ?_⟩
        rw [Int.toNat_natCast]
        refine comp_of (fun i : Nat => PV.int (i : Int)) (fun i => some (.lst (strz (zs.take i ++ (zs.drop (i + 1)).take (3 + e - (i + 1)))))) trivial (List.range (3 + e)) (fun i hi k' hk' => ?_) (by rw [List.length_range]; show _ ≤ 16777216; omega) ?_
        · have hi := List.mem_range.mp hi
          simp only [turn, gName, tYes, wipe, List.set_cons_zero, List.set_cons_succ, if_true, eSl, eBin, eVar, eC, getSl, asL, hz5, opBin, opAdd, slc_take, List.getElem?_cons_zero, List.getElem?_cons_succ]
          rw [show (i : Int) + 1 = ((i + 1 : Nat) : Int) by omega, slc_mid]
          refine ⟨by rw [List.length_take, List.length_take, List.length_drop, List.length_map]; show _ ≤ 16777216; omega, ?_⟩
          have e2 : (strz zs).take i ++ ((strz zs).drop (i + 1)).take (3 + e - (i + 1)) = strz (zs.take i ++ (zs.drop (i + 1)).take (3 + e - (i + 1))) := by simp
          rw [e2]
          exact hk'
        · refine rest _ _ ((List.range (3 + e)).map fun i => zs.take i ++ (zs.drop (i + 1)).take (3 + e - (i + 1))) _ _ (by omega) ?_ ?_ (knot_dn zl znd (by omega) (by omega)) (hb5.app.le (by omega)) ⟨by rw [List.length_append]; omega, fun i a c => ?_⟩
          · rw [List.getElem?_append_left (by omega)]; exact hz5
          · rw [List.getElem?_append_right (Nat.le_refl _), Nat.sub_self]
            rw [show (fun i : Nat => some (PV.lst (strz (zs.take i ++ (zs.drop (i + 1)).take (3 + e - (i + 1)))))) = some ∘ (fun i => PV.lst (strz (zs.take i ++ (zs.drop (i + 1)).take (3 + e - (i + 1))))) from rfl, List.filterMap_eq_map]
            simp
          · rw [List.getElem?_append_left (by omega), k5.2 i a (by omega)]
            exact k4.2 i a c
      · simp only [c3, Bool.false_eq_true, if_false, sSet, gName, eCompM, iRange1, eBin, eCall, aCons, aNil, eVar, eC, List.getElem?_cons_zero, List.getElem?_cons_succ]
        refine drawT (m := 6) (b := b + 500) tk (by decide) (hb4.le (by omega)) fun e st5 he hb5 k5 => ?_
        have ee : (1 : Int) + (e : Int) = ((1 + e : Nat) : Int) := by omega
        have hz5 : st5[j2]? = some (.lst (strz zs)) := (k5.2 _ (by omega) j2l).trans hz4
        have kl5 := k5.1
        simp only [opBin, opAdd, ee]
        refine ⟨by unfold i62; omega, ?_⟩
        rw [Int.toNat_natCast]
        have k45 : Keep r st st5 := k4.trans k5
        simp only [wipe, List.set_cons_succ, List.set_cons_zero]
        refine comp_inv (fun rem acc st' => ∃ gs : Fm, acc = lsts gs ∧ gs.length + rem.length = 1 + e ∧ (∀ f ∈ gs, f.Nodup ∧ f.length ≤ 5 ∧ ∀ s ∈ f, s ∈ zs) ∧ st'[j2]? = some (.lst (strz zs)) ∧ st5.length ≤ st'.length ∧ Bag st' r (b + 90 + 20 * rem.length) ∧ Keep r st st') ?_ ?_ _ _ _ ⟨[], rfl, by simp, fun f hf => (by cases hf), hz5, Nat.le_refl _, hb5.le (by rw [List.length_map, List.length_range]; omega), k45⟩
        · rintro v rem acc st6 ⟨gs, rfl, gl, gok, g2, gle, hb6, k6⟩
          refine ⟨trivial, fun k' hk' => ?_⟩
          rw [List.length_cons] at gl hb6
          simp only [turn, gName, tYes, wipe, List.set_cons_zero, List.set_cons_succ, if_true, eSl, eBin, eCall, aCons, aNil, eVar, eC, List.getElem?_cons_zero, List.getElem?_cons_succ]
          refine drawT (m := 3) (b := b + 90 + 20 * rem.length + 19) tk (by decide) (hb6.le (by omega)) fun e7 st7 he7 hb7 k7 => ?_
          have kl7 := k7.1
          have g27 : st7[j2]? = some (.lst (strz zs)) := (k7.2 _ (by omega) (by omega)).trans g2
          have e4 : (4 : Int) + (e7 : Int) = ((4 + e7 : Nat) : Int) := by omega
          have et : (strz zs).take (4 + e7) = strz (zs.take (4 + e7)) := by simp
          simp only [opBin, opAdd, getSl, asL, g27, e4, slc_take, et]
          refine mixS (b := b + 90 + 20 * rem.length + 1) mx (ss := zs.take (4 + e7)) rfl (fun z => by cases z) (by rw [List.length_take]; omega) (hb7.le (by rw [List.length_take]; omega)) fun ys st8 py hy hb8 k8 => ?_
          have kl8 := k8.1
          refine drawT (m := 4) (b := b + 90 + 20 * rem.length) tk (by decide) (hb8.le (by omega)) fun c st9 hc hb9 k9 => ?_
          have k79 := (k7.trans k8).trans k9
          have hy9 : st9[st7.length]? = some (.lst (strz ys)) := (k9.2 _ (by omega) (List.getElem?_eq_some_iff.mp hy).1).trans hy
          have et2 : (strz ys).take c = strz (ys.take c) := by simp
          simp only [asL, hy9, slc_take, et2]
          refine hk' _ _ ⟨by rw [List.length_map]; show _ < 16777216; omega, gs ++ [ys.take c], by simp, by simp; omega, fun f hf => ?_, (k79.2 _ (by omega) (by omega)).trans g2, Nat.le_trans gle k79.1, hb9, k6.trans k79⟩
          rcases List.mem_append.mp hf with m | m
          · exact gok f m
          · rw [List.mem_singleton.mp m]
            refine ⟨(py.nodup_iff.mpr (znd.sublist (List.take_sublist ..))).sublist (List.take_sublist ..), by rw [List.length_take]; omega, fun s hs => ?_⟩
            exact List.mem_of_mem_take (py.mem_iff.mp (List.mem_of_mem_take hs))
        · rintro acc st6 ⟨gs, rfl, gl, gok, g2, gle, hb6, k6⟩
          refine ⟨trivial, ?_⟩
          rw [List.length_nil] at gl
          have k6l := k6.1
          refine rest _ _ gs _ _ (by omega) ?_ ?_ ⟨by omega, by omega, fun f hf => (gok f hf).1, fun f hf => (gok f hf).2.1, fun f hf => (gok f hf).2.2⟩ (hb6.app.le (by omega)) ⟨by rw [List.length_append]; omega, fun i a c => ?_⟩
          · rw [List.getElem?_append_left (by omega)]; exact g2
          · rw [List.getElem?_append_right (Nat.le_refl _), Nat.sub_self]
            rfl
          · rw [List.getElem?_append_left (by omega)]
            exact k6.2 i a c
def SpTuples (cs : CS) : Prop := ∀ (a lo : Nat) (ps : List (Nat × List (List Nat))) (st : Store) (k x : KV), st[a]? = some (.lst (ps.map fun p => .ref p.1)) → PsAt st lo ps → ps.length ≤ 1000 → k (.lst (fcs (ps.map (·.2)))) st → cs 63 [.ref a] st k x
theorem tuples_at {FT : Nat → Option FD} (hF : FT 63 = some ⟨1, 2, T__law_tuples⟩) : At FT 1 SpTuples := at_of (C := fun _ => True) hF (fun _ _ => trivial) fun cs cs' _ go => by
  intro a lo ps st k x ha hp hl hk
  refine go _ _ _ _ rfl ?_
  obtain ⟨i1, i2⟩ := items_asL (asL_ref ha)
  simp only [T__law_tuples, sRet, eComp, iE, eVar, i1, i2, List.map_cons, List.map_nil, List.replicate_succ, List.replicate_zero, List.cons_append, List.nil_append, List.getElem?_cons_zero, List.getElem?_cons_succ, Nat.reduceSub, true_and, wipe, List.set_cons_succ, List.set_cons_zero]
  refine comp_of (fun p : Nat × List (List Nat) => PV.ref p.1) (fun p => some (face p.2)) (stays_self _ _) ps (fun p hp' k' hk' => ?_) (by show _ ≤ 16777216; omega) ?_
  · have := (hp p hp').1
    simp only [turn, gName, tYes, if_true, eB1, fTuple, eVar, List.set_cons_succ, List.set_cons_zero, List.getElem?_cons_zero, List.getElem?_cons_succ, seqOf, asL, this]
    exact hk'
  · rw [show (fun p : Nat × List (List Nat) => some (face p.2)) = some ∘ (fun p => face p.2) from rfl, List.filterMap_eq_map]
    show k (.lst _) st
    have e : fcs (ps.map (·.2)) = ps.map fun p => face p.2 := by rw [fcs, List.map_map]; rfl
    rw [← e]
    exact hk
end VP
end
section
namespace VP
open VM MT
theorem perm_enc {α : Type} (f : α → PV) {ys : List PV} {l : List α} (h : ys.Perm (l.map f)) : ∃ l' : List α, ys = l'.map f ∧ l'.Perm l := by
  have key : ∀ (ys : List PV) (m : List PV), ys.Perm m → ∀ l : List α, m = l.map f → ∃ l' : List α, ys = l'.map f ∧ l'.Perm l := by
    intro ys m hp
    induction hp with
    | nil =>
      intro l e
      exact ⟨[], rfl, by rw [List.map_eq_nil_iff.mp e.symm]⟩
    | cons x hp ih =>
      intro l e
      cases l with
      | nil => cases e
      | cons a l =>
        rw [List.map_cons] at e
        obtain ⟨e1, e2⟩ := List.cons.inj e
        obtain ⟨l', h1, h2⟩ := ih l e2
        exact ⟨a :: l', by rw [h1, e1, List.map_cons], List.Perm.cons a h2⟩
    | swap x y m =>
      intro l e
      match l, e with
      | a :: b :: l, e =>
        simp only [List.map_cons, List.cons.injEq] at e
        obtain ⟨e1, e2, e3⟩ := e
        exact ⟨b :: a :: l, by rw [e1, e2, e3, List.map_cons, List.map_cons], List.Perm.swap a b l⟩
    | trans h1 h2 ih1 ih2 =>
      intro l e
      obtain ⟨l2, e2, p2⟩ := ih2 l e
      obtain ⟨l1, e1, p1⟩ := ih1 l2 e2
      exact ⟨l1, e1, p1.trans p2⟩
  exact key ys _ h l rfl
theorem map_split {α : Type} {f : Nat → α} {n : Nat} {pre rem : List α} {v : α} (h : pre ++ v :: rem = (List.range n).map f) : v = f pre.length ∧ pre.length < n := by
  have hl := congrArg List.length h
  rw [List.length_append, List.length_cons, List.length_map, List.length_range] at hl
  have hi : pre.length < n := by omega
  have e := congrArg (fun l => l[pre.length]?) h
  simp only [List.getElem?_append_right (Nat.le_refl _), Nat.sub_self, List.getElem?_cons_zero] at e
  rw [List.getElem?_map, List.getElem?_range hi] at e
  exact ⟨Option.some.inj e, hi⟩
/-- ties among the first so many of an order -/
structure Grw (os : List Nat) (i : Nat) (T : List Tie) : Prop where
  num : T.length + 1 = i
  rng : ∀ t ∈ T, t.1 ∈ os ∧ t.2 ∈ os ∧ t.1 ≠ t.2
  con : ∀ S : Nat → Prop, (∀ t ∈ T, S t.1 ↔ S t.2) → ∀ j, j < i → (S (os.getD j 0) ↔ S (os.getD 0 0))
theorem Grw.one (os : List Nat) : Grw os 1 [] := ⟨rfl, fun t ht => (by cases ht), fun S _ j hj => by
  have : j = 0 := by omega
  subst this
  exact Iff.rfl⟩
theorem Grw.step {os : List Nat} {i a : Nat} {T : List Tie} (h : Grw os i T) (nd : os.Nodup) (hi : i < os.length) (ha : a < i) {t : Tie} (ht : t = (os.getD i 0, os.getD a 0) ∨ t = (os.getD a 0, os.getD i 0)) : Grw os (i + 1) (T ++ [t]) := by
  have gm : ∀ j, j < os.length → os.getD j 0 ∈ os := fun j hj => by
    rw [List.getD_eq_getElem?_getD, List.getElem?_eq_getElem hj]
    exact List.getElem_mem hj
  have hne : os.getD i 0 ≠ os.getD a 0 := fun z => by
    rw [List.getD_eq_getElem?_getD, List.getD_eq_getElem?_getD, List.getElem?_eq_getElem hi, List.getElem?_eq_getElem (show a < os.length by omega)] at z
    have := (List.getElem_inj nd).mp z
    omega
  refine ⟨by rw [List.length_append, List.length_singleton, h.num], fun u hu => ?_, fun S hS j hj => ?_⟩
  · rcases List.mem_append.mp hu with m | m
    · exact h.rng u m
    · rw [List.mem_singleton.mp m]
      rcases ht with rfl | rfl
      · exact ⟨gm _ hi, gm _ (by omega), hne⟩
      · exact ⟨gm _ (by omega), gm _ hi, Ne.symm hne⟩
  · have hS' : ∀ u ∈ T, S u.1 ↔ S u.2 := fun u hu => hS u (List.mem_append_left _ hu)
    have h0 := h.con S hS'
    by_cases e : j < i
    · exact h0 j e
    · have e : j = i := by omega
      subst e
      have ht' : S (os.getD j 0) ↔ S (os.getD a 0) := by
        have := hS t (by simp)
        rcases ht with rfl | rfl
        · exact this
        · exact this.symm
      exact ht'.trans (h0 a ha)
theorem Grw.tree {os : List Nat} {n : Nat} {T T' : List Tie} (h : Grw os n T) (hp : os.Perm (List.range n)) (ht : T'.Perm T) : Tree n T' := by
  have hn := h.num
  have hl : os.length = n := by rw [hp.length_eq, List.length_range]
  have mr : ∀ v, v ∈ os ↔ v < n := fun v => by rw [hp.mem_iff, List.mem_range]
  refine ⟨by omega, by rw [ht.length_eq]; exact hn, fun t m => ?_, fun S hS a b ha hb hs => ?_⟩
  · obtain ⟨h1, h2, h3⟩ := h.rng t (ht.mem_iff.mp m)
    exact ⟨(mr _).mp h1, (mr _).mp h2, h3⟩
  · have h0 := h.con S (fun t m => hS t (ht.mem_iff.mpr m))
    have at' : ∀ v, v < n → ∃ j, j < n ∧ os.getD j 0 = v := fun v hv => by
      obtain ⟨j, hj, e⟩ := List.mem_iff_getElem.mp ((mr v).mpr hv)
      refine ⟨j, by omega, ?_⟩
      rw [List.getD_eq_getElem?_getD, List.getElem?_eq_getElem hj]
      exact e
    obtain ⟨i, hi, rfl⟩ := at' a ha
    obtain ⟨j, hj, rfl⟩ := at' b hb
    exact (h0 j hj).mpr ((h0 i hi).mp hs)
def SpTies (cs : CS) : Prop := ∀ (n r : Nat) (st : Store), 1 ≤ n → n ≤ 12 → Dr cs 64 [.int (n : Nat)] r 100 st fun v st' => ∃ (j : Nat) (T : List Tie), v = .ref j ∧ st.length ≤ j ∧ st'[j]? = some (.lst (ties T)) ∧ Tree n T
theorem ties_at {FT : Nat → Option FD} {d : Nat} (hF : FT 64 = some ⟨2, 7, T__law_drawn_ties⟩) (h1 : At FT d SpTake) (h2 : At FT d SpMixed) : At FT (d + 1) SpTies := at_of (C := fun cs => SpTake cs ∧ SpMixed cs) hF (fun n hn => ⟨h1 n hn, h2 n hn⟩) fun cs cs' C go => by
  obtain ⟨tk, mx⟩ := C
  intro n r st hn hn' b k x hb hk
  refine go _ _ _ _ rfl ?_
  have rl := hb.lt
  rw [T__law_drawn_ties, sCons]
  simp only [sSet, eCall, eRangeL, aCons, aNil, eVar, gName, List.map_cons, List.map_nil, List.replicate_succ, List.replicate_zero, List.cons_append, List.nil_append, List.getElem?_cons_zero, List.getElem?_cons_succ, List.set_cons_succ, List.set_cons_zero, Nat.reduceSub]
  refine ⟨by unfold i62; omega, by rw [Int.toNat_natCast]; show _ ≤ 16777216; omega, ?_⟩
  rw [Int.toNat_natCast]
  refine mx r (.lst (nats (List.range n))) _ st rfl (fun z => by cases z) (by rw [List.length_map, List.length_range]; omega) (b + 80) _ _ (hb.le (by rw [List.length_map, List.length_range]; omega)) fun v st1 hv hb1 k1 => ?_
  obtain ⟨ys, rfl, hy, py⟩ := hv
  obtain ⟨os, rfl, po⟩ := perm_enc (fun i : Nat => PV.int (i : Int)) py
  have ol : os.length = n := by rw [po.length_eq, List.length_range]
  have ond : os.Nodup := po.nodup_iff.mpr List.nodup_range
  have yl := (List.getElem?_eq_some_iff.mp hy).1
  have gj : ∀ i, i < n → (nats os)[i]? = some (.int ((os.getD i 0 : Nat) : Int)) := fun i hi => by
    rw [List.getElem?_map, List.getElem?_eq_getElem (by omega), List.getD_eq_getElem?_getD, List.getElem?_eq_getElem (by omega)]
    rfl
  rw [sCons]
  simp only [sSet, eLstM, aNil, gName, List.set_cons_succ, List.set_cons_zero]
  refine ⟨by show 0 ≤ 16777216; decide, ?_⟩
  rw [sCons]
  have kl1 := k1.1
  have hy2 : (st1 ++ [SO.lst []])[st.length]? = some (.lst (nats os)) := by rw [List.getElem?_append_left yl]; exact hy
  have h3 : (st1 ++ [SO.lst []])[st1.length]? = some (.lst (ties [])) := by simp
  have hb2 := hb1.app (o := SO.lst [])
  have k2 : Keep r st (st1 ++ [SO.lst []]) := ⟨by rw [List.length_append]; omega, fun i a c => by rw [List.getElem?_append_left (by omega)]; exact k1.2 i a c⟩
  generalize st1 ++ [SO.lst []] = st2 at *
  generalize hj3 : st1.length = j3 at *
  simp only [sFor, iRange2, eC, eVar, List.getElem?_cons_zero, List.getElem?_cons_succ]
  refine ⟨by unfold i62; omega, by unfold i62; omega, ?_⟩
  have en : ((n : Int) - 1).toNat = n - 1 := by omega
  rw [en]
  refine for_inv (fun rem ρ st' => ∃ pre T a4 a5 a6, pre ++ rem = (List.range (n - 1)).map (fun (i : Nat) => PV.int (1 + (i : Int))) ∧ Grw os (pre.length + 1) T ∧ st'[st.length]? = some (.lst (nats os)) ∧ st'[j3]? = some (.lst (ties T)) ∧ Bag st' r (b + 20 + 2 * rem.length) ∧ Keep r st st' ∧
    ρ = [some (.ref r), some (.int (n : Nat)), some (.ref st.length), some (.ref j3), a4, a5, a6]) ?_ ?_ _ _ _ ⟨[], [], none, none, none, rfl, Grw.one os, hy2, h3, hb2.le (by rw [List.length_map, List.length_range]; omega), k2, rfl⟩
  · rintro v rem ρ st3 ⟨pre, T, a4, a5, a6, er, gr, g2, g3, hb3, k3, rfl⟩
    refine ⟨trivial, fun D' d1 d2 d3 d4 d5 => ?_⟩
    obtain ⟨rfl, hi⟩ := map_split er
    have er' : (pre ++ [PV.int (1 + (pre.length : Int))]) ++ rem = (List.range (n - 1)).map (fun (i : Nat) => PV.int (1 + (i : Int))) := by rw [List.append_assoc]; exact er
    rw [List.length_cons] at hb3
    have ei : (1 : Int) + (pre.length : Int) = ((pre.length + 1 : Nat) : Int) := by omega
    rw [ei] at *
    have kl3 := k3.1
    have g3l := (List.getElem?_eq_some_iff.mp g3).1
    simp only [gName, List.set_cons_succ, List.set_cons_zero]
    rw [sCons]
    simp only [sPar, aCons, aNil, eIx, eCall, eVar, List.getElem?_cons_zero, List.getElem?_cons_succ]
    refine get_sq (u := .ref st.length) (by rw [sq_ref, g2]) (gj _ (by omega)) ?_
    refine drawT (m := pre.length + 1) (b := b + 20 + 2 * rem.length + 1) tk (by omega) (hb3.le (by omega)) fun a st4 ha hb4 k4 => ?_
    have g24 : st4[st.length]? = some (.lst (nats os)) := (k4.2 _ (by omega) (by omega)).trans g2
    have g34 : st4[j3]? = some (.lst (ties T)) := (k4.2 _ (by omega) (by omega)).trans g3
    refine get_sq (u := .ref st.length) (by rw [sq_ref, g24]) (gj a (by omega)) ?_
    simp only [gEach, gName, List.map_cons, List.map_nil, List.set_cons_succ, List.set_cons_zero, sExpr, eAppend, eIf, tCmp, opCm, eCall, eTup, aCons, aNil, eVar, eC, asL, g34, Option.isSome_some, true_and, List.getElem?_cons_zero, List.getElem?_cons_succ]
    refine drawT (m := 2) (b := b + 20 + 2 * rem.length) tk (by decide) (hb4.le (by omega)) fun c st5 hc hb5 k5 => ?_
    have k45 := k4.trans k5
    have g25 : st5[st.length]? = some (.lst (nats os)) := (k45.2 _ (by omega) (by omega)).trans g2
    have g35 : st5[j3]? = some (.lst (ties T)) := (k45.2 _ (by omega) (by omega)).trans g3
    refine ⟨by simp [isD, frz], by simp [isD, frz], ?_⟩
    simp only [frz, eqv]
    have tl : T.length = pre.length := by have := gr.num; omega
    have fin : ∀ t : Tie, (t = (os.getD (pre.length + 1) 0, os.getD a 0) ∨ t = (os.getD a 0, os.getD (pre.length + 1) 0)) → (ties T).length < SZ ∧ D'.nx [some (.ref r), some (.int (n : Nat)), some (.ref st.length), some (.ref j3), some (.int ((pre.length + 1 : Nat) : Int)), some (.int ((os.getD (pre.length + 1) 0 : Nat) : Int)), some (.int ((os.getD a 0 : Nat) : Int))] (st5.set j3 (.lst (ties T ++ [tie t]))) := fun t ht => by
      have kl5 := k45.1
      refine ⟨by rw [List.length_map]; show _ < 16777216; omega, d4 _ _ ⟨_, T ++ [t], _, _, _, er', ?_, ?_, ?_, hb5.put (by omega), ⟨by rw [List.length_set]; omega, fun i a' c' => ?_⟩, rfl⟩⟩
      · rw [List.length_append, List.length_singleton]
        exact gr.step ond (by omega) ha ht
      · rw [List.getElem?_set_ne (by omega)]; exact g25
      · rw [List.getElem?_set_self (List.getElem?_eq_some_iff.mp g35).1]; simp
      · rw [List.getElem?_set_ne (by omega), k45.2 i a' (by omega)]
        exact k3.2 i a' c'
    by_cases hz : ((c : Int) == 0) = true
    · rw [if_pos hz]
      refine ⟨by show 2 ≤ 16777216; decide, ?_⟩
      simp only [g35]
      exact fin (_, _) (.inl rfl)
    · rw [if_neg hz]
      refine ⟨by show 2 ≤ 16777216; decide, ?_⟩
      simp only [g35]
      exact fin (_, _) (.inr rfl)
  · rintro ρ st3 ⟨pre, T, a4, a5, a6, er, gr, g2, g3, hb3, k3, rfl⟩
    refine ⟨trivial, ?_⟩
    rw [List.append_nil] at er
    have hl : pre.length = n - 1 := by rw [er, List.length_map, List.length_range]
    have e1 : pre.length + 1 = n := by omega
    rw [e1] at gr
    have tl := gr.num
    have kl3 := k3.1
    have g3l := (List.getElem?_eq_some_iff.mp g3).1
    simp only [sRet, eCall, aCons, aNil, eVar, List.getElem?_cons_zero, List.getElem?_cons_succ]
    refine mx r (.ref j3) (ties T) st3 (asL_ref g3) (fun z => by cases z; omega) (by rw [List.length_map]; omega) b _ _ (hb3.le (by rw [List.length_map]; omega)) fun v st4 hv hb4 k4 => ?_
    obtain ⟨ys, rfl, hy, py⟩ := hv
    obtain ⟨T', rfl, pT⟩ := perm_enc tie py
    exact hk _ _ ⟨st3.length, T', rfl, kl3, hy, gr.tree po pT⟩ hb4 (k3.trans k4)
end VP
end
section
namespace VP
open VM MT
/-- the places on the ways to the first one -/
def wy (n : Nat) (T : List Tie) : List Nat → List Nat
  | [] => []
  | p :: r => r.flatMap (way (bfr T n p))
def cnd (fs : Fm) (T : List Tie) (i : Nat) (s : List Nat) : Bool := decide (i ∈ wy fs.length T (hold fs s)) && !decide (s ∈ fs.getD i [])
def late (fs : Fm) (T : List Tie) (i : Nat) : List (List Nat) := (nam fs).filter (cnd fs T i)
def carr (fs : Fm) (T : List Tie) : Fm := (List.range fs.length).map fun i => fs.getD i [] ++ late fs T i
def SpCarr (cs : CS) : Prop := ∀ (fl tl : PV) (fs : Fm) (T : List Tie) (st : Store) (k x : KV), (fl = .lst (fcs fs) ∨ fl = .tup (fcs fs)) → (tl = .lst (ties T) ∨ tl = .tup (ties T)) → Fam fs → FewF fs → Tree fs.length T → (∀ st', Grow st st' → k (.lst (fcs (carr fs T))) st') → cs 73 [fl, tl] st k x
/-- a list whose items stand by place -/
theorem set_by {α : Type} (g : Nat → α) (n i : Nat) (y : α) : ((List.range n).map g).set i y = (List.range n).map fun j => if j = i then y else g j := by
  apply List.ext_getElem?
  intro j
  rw [List.getElem?_set]
  by_cases hj : j < n
  · by_cases e : i = j
    · subst e
      simp [hj]
    · have : ¬ j = i := fun z => e z.symm
      simp [hj, e, this]
  · simp [hj]
    omega
theorem get_by {α : Type} (g : Nat → α) {n i : Nat} (h : i < n) : ((List.range n).map g)[i]? = some (g i) := by simp [h]
theorem found_loop {cs : CS} (pt : SpPath cs) {fl tl : PV} {fs : Fm} {T : List Tie} {p : Nat} {m : PV} {s : PV} {pl : PV} {xs : List PV} {a4 a7 a9 a10 : Option PV} (hp : p < fs.length) (hn : fs.length ≤ 12) (ht : Tree fs.length T) {k : List PV → Store → Prop} (hxs : xs[0]? = some (.int (p : Nat))) (hpl : pl = .lst xs)
    {st0 : Store} (hf : sq st0 fl = some (fcs fs)) (hs : sq st0 tl = some (ties T)) : ∀ (r : List Nat) (acc : List Nat) (st : Store), Grow st0 st → (∀ q ∈ r, q < fs.length) → acc.length + 12 * r.length ≤ 1000 → (∀ st', Grow st st' → k (nats (acc ++ r.flatMap (way (bfr T fs.length p)))) st') →
    compGo2 (gName 8) tYes (iE (eCall cs 72 (aCons (eVar 1) (aCons (eB1 fLen (eVar 0)) (aCons (eIx (eVar 6) (eC (.int 0))) (aCons (eVar 8) aNil)))))) (gName 2) tYes (eVar 2) [8, 2] [2] (fun _ => True) (nats r) (nats acc) [some fl, some tl, none, some m, a4, some s, some pl, a7, none, a9, a10] st k := by
  intro r
  induction r with
  | nil =>
    intro acc st g _ _ hk
    refine ⟨trivial, ?_⟩
    have := hk st Grow.refl
    simpa using this
  | cons q r ih =>
    intro acc st g hq hl hk
    rw [show nats (q :: r) = .int (q : Nat) :: nats r from rfl]
    unfold compGo2
    refine ⟨trivial, ?_⟩
    have hf1 := sq_grow hf g
    have hs1 := sq_grow hs g
    obtain ⟨s1, s2, s3, s4⟩ := sq_facts hf1
    simp only [gName, tYes, wipe, List.set_cons_succ, List.set_cons_zero, if_true, eVar, List.getElem?_cons_zero, List.getElem?_cons_succ, iE, eCall, aCons, aNil, eB1, fLen, eIx, eC, s3, hpl, List.length_map]
    refine get_lst (i := 0) hxs ?_
    refine pt fs.length tl T p q st _ _ hs1 ht hp (hq q (List.mem_cons_self ..)) (by omega) fun st1 g1 => ?_
    simp only [items, isSeq, true_and]
    have I := PI.bfr T fs.length p
    have hw : (way (bfr T fs.length p) q).length ≤ 12 := by
      have := (way_keys I ((ht.keys hp).mpr (hq q (List.mem_cons_self ..)))).2.2
      rw [ht.size hp] at this
      omega
    rw [List.length_cons] at hl
    refine comp_pure (fun v => some v) trivial (nats (way (bfr T fs.length p) q)) (nats acc) (fun v hv k' hk' => ?_) ?_ ?_
    · simp only [turn, gName, tYes, wipe, List.set_cons_succ, List.set_cons_zero, if_true, eVar, List.getElem?_cons_zero, List.getElem?_cons_succ]
      exact hk'
    · show _ ≤ 16777216
      rw [List.length_map, List.length_map]
      omega
    · rw [List.filterMap_some, show nats acc ++ nats (way (bfr T fs.length p) q) = nats (acc ++ way (bfr T fs.length p) q) by simp]
      rw [← hpl]
      refine ih _ _ (g.trans g1) (fun z hz => hq z (List.mem_cons_of_mem _ hz)) (by rw [List.length_append]; omega) fun st2 g2 => ?_
      have := hk st2 (g1.trans g2)
      rw [List.flatMap_cons] at this
      rw [List.append_assoc]
      exact this
/-- more, as it stands behind some names -/
abbrev mre (fs : Fm) (T : List Tie) (pre : List (List Nat)) : List PV := (List.range fs.length).map fun i => PV.lst (strz (pre.filter (cnd fs T i)))
theorem hold_ne {fs : Fm} {s : List Nat} (h : s ∈ nam fs) : ∃ p r, hold fs s = p :: r := by
  obtain ⟨f, hf, hs⟩ := nam_mem.mp h
  obtain ⟨i, hi, e⟩ := List.getElem_of_mem hf
  have : i ∈ hold fs s := hold_mem.mpr ⟨hi, by simp [List.getD, hi, e, hs]⟩
  cases q : hold fs s with
  | nil => rw [q] at this; cases this
  | cons p r => exact ⟨p, r, rfl⟩
theorem zipW_range {α β γ : Type} (f : α → β → γ) (g : Nat → β) (d : α) : ∀ (l : List α) (off : Nat), List.zipWith f l ((List.range' off l.length).map g) = (List.range' off l.length).map fun i => f (l.getD (i - off) d) (g i)
  | [], off => rfl
  | a :: l, off => by
    rw [List.length_cons, List.range'_succ, List.map_cons, List.map_cons, List.zipWith_cons_cons, zipW_range f g d l (off + 1)]
    congr 1
    · simp [List.getD]
    · refine List.map_congr_left fun i hi => ?_
      have := (List.mem_range'_1.mp hi).1
      have e : i - off = (i - (off + 1)) + 1 := by omega
      rw [e]
      simp [List.getD]
theorem carried_at {FT : Nat → Option FD} {d : Nat} (hF : FT 73 = some ⟨2, 11, T_carried⟩) (h1 : At FT d SpChk) (h2 : At FT d SpTieB) (h3 : At FT d (SpOne 69)) (h4 : At FT d (SpNam 70)) (h5 : At FT d (SpHold 71)) (h6 : At FT d SpPath) : At FT (d + 1) SpCarr :=
  at_of (C := fun cs => SpChk cs ∧ SpTieB cs ∧ SpOne 69 cs ∧ SpNam 70 cs ∧ SpHold 71 cs ∧ SpPath cs) hF (fun n hn => ⟨h1 n hn, h2 n hn, h3 n hn, h4 n hn, h5 n hn, h6 n hn⟩) fun cs cs' C go => by
  obtain ⟨ck, tb, on, nm, ho, pt⟩ := C
  intro fl tl fs T st k x hfl htl fm fw ht hk
  have hf : sq st fl = some (fcs fs) := by rcases hfl with rfl | rfl <;> rfl
  have hs : sq st tl = some (ties T) := by rcases htl with rfl | rfl <;> rfl
  have hkd : ([Ty.list, Ty.tuple].any (kdIs (kdOf st tl))) = true ∧ kdOf st tl ≠ .other := by rcases htl with rfl | rfl <;> exact ⟨rfl, fun z => by cases z⟩
  obtain ⟨s1, s2, s3, s4⟩ := sq_facts hf
  obtain ⟨t1, t2, t3, t4⟩ := sq_facts hs
  have p2 := fm.len
  refine go _ _ _ _ rfl ?_
  rw [T_carried, sCons]
  simp only [sExpr, eCall, aCons, aNil, eVar, List.map_cons, List.map_nil, List.replicate_succ, List.replicate_zero, List.cons_append, List.nil_append, List.getElem?_cons_zero, Nat.reduceSub]
  refine ck fl fs st _ _ hfl fm ?_
  rw [sCons]
  simp only [sIf, tNot, tOf, eB1, fIsi, eVar, List.getElem?_cons_zero, List.getElem?_cons_succ]
  refine ⟨hkd.2, ?_⟩
  simp only [hkd.1, truth, Bool.not_true, Bool.false_eq_true, if_false, sNil]
  rw [sCons]
  simp only [sFor, iRange1, eB1, fLen, eVar, List.getElem?_cons_zero, List.getElem?_cons_succ, t3]
  have hnum := ht.num
  refine ⟨by unfold i62; simp; omega, ?_⟩
  rw [Int.toNat_natCast, List.length_map]
  refine for_inv (fun rem ρ st' => st = st' ∧ ∃ pre a2, pre ++ rem = (List.range T.length).map (fun (i : Nat) => PV.int (i : Int)) ∧ ρ = [some fl, some tl, a2, none, none, none, none, none, none, none, none]) ?_ ?_ _ _ _ ⟨rfl, [], none, rfl, rfl⟩
  · rintro v rem ρ st' ⟨rfl, pre, a2, e1, rfl⟩
    refine ⟨trivial, fun D' d1 d2 d3 d4 d5 => ?_⟩
    obtain ⟨rfl, hi⟩ := range_split e1
    simp only [gName, sIf, tNot, tOf, eCall, aCons, aNil, eIx, eB1, fLen, eVar, List.set_cons_succ, List.set_cons_zero, List.getElem?_cons_zero, List.getElem?_cons_succ]
    refine get_sq hs (show (ties T)[pre.length]? = some (tie T[pre.length]) by simp [hi]) ?_
    simp only [s3, List.length_map]
    obtain ⟨r1, r2, r3⟩ := ht.rng T[pre.length] (List.getElem_mem hi)
    refine tb _ fs.length st _ _ r1 r2 r3 ?_
    simp only [truth, Bool.not_true, Bool.false_eq_true, if_false, sNil]
    exact d4 _ _ ⟨rfl, pre ++ [.int (pre.length : Nat)], _, by rw [List.append_assoc]; exact e1, rfl⟩
  rintro ρ st' ⟨rfl, pre, a2, e1, rfl⟩
  refine ⟨trivial, ?_⟩
  dsimp only
  rw [sCons]
  simp only [sIf, tNot, tOf, eCall, aCons, aNil, eB1, fLen, eVar, List.getElem?_cons_zero, List.getElem?_cons_succ, s3, List.length_map]
  refine on fs.length tl T st _ _ hs ht (by omega) ?_
  simp only [truth, Bool.not_true, Bool.false_eq_true, if_false, sNil]
  rw [sCons]
  simp only [sSet, eCompM, iE, eVar, gName, List.getElem?_cons_zero, s1]
  refine ⟨s2, ?_⟩
  refine comp_of face (fun _ => some (.lst [])) (stays_self _ _) fs (fun f hff k' hk' => ?_) (by show _ ≤ 16777216; omega) ?_
  · simp only [turn, gName, tYes, if_true, eLst, aNil]
    exact ⟨by show 0 ≤ 16777216; decide, hk'⟩
  have em : fs.filterMap (fun _ => some (PV.lst [])) = mre fs T [] := by
    rw [show (fun _ : List (List Nat) => some (PV.lst [])) = some ∘ (fun _ => PV.lst []) from rfl, List.filterMap_eq_map, List.map_const']
    simp only [mre, List.filter_nil, List.map_nil]
    rw [List.map_const', List.length_range]
  rw [em]
  have g0 : Grow st (st ++ [.lst (mre fs T [])]) := Grow.app
  simp only [List.set_cons_succ, List.set_cons_zero]
  rw [sCons]
  generalize hj : st.length = j
  simp only [sFor, iE, eCall, aCons, aNil, eVar, List.getElem?_cons_zero]
  refine nm fl fs _ _ _ (sq_grow hf g0) fw ?_
  simp only [items, isSeq, true_and]
  refine for_inv (fun rem ρ st' => Grow st st' ∧ ∃ pre suf a2 a5 a6 a7 a8, pre ++ suf = nam fs ∧ rem = strz suf ∧ st'[j]? = some (.lst (mre fs T pre)) ∧ ρ = [some fl, some tl, a2, some (.ref j), none, a5, a6, a7, a8, none, none]) ?_ ?_ _ _ _ ⟨g0, [], nam fs, a2, none, none, none, none, rfl, rfl, by simp [← hj], rfl⟩
  · rintro v rem ρ st1 ⟨g1, pre, suf, a2, a5, a6, a7, a8, e1, e2, hd, rfl⟩
    refine ⟨trivial, fun D' d1 d2 d3 d4 d5 => ?_⟩
    cases suf with
    | nil => cases e2
    | cons s suf =>
      cases e2
      have hf1 := sq_grow hf g1
      have hs1 := sq_grow hs g1
      have hsn : s ∈ nam fs := by rw [← e1]; simp
      obtain ⟨p, r, ehold⟩ := hold_ne hsn
      have hlt : ∀ q ∈ p :: r, q < fs.length := fun q hq => (hold_mem.mp (ehold ▸ hq)).1
      have hrl : r.length ≤ 12 := by
        have := hold_len fs s
        rw [ehold, List.length_cons] at this
        omega
      simp only [gName, sCons, sSet, eCall, aCons, aNil, eVar, List.set_cons_succ, List.set_cons_zero, List.getElem?_cons_zero, List.getElem?_cons_succ]
      refine ho fl fs s st1 _ _ hf1 (by omega) ?_
      rw [ehold]
      simp only [eComp2, iE, eSl, eC, eVar, getSl, asL, List.set_cons_succ, List.set_cons_zero, List.getElem?_cons_zero, List.getElem?_cons_succ]
      rw [show slc (nats (p :: r)) (some 1) none = nats r from slc_drop (nats (p :: r)) 1]
      simp only [items, isSeq, true_and, stays, wipe, List.set_cons_succ, List.set_cons_zero]
      refine found_loop pt (fs := fs) (T := T) (p := p) (hlt p (List.mem_cons_self ..)) p2 ht (xs := nats (p :: r)) rfl rfl hf hs r [] st1 g1 (fun q hq => hlt q (List.mem_cons_of_mem _ hq)) (by rw [List.length_nil]; omega) fun st2 g2 => ?_
      have gg := g1.trans g2
      have hjl : j < st1.length := (List.getElem?_eq_some_iff.mp hd).1
      have hd2 : st2[j]? = some (.lst (mre fs T pre)) := by rw [g2.2 j hjl]; exact hd
      have hf2 := sq_grow hf gg
      have s32 := (sq_facts hf2).2.2.1
      have ewy : wy fs.length T (hold fs s) = [] ++ r.flatMap (way (bfr T fs.length p)) := by rw [ehold]; rfl
      rw [← ewy]
      simp only [sFor, iRange1, eB1, fLen, eVar, List.set_cons_succ, List.set_cons_zero, List.getElem?_cons_zero, s32, List.length_map]
      refine ⟨by unfold i62; omega, ?_⟩
      rw [Int.toNat_natCast]
      refine for_inv (fun rem2 ρ st' => Grow st st' ∧ ∃ done b2, done ++ rem2 = (List.range fs.length).map (fun (i : Nat) => PV.int (i : Int)) ∧ st'[j]? = some (.lst ((List.range fs.length).map fun i => PV.lst (strz ((if i < done.length then pre ++ [s] else pre).filter (cnd fs T i))))) ∧ ρ = [some fl, some tl, b2, some (.ref j), none, some (.str s), some (.lst (nats (p :: r))), some (.lst (nats (wy fs.length T (hold fs s)))), a8, none, none]) ?_ ?_ _ _ _ ⟨gg, [], a2, rfl, by simpa using hd2, rfl⟩
      · rintro v rem2 ρ st3 ⟨g3, done, b2, e3, hd3, rfl⟩
        refine ⟨trivial, fun D2 d1 d2 d3 d4 d5 => ?_⟩
        obtain ⟨rfl, hi⟩ := range_split e3
        have hf3 := sq_grow hf g3
        have fin : ∀ st4, Grow st st4 → st4[j]? = some (.lst ((List.range fs.length).map fun i => PV.lst (strz ((if i < done.length + 1 then pre ++ [s] else pre).filter (cnd fs T i))))) → D2.nx [some fl, some tl, some (.int (done.length : Nat)), some (.ref j), none, some (.str s), some (.lst (nats (p :: r))), some (.lst (nats (wy fs.length T (hold fs s)))), a8, none, none] st4 := fun st4 g4 h4 =>
          d4 _ _ ⟨g4, done ++ [.int (done.length : Nat)], _, by rw [List.append_assoc]; exact e3, by rw [List.length_append, List.length_singleton]; exact h4, rfl⟩
        have same : (∀ i, i = done.length → (pre ++ [s]).filter (cnd fs T i) = pre.filter (cnd fs T i)) → ∀ i < fs.length, (if i < done.length + 1 then pre ++ [s] else pre).filter (cnd fs T i) = (if i < done.length then pre ++ [s] else pre).filter (cnd fs T i) := by
          intro h i _
          by_cases h1 : i < done.length
          · rw [if_pos (by omega), if_pos h1]
          · by_cases h2 : i = done.length
            · rw [if_pos (by omega), if_neg h1]
              exact h i h2
            · rw [if_neg (by omega), if_neg h1]
        simp only [gName, sIf, tAnd, tCmp, eIx, eVar, opCm, in_nats, if_dec, sNil, List.set_cons_succ, List.set_cons_zero, List.getElem?_cons_zero, List.getElem?_cons_succ]
        by_cases hin : done.length ∈ wy fs.length T (hold fs s)
        · rw [if_pos hin]
          refine get_sq hf3 (fcs_get hi) ?_
          simp only [in_face, if_ndec]
          by_cases hno : s ∈ fs.getD done.length []
          · rw [if_pos hno]
            refine fin st3 g3 ?_
            rw [hd3]
            congr 2
            refine List.map_congr_left fun i hi2 => ?_
            rw [same (fun i e => ?_) i (List.mem_range.mp hi2)]
            subst e
            have c0 : cnd fs T done.length s = false := by
              unfold cnd
              rw [decide_eq_true hno, Bool.not_true, Bool.and_false]
            rw [List.filter_append]
            simp [c0]
          · rw [if_neg hno]
            simp only [sSetIx, eBin, eIx, eLst, aCons, aNil, eVar, List.getElem?_cons_zero, List.getElem?_cons_succ]
            have hg : ((List.range fs.length).map fun i => PV.lst (strz ((if i < done.length then pre ++ [s] else pre).filter (cnd fs T i))))[done.length]? = some (.lst (strz (pre.filter (cnd fs T done.length)))) := by
              rw [get_by _ hi, if_neg (Nat.lt_irrefl _)]
            refine get_sq (u := .ref j) (xs := (List.range fs.length).map fun i => PV.lst (strz ((if i < done.length then pre ++ [s] else pre).filter (cnd fs T i)))) (by rw [sq_ref, hd3]) hg ?_
            refine ⟨by show 1 ≤ 16777216; decide, ?_⟩
            simp only [opBin, opAdd, asL, setIx, hd3]
            refine ⟨?_, ?_⟩
            · show _ ≤ 16777216
              rw [List.length_map, List.length_singleton]
              have a := List.length_filter_le (cnd fs T done.length) pre
              have b : (pre ++ s :: suf).length < 64 := by rw [e1]; exact fw.nam
              rw [List.length_append] at b
              omega
            · have hix : ix ((List.range fs.length).map fun i => PV.lst (strz ((if i < done.length then pre ++ [s] else pre).filter (cnd fs T i)))).length (done.length : Int) = some done.length := ix_nat (by simpa using hi)
              simp only [hix]
              have hj3 : j < st3.length := (List.getElem?_eq_some_iff.mp hd3).1
              refine fin _ (g3.put (by omega)) ?_
              rw [set_self hd3, set_by]
              congr 2
              refine List.map_congr_left fun i hi2 => ?_
              by_cases h2 : i = done.length
              · subst h2
                rw [if_pos rfl, if_pos (by omega), List.filter_append]
                have : cnd fs T done.length s = true := by simp [cnd, hin]; simpa [List.getD] using hno
                simp [this]
              · rw [if_neg h2]
                by_cases h1 : i < done.length
                · rw [if_pos h1, if_pos (show i < done.length + 1 by omega)]
                · rw [if_neg h1, if_neg (show ¬ i < done.length + 1 by omega)]
        · rw [if_neg hin]
          refine fin st3 g3 ?_
          rw [hd3]
          congr 2
          refine List.map_congr_left fun i hi2 => ?_
          rw [same (fun i e => ?_) i (List.mem_range.mp hi2)]
          subst e
          have c0 : cnd fs T done.length s = false := by
            unfold cnd
            rw [decide_eq_false hin, Bool.false_and]
          rw [List.filter_append]
          simp [c0]
      · rintro ρ st3 ⟨g3, done, b2, e3, hd3, rfl⟩
        rw [List.append_nil] at e3
        have hdl : done.length = fs.length := by rw [e3]; simp
        refine ⟨trivial, d4 _ _ ⟨g3, pre ++ [s], suf, _, _, _, _, _, by rw [List.append_assoc]; exact e1, rfl, ?_, rfl⟩⟩
        rw [hd3]
        congr 2
        refine List.map_congr_left fun i hi2 => ?_
        rw [hdl, if_pos (List.mem_range.mp hi2)]
  · rintro ρ st1 ⟨g1, pre, suf, a2, a5, a6, a7, a8, e1, e2, hd, rfl⟩
    cases suf with
    | cons s suf => cases e2
    | nil =>
      rw [List.append_nil] at e1
      subst e1
      refine ⟨trivial, ?_⟩
      have hf1 := sq_grow hf g1
      have hm1 : sq st1 (.ref j) = some (mre fs T (nam fs)) := by rw [sq_ref, hd]
      simp only [sRet, eComp, iZip, eVar, List.getElem?_cons_zero, List.getElem?_cons_succ, hf1, hm1]
      have ez : List.zipWith (fun x y => PV.tup [x, y]) (fcs fs) (mre fs T (nam fs)) = (List.range fs.length).map fun i => PV.tup [face (fs.getD i []), .lst (strz (late fs T i))] := by
        have h := zipW_range (fun x y => PV.tup [x, y]) (fun i => PV.lst (strz ((nam fs).filter (cnd fs T i)))) (face []) (fcs fs) 0
        rw [List.length_map, ← List.range_eq_range'] at h
        rw [h]
        refine List.map_congr_left fun i hi => ?_
        rw [Nat.sub_zero]
        have : (fcs fs).getD i (face []) = face (fs.getD i []) := by
          rw [List.getD_eq_getElem?_getD, fcs_get (List.mem_range.mp hi)]
          rfl
        rw [this]
        rfl
      rw [ez]
      refine comp_of (fun i => PV.tup [face (fs.getD i []), .lst (strz (late fs T i))]) (fun i => some (face (fs.getD i [] ++ late fs T i))) ⟨stays_self _ _, stays_self _ _⟩ (List.range fs.length) (fun i hi k' hk' => ?_) (by rw [List.length_range]; show _ ≤ 16777216; omega) ?_
      · have hi := List.mem_range.mp hi
        simp only [turn, gTup, gEach, gName, tYes, wipe, if_true, eB1, fTuple, fList, eBin, eVar, seqOf, opBin, opAdd, asL, List.length_cons, List.length_nil, true_and, List.set_cons_succ, List.set_cons_zero, List.getElem?_cons_zero, List.getElem?_cons_succ]
        rw [strs_app]
        refine ⟨?_, hk'⟩
        show _ ≤ 16777216
        have hm : fs.getD i [] ∈ fs := by
          rw [show fs.getD i [] = fs[i] by simp [List.getD, hi]]
          exact List.getElem_mem hi
        have a := fm.wide _ hm
        have b := List.length_filter_le (cnd fs T i) (nam fs)
        have c := fw.nam
        have d : (late fs T i).length = ((nam fs).filter (cnd fs T i)).length := rfl
        rw [List.length_map, List.length_map]
        omega
      · rw [show (fun i => some (face (fs.getD i [] ++ late fs T i))) = some ∘ (fun i => face (fs.getD i [] ++ late fs T i)) from rfl, List.filterMap_eq_map]
        have := hk st1 g1
        unfold carr at this
        rw [show fcs ((List.range fs.length).map fun i => fs.getD i [] ++ late fs T i) = (List.range fs.length).map (fun i => face (fs.getD i [] ++ late fs T i)) by rw [fcs, List.map_map]; rfl] at this
        exact this
end VP
end
section
namespace VP
open VM MT
section
variable {fs : Fm} {T : List Tie}
theorem carr_len : (carr fs T).length = fs.length := by simp [carr]
theorem carr_get {i : Nat} (h : i < fs.length) : (carr fs T).getD i [] = fs.getD i [] ++ late fs T i := by
  unfold carr
  rw [List.getD_eq_getElem?_getD, get_by _ h]
  rfl
theorem late_mem {i : Nat} {s : List Nat} : s ∈ late fs T i ↔ s ∈ nam fs ∧ i ∈ wy fs.length T (hold fs s) ∧ s ∉ fs.getD i [] := by
  unfold late cnd
  rw [List.mem_filter, Bool.and_eq_true, decide_eq_true_eq, Bool.not_eq_true', decide_eq_false_iff_not]
theorem mem_getD {i : Nat} {s : List Nat} (h : s ∈ fs.getD i []) : i < fs.length := by
  by_cases hi : i < fs.length
  · exact hi
  · rw [List.getD_eq_getElem?_getD, List.getElem?_eq_none (by omega)] at h
    cases h
theorem getD_mem {i : Nat} (h : i < fs.length) : fs.getD i [] ∈ fs := by
  rw [show fs.getD i [] = fs[i] by simp [List.getD, h]]
  exact List.getElem_mem h
theorem mem_iff_getD {s : List Nat} : (∃ f ∈ fs, s ∈ f) ↔ ∃ i, s ∈ fs.getD i [] := by
  constructor
  · rintro ⟨f, hf, hs⟩
    obtain ⟨i, hi, e⟩ := List.getElem_of_mem hf
    exact ⟨i, by simp [List.getD, hi, e, hs]⟩
  · rintro ⟨i, h⟩
    exact ⟨_, getD_mem (mem_getD h), h⟩
theorem nam_carr : nam (carr fs T) = nam fs := by
  refine nam_congr fun s => ?_
  rw [mem_iff_getD, mem_iff_getD]
  constructor
  · rintro ⟨i, h⟩
    have hi : i < fs.length := by
      have := mem_getD h
      rw [carr_len] at this
      exact this
    rw [carr_get hi] at h
    rcases List.mem_append.mp h with h | h
    · exact ⟨i, h⟩
    · exact mem_iff_getD.mp (nam_mem.mp (late_mem.mp h).1)
  · rintro ⟨i, h⟩
    exact ⟨i, by rw [carr_get (mem_getD h)]; exact List.mem_append_left _ h⟩
theorem hold_carr {i : Nat} {s : List Nat} : i ∈ hold (carr fs T) s ↔ i ∈ hold fs s ∨ (i < fs.length ∧ s ∈ nam fs ∧ i ∈ wy fs.length T (hold fs s)) := by
  rw [hold_mem, carr_len, hold_mem]
  constructor
  · rintro ⟨hi, h⟩
    rw [carr_get hi] at h
    rcases List.mem_append.mp h with h | h
    · exact .inl ⟨hi, h⟩
    · obtain ⟨a, b, _⟩ := late_mem.mp h
      exact .inr ⟨hi, a, b⟩
  · rintro (⟨hi, h⟩ | ⟨hi, a, b⟩)
    · exact ⟨hi, by rw [carr_get hi]; exact List.mem_append_left _ h⟩
    · refine ⟨hi, ?_⟩
      rw [carr_get hi]
      by_cases h : s ∈ fs.getD i []
      · exact List.mem_append_left _ h
      · exact List.mem_append_right _ (late_mem.mpr ⟨a, b, h⟩)
theorem wy_mem {n : Nat} {p i : Nat} {r : List Nat} : i ∈ wy n T (p :: r) ↔ ∃ q ∈ r, i ∈ way (bfr T n p) q := by
  show i ∈ r.flatMap _ ↔ _
  rw [List.mem_flatMap]
variable (ht : Tree fs.length T)
include ht
/-- the ties fit the carried faces -/
theorem carr_fits : scat (carr fs T) T = [] := by
  rw [List.eq_nil_iff_forall_not_mem]
  intro s hs
  obtain ⟨h1, h2⟩ := scat_mem.mp hs
  have hn : s ∈ nam fs := by
    rw [← nam_carr (T := T)]
    exact nam_mem.mpr h1
  obtain ⟨p, r, eh⟩ := hold_ne hn
  have lt : ∀ q ∈ p :: r, q < fs.length := fun q hq => (hold_mem.mp (eh ▸ hq)).1
  have hp := lt p (List.mem_cons_self ..)
  have I := PI.bfr T fs.length p
  have := ht.joined (P := hold (carr fs T) s) (hold_nd _ _) hp fun v hv => ?_
  · omega
  · rcases hold_carr.mp hv with hv | ⟨hvn, _, hw⟩
    · have hv0 := hv
      rw [eh] at hv
      refine ⟨lt v hv, fun x hx => ?_⟩
      rcases List.mem_cons.mp hv with rfl | hv
      · rw [way_root I] at hx
        rw [List.mem_singleton.mp hx]
        exact hold_carr.mpr (.inl hv0)
      · refine hold_carr.mpr (.inr ⟨?_, hn, ?_⟩)
        · exact (ht.keys hp).mp ((way_keys I ((ht.keys hp).mpr (lt v (List.mem_cons_of_mem _ hv)))).1 x hx)
        · rw [eh]
          exact wy_mem.mpr ⟨v, hv, hx⟩
    · refine ⟨hvn, fun x hx => ?_⟩
      rw [eh] at hw
      obtain ⟨q, hq, hvq⟩ := wy_mem.mp hw
      have hqk := (ht.keys hp).mpr (lt q (List.mem_cons_of_mem _ hq))
      have hxq := way_trans I _ (Nat.le_refl _) hqk hvq hx
      refine hold_carr.mpr (.inr ⟨(ht.keys hp).mp ((way_keys I hqk).1 x hxq), hn, ?_⟩)
      rw [eh]
      exact wy_mem.mpr ⟨q, hq, hxq⟩
/-- where the ties fit already, nothing is added -/
theorem late_none (h : scat fs T = []) (i : Nat) : late fs T i = [] := by
  rw [List.eq_nil_iff_forall_not_mem]
  intro s hs
  obtain ⟨h1, h2, h3⟩ := late_mem.mp hs
  obtain ⟨p, r, eh⟩ := hold_ne h1
  have lt : ∀ q ∈ p :: r, q < fs.length := fun q hq => (hold_mem.mp (eh ▸ hq)).1
  rw [eh] at h2
  obtain ⟨q, hq, hiq⟩ := wy_mem.mp h2
  have := ht.sep (P := hold fs s) (hold_nd _ _) (lt p (List.mem_cons_self ..)) (k := i) (q := q) (fun z => h3 (hold_mem.mp z).2) (by rw [eh]; exact List.mem_cons_self ..) (by rw [eh]; exact List.mem_cons_of_mem _ hq) hiq
  have hm : s ∈ scat fs T := scat_mem.mpr ⟨nam_mem.mp h1, this⟩
  rw [h] at hm
  cases hm
theorem carr_same (h : scat fs T = []) : carr fs T = fs := by
  apply List.ext_getElem?
  intro i
  by_cases hi : i < fs.length
  · unfold carr
    rw [get_by _ hi, late_none ht h i, List.append_nil]
    simp [List.getD, hi]
  · rw [List.getElem?_eq_none (by rw [carr_len]; omega), List.getElem?_eq_none (by omega)]
/-- each further name is needed -/
def less (gs : Fm) (k : Nat) (s : List Nat) : Fm := gs.take k ++ [(gs.getD k []).filter fun z => !decide (z = s)] ++ gs.drop (k + 1)
omit ht in
theorem less_len {gs : Fm} {k : Nat} {s : List Nat} (h : k < gs.length) : (less gs k s).length = gs.length := by
  unfold less
  rw [List.length_append, List.length_append, List.length_take, List.length_drop, List.length_singleton]
  omega
omit ht in
theorem less_get {gs : Fm} {k i : Nat} {s : List Nat} (h : k < gs.length) : (less gs k s).getD i [] = if i = k then (gs.getD k []).filter (fun z => !decide (z = s)) else gs.getD i [] := by
  unfold less
  rw [List.getD_eq_getElem?_getD]
  have ht : (gs.take k).length = k := by rw [List.length_take]; omega
  by_cases h1 : i < k
  · rw [if_neg (by omega), List.append_assoc, List.getElem?_append_left (by omega), List.getElem?_take_of_lt h1, ← List.getD_eq_getElem?_getD]
  · by_cases h2 : i = k
    · subst h2
      rw [if_pos rfl, List.append_assoc, List.getElem?_append_right (by omega), ht, Nat.sub_self]
      rfl
    · rw [if_neg h2, List.append_assoc, List.getElem?_append_right (by omega), ht, List.getElem?_append_right (by simp; omega), List.length_singleton, List.getElem?_drop, List.getD_eq_getElem?_getD]
      congr 2
      omega
theorem less_scat {k : Nat} {s : List Nat} (hk : k < fs.length) (hs : s ∈ late fs T k) : s ∈ scat (less (carr fs T) k s) T := by
  obtain ⟨h1, h2, h3⟩ := late_mem.mp hs
  obtain ⟨p, r, eh⟩ := hold_ne h1
  have lt : ∀ q ∈ p :: r, q < fs.length := fun q hq => (hold_mem.mp (eh ▸ hq)).1
  have hkc : k < (carr fs T).length := by rw [carr_len]; exact hk
  have hl : ∀ i, i ∈ hold (less (carr fs T) k s) s ↔ i ∈ hold (carr fs T) s ∧ i ≠ k := by
    intro i
    rw [hold_mem, hold_mem, less_len hkc, less_get hkc]
    by_cases e : i = k
    · subst e
      rw [if_pos rfl]
      simp
    · rw [if_neg e]
      exact ⟨fun z => ⟨z, e⟩, fun z => z.1⟩
  have inH : ∀ q ∈ p :: r, q ∈ hold (less (carr fs T) k s) s := fun q hq => by
    refine (hl q).mpr ⟨hold_carr.mpr (.inl (eh ▸ hq)), fun z => ?_⟩
    subst z
    have : q ∈ hold fs s := eh ▸ hq
    exact h3 (hold_mem.mp this).2
  rw [eh] at h2
  obtain ⟨q, hq, hkq⟩ := wy_mem.mp h2
  refine scat_mem.mpr ⟨?_, ?_⟩
  · have := (hold_mem.mp (inH p (List.mem_cons_self ..)))
    exact ⟨_, getD_mem this.1, this.2⟩
  · exact ht.sep (hold_nd _ _) (lt p (List.mem_cons_self ..)) (k := k) (q := q) (fun z => ((hl k).mp z).2 rfl) (inH p (List.mem_cons_self ..)) (inH q (List.mem_cons_of_mem _ hq)) hkq
end
theorem late_asc (fs : Fm) (T : List Tie) (i : Nat) : asc (late fs T i) := asc_sub (List.filter_sublist ..) (nam_asc fs)
theorem late_nd (fs : Fm) (T : List Tie) (i : Nat) : (late fs T i).Nodup := (nam_nd fs).sublist (List.filter_sublist ..)
theorem late_le (fs : Fm) (T : List Tie) (i : Nat) : (late fs T i).length ≤ (nam fs).length := List.length_filter_le _ _
end VP
end
namespace L_k24
open VM VP
def FT : Nat → Option FD
  | 0 => some ⟨1, 4, T__law_bag⟩
  | 1 => some ⟨2, 5, T__law_take⟩
  | 2 => some ⟨2, 2, T__law_of⟩
  | 16 => some ⟨2, 4, T__law_same⟩
  | 17 => some ⟨2, 4, T__law_mixed⟩
  | 41 => some ⟨1, 2, T_is_name⟩
  | 45 => some ⟨3, 3, T_is_integer⟩
  | 46 => some ⟨2, 8, T__law_names⟩
  | 61 => some ⟨4, 10, T__law_faces⟩
  | 62 => some ⟨2, 11, T__law_family⟩
  | 63 => some ⟨1, 2, T__law_tuples⟩
  | 64 => some ⟨2, 7, T__law_drawn_ties⟩
  | 65 => some ⟨2, 3, T_is_face⟩
  | 66 => some ⟨1, 2, T_check_family⟩
  | 67 => some ⟨2, 3, T_is_tie⟩
  | 68 => some ⟨2, 6, T_linked⟩
  | 69 => some ⟨2, 2, T_is_one_tree⟩
  | 70 => some ⟨1, 3, T_all_names⟩
  | 71 => some ⟨2, 3, T_holders⟩
  | 72 => some ⟨4, 9, T_path⟩
  | 73 => some ⟨2, 11, T_carried⟩
  | 74 => some ⟨1, 3, T__law_union⟩
  | 75 => some ⟨2, 3, T__law_holders⟩
  | 76 => some ⟨2, 6, T__law_reached⟩
  | 77 => some ⟨2, 5, T__law_scattered⟩
  | 78 => some ⟨2, 2, T__law_one_tree⟩
  | 79 => some ⟨2, 2, T__law_fits⟩
  | 80 => some ⟨1, 13, T_law_k24⟩
  | _ => none
end L_k24
section
namespace VP
open VM MT
def late24 (cs : CS) : TS := (sCons (sSet (gName 11) (eBin .add (eBin .add (eSl (eVar 7) none (some (eVar 8))) (eLst (aCons (eB1 fTuple (eComp (iE (eIx (eVar 7) (eVar 8))) (gName 12) (tCmp .ne (eVar 12) (eVar 10)) (eVar 12) [12])) aNil))) (eSl (eVar 7) (some (eBin .add (eVar 8) (eC (.int 1)))) none))) (sIf (tCmp .notin (eVar 10) (eCall cs 77 (aCons (eVar 11) (aCons (eVar 4) aNil)))) (sRet (eC (.bl false))) sNil))
def each24 (cs : CS) : TS := (sCons (sIf (tOr (tNot (tOf (eB1 (fIsi [.tuple]) (eIx (eVar 7) (eVar 8))))) (tCmp .ne (eSl (eIx (eVar 7) (eVar 8)) none (some (eB1 fLen (eIx (eVar 3) (eVar 8))))) (eIx (eVar 3) (eVar 8)))) (sRet (eC (.bl false))) sNil) (sCons (sSet (gName 9) (eB1 fList (eSl (eIx (eVar 7) (eVar 8)) (some (eB1 fLen (eIx (eVar 3) (eVar 8)))) none))) (sCons (sIf (tOr (tCmp .ne (eVar 9) (eSorted (eVar 9))) (tOr (tCmp .ne (eComp (iE (eVar 9)) (gName 10) (tCmp .isin (eVar 10) (eIx (eVar 3) (eVar 8))) (eVar 10) [10]) (eLst aNil)) (tCmp .ne (eLenSet (eVar 9)) (eB1 fLen (eVar 9))))) (sRet (eC (.bl false))) sNil) (sFor (iE (eVar 9)) (gName 10) (late24 cs)))))
def turn24 (cs : CS) : TS := (sCons (sSet (gName 3) (eCall cs 63 (aCons (eCall cs 62 (aCons (eVar 1) (aCons (eC (.int 6)) aNil))) aNil))) (sCons (sSet (gName 4) (eCall cs 64 (aCons (eVar 1) (aCons (eB1 fLen (eVar 3)) aNil)))) (sCons (sPar [5, 6] (aCons (eB1 fList (eVar 3)) (aCons (eB1 fList (eVar 4)) aNil))) (sCons (sSet (gName 7) (eCall cs 73 (aCons (eVar 5) (aCons (eVar 6) aNil)))) (sCons (sIf (tOr (tCmp .ne (eVar 5) (eVar 3)) (tOr (tCmp .ne (eVar 6) (eVar 4)) (tOr (tNot (tOf (eB1 (fIsi [.list]) (eVar 7)))) (tCmp .ne (eB1 fLen (eVar 7)) (eB1 fLen (eVar 3)))))) (sRet (eC (.bl false))) sNil) (sCons (sIf (tNot (tOf (eCall cs 16 (aCons (eCall cs 73 (aCons (eB1 fTuple (eVar 3)) (aCons (eB1 fTuple (eVar 4)) aNil))) (aCons (eVar 7) aNil))))) (sRet (eC (.bl false))) sNil) (sCons (sFor (iRange1 (eB1 fLen (eVar 3))) (gName 8) (each24 cs)) (sCons (sIf (tOr (tNot (tOf (eCall cs 79 (aCons (eVar 7) (aCons (eVar 4) aNil))))) (tAnd (tOf (eCall cs 79 (aCons (eVar 3) (aCons (eVar 4) aNil)))) (tCmp .ne (eVar 7) (eVar 3)))) (sRet (eC (.bl false))) sNil) (sIf (tCmp .ne (eCall cs 74 (aCons (eVar 7) aNil)) (eCall cs 74 (aCons (eVar 3) aNil))) (sRet (eC (.bl false))) sNil)))))))))
theorem nodup_leS : ∀ {l m : List (List Nat)}, l.Nodup → (∀ x ∈ l, x ∈ m) → l.length ≤ m.length
  | [], _, _, _ => Nat.zero_le _
  | x :: l, m, nd, h => by
    obtain ⟨h1, h2⟩ := List.nodup_cons.mp nd
    have hx := h x (List.mem_cons_self ..)
    have := nodup_leS (m := m.erase x) h2 fun y hy => (List.mem_erase_of_ne (fun z : y = x => h1 (z ▸ hy))).mpr (h y (List.mem_cons_of_mem _ hy))
    rw [List.length_erase_of_mem hx] at this
    have : 0 < m.length := List.length_pos_of_mem hx
    rw [List.length_cons]
    omega
theorem nam_le {zs : List (List Nat)} {gs : Fm} (h : ∀ f ∈ gs, ∀ s ∈ f, s ∈ zs) : (nam gs).length ≤ zs.length :=
  nodup_leS (nam_nd gs) fun x hx => by
    obtain ⟨f, hf, hs⟩ := nam_mem.mp hx
    exact h f hf x hs
theorem fewF_of {zs : List (List Nat)} {gs : Fm} (zl : zs.length = 8) (hl : gs.length ≤ 12) (hw : ∀ f ∈ gs, f.length ≤ 20) (h : ∀ f ∈ gs, ∀ s ∈ f, s ∈ zs) : FewF gs :=
  ⟨hl, hw, by have := nam_le h; omega⟩
theorem Dn.lateD {zs : List (List Nat)} {fs : Fm} {T : List Tie} (zl : zs.length = 8) (h : Dn zs 7 8 fs) (i : Nat) : (late fs T i).length ≤ 8 ∧ ∀ s ∈ late fs T i, s ∈ zs := by
  refine ⟨?_, fun s hs => ?_⟩
  · have := late_le fs T i
    have := nam_le h.sub
    omega
  · obtain ⟨h1, _⟩ := late_mem.mp hs
    obtain ⟨f, hf, hs'⟩ := nam_mem.mp h1
    exact h.sub f hf s hs'
theorem Dn.carrD {zs : List (List Nat)} {fs : Fm} {T : List Tie} (zl : zs.length = 8) (h : Dn zs 7 8 fs) : ∀ f ∈ carr fs T, f.length ≤ 20 ∧ ∀ s ∈ f, s ∈ zs := by
  intro f hf
  unfold carr at hf
  obtain ⟨i, hi, rfl⟩ := List.mem_map.mp hf
  have hi := List.mem_range.mp hi
  have hm := getD_mem (fs := fs) hi
  obtain ⟨l1, l2⟩ := h.lateD (T := T) zl i
  have := h.wide _ hm
  refine ⟨by rw [List.length_append]; omega, fun s hs => ?_⟩
  rcases List.mem_append.mp hs with m | m
  · exact h.sub _ hm s m
  · exact l2 s m
theorem Dn.lessD {zs : List (List Nat)} {fs : Fm} {T : List Tie} (zl : zs.length = 8) (h : Dn zs 7 8 fs) {i : Nat} (hi : i < fs.length) (s : List Nat) : FewF (less (carr fs T) i s) := by
  have c := h.carrD (T := T) zl
  have hic : i < (carr fs T).length := by rw [carr_len]; exact hi
  have fl := h.len
  have key : ∀ f ∈ less (carr fs T) i s, ∃ g ∈ carr fs T, f.length ≤ g.length ∧ ∀ z ∈ f, z ∈ g := by
    intro f hf
    unfold less at hf
    rcases List.mem_append.mp hf with m | m
    · rcases List.mem_append.mp m with m | m
      · exact ⟨f, List.mem_of_mem_take m, Nat.le_refl _, fun z hz => hz⟩
      · rw [List.mem_singleton.mp m]
        exact ⟨_, getD_mem hic, List.length_filter_le _ _, fun z hz => (List.mem_filter.mp hz).1⟩
    · exact ⟨f, List.mem_of_mem_drop m, Nat.le_refl _, fun z hz => hz⟩
  refine fewF_of zl (by rw [less_len hic, carr_len]; omega) (fun f hf => ?_) (fun f hf z hz => ?_)
  · obtain ⟨g, hg, h1, _⟩ := key f hf
    exact Nat.le_trans h1 (c g hg).1
  · obtain ⟨g, hg, _, h2⟩ := key f hf
    exact (c g hg).2 z (h2 z hz)
theorem in_strs_ref {s : List Nat} {ss : List (List Nat)} {j : Nat} {st : Store} {k : Bool → Store → Prop} (h : st[j]? = some (.lst (strz ss))) : opIn (.str s) (.ref j) st k = k (decide (s ∈ ss)) st := by
  show (match asL st (.ref j) with | some ys => isD 0 (.str s) = true ∧ isDL 0 ys = true ∧ k (ys.any fun y => eqv y (.str s)) st | none => False) = _
  rw [asL_ref h]
  show (isD 0 (.str s) = true ∧ isDL 0 (strz ss) = true ∧ k ((strz ss).any fun y => eqv y (.str s)) st) = _
  rw [isDL_strs, any_strs]
  simp [isD]
theorem dL (ss : List (List Nat)) : isD 60 (.lst (strz ss)) = true := isDL_strs 59 ss
theorem dT (ss : List (List Nat)) : isD 60 (face ss) = true := isDL_strs 59 ss
/-- each further name is needed -/
theorem late_ok {cs : CS} (sc : SpScat cs) {zs : List (List Nat)} {fs : Fm} {T : List Tie} {i j : Nat} {st : Store} {D : Ends} {v0 v1 v2 v5 v6 b10 b11 b12 : Option PV} (zl : zs.length = 8) (hd : Dn zs 7 8 fs) (ht : Tree fs.length T) (hi : i < fs.length) (hs : sq st (.ref j) = some (ties T))
    (fin : ∀ st' b10 b11, Grow st st' → D.nx [v0, v1, v2, some (.lst (fcs fs)), some (.ref j), v5, v6, some (.lst (fcs (carr fs T))), some (.int (i : Nat)), some (.lst (strz (late fs T i))), b10, b11, b12] st') :
    sFor (iE (eVar 9)) (gName 10) (late24 cs) D [v0, v1, v2, some (.lst (fcs fs)), some (.ref j), v5, v6, some (.lst (fcs (carr fs T))), some (.int (i : Nat)), some (.lst (strz (late fs T i))), b10, b11, b12] st := by
  simp only [sFor, iE, eVar, items, isSeq, List.getElem?_cons_zero, List.getElem?_cons_succ, true_and]
  refine for_inv (fun rem ρ st' => Grow st st' ∧ ∃ pre suf b10 b11, pre ++ suf = late fs T i ∧ rem = strz suf ∧ ρ = [v0, v1, v2, some (.lst (fcs fs)), some (.ref j), v5, v6, some (.lst (fcs (carr fs T))), some (.int (i : Nat)), some (.lst (strz (late fs T i))), b10, b11, b12]) ?_ ?_ _ _ _ ⟨Grow.refl, [], _, _, _, rfl, rfl, rfl⟩
  · rintro v rem ρ st1 ⟨g1, pre, suf, c10, c11, e1, e2, rfl⟩
    refine ⟨trivial, fun D' d1 d2 d3 d4 d5 => ?_⟩
    cases suf with
    | nil => cases e2
    | cons s suf =>
      cases e2
      have hsl : s ∈ late fs T i := by rw [← e1]; simp
      have hic : i < (carr fs T).length := by rw [carr_len]; exact hi
      have fl := hd.len
      have cw := hd.carrD (T := T) zl
      have cm := getD_mem hic
      have cl : (carr fs T).length = fs.length := carr_len
      simp only [gName, List.set_cons_succ, List.set_cons_zero]
      unfold late24
      rw [sCons]
      simp only [sSet, eBin, eSl, eLst, eB1, eComp, iE, eIx, aCons, aNil, eVar, eC, getSl, asL, slc_take, List.getElem?_cons_zero, List.getElem?_cons_succ]
      refine get_lst (fcs_get hic) ?_
      simp only [items, isSeq, true_and, wipe, List.set_cons_succ, List.set_cons_zero]
      refine comp_of PV.str (fun z => if (!decide (z = s)) = true then some (.str z) else none) trivial ((carr fs T).getD i []) (fun z hz k' hk' => ?_) (by have := (cw _ cm).1; show _ ≤ 16777216; omega) ?_
      · simp only [turn, gName, tCmp, eVar, opCm, opEq, frz, isD, eqv, List.set_cons_succ, List.set_cons_zero, List.getElem?_cons_zero, List.getElem?_cons_succ, true_and]
        have e0 : (z == s) = decide (z = s) := by
          rw [Bool.eq_iff_iff, beq_iff_eq, decide_eq_true_eq]
        rw [e0]
        by_cases q : z = s
        · simp only [q, decide_true, Bool.not_true, Bool.false_eq_true, if_false] at hk' ⊢
          exact hk'
        · simp only [q, decide_false, Bool.not_false, if_true] at hk' ⊢
          exact hk'
      · rw [fm_filter2 (fun z => !decide (z = s)) PV.str]
        simp only [fTuple, seqOf, asL, opBin, opAdd, gName, List.set_cons_succ, List.set_cons_zero]
        refine ⟨by show 1 ≤ 16777216; decide, by rw [List.length_take, List.length_map]; show _ ≤ 16777216; simp; omega, ?_⟩
        rw [show (i : Int) + 1 = ((i + 1 : Nat) : Int) by omega, slc_drop]
        refine ⟨by rw [List.length_append, List.length_take, List.length_drop, List.length_map]; show _ ≤ 16777216; simp; omega, ?_⟩
        have el : (fcs (carr fs T)).take i ++ [PV.tup (strz (((carr fs T).getD i []).filter fun z => !decide (z = s)))] ++ (fcs (carr fs T)).drop (i + 1) = fcs (less (carr fs T) i s) := by
          unfold less
          simp
        rw [el]
        simp only [sIf, tCmp, eCall, aCons, aNil, eVar, List.getElem?_cons_zero, List.getElem?_cons_succ]
        refine sc (.lst (fcs (less (carr fs T) i s))) (.ref j) (less (carr fs T) i s) T st1 _ _ rfl (hd.lessD zl hi s) (sq_grow hs g1) fun st2 j2 g2 h2 => ?_
        simp only [opCm, in_strs_ref h2]
        have := less_scat ht hi hsl
        simp only [this, decide_true, Bool.not_true, Bool.false_eq_true, if_false, sNil]
        exact d4 _ _ ⟨g1.trans g2, pre ++ [s], suf, _, _, by rw [List.append_assoc]; exact e1, rfl, rfl⟩
  · rintro ρ st1 ⟨g1, pre, suf, c10, c11, e1, e2, rfl⟩
    exact ⟨trivial, fin _ _ _ g1⟩
/-- each face begins as it was, the further names ascend -/
theorem each_ok {cs : CS} (sc : SpScat cs) {zs : List (List Nat)} {fs : Fm} {T : List Tie} {i j : Nat} {st : Store} {D : Ends} {v0 v1 v2 v5 v6 b9 b10 b11 b12 : Option PV} (zl : zs.length = 8) (hd : Dn zs 7 8 fs) (ht : Tree fs.length T) (hi : i < fs.length) (hs : sq st (.ref j) = some (ties T))
    (fin : ∀ st' b9 b10 b11, Grow st st' → D.nx [v0, v1, v2, some (.lst (fcs fs)), some (.ref j), v5, v6, some (.lst (fcs (carr fs T))), some (.int (i : Nat)), b9, b10, b11, b12] st') :
    each24 cs D [v0, v1, v2, some (.lst (fcs fs)), some (.ref j), v5, v6, some (.lst (fcs (carr fs T))), some (.int (i : Nat)), b9, b10, b11, b12] st := by
  have hic : i < (carr fs T).length := by rw [carr_len]; exact hi
  have cg : (carr fs T).getD i [] = fs.getD i [] ++ late fs T i := carr_get hi
  have hf := fcs_get hi
  have hc := fcs_get hic
  rw [cg] at hc
  obtain ⟨l1, l2⟩ := hd.lateD (T := T) zl i
  unfold each24
  rw [sCons]
  simp only [sIf, tOr, tNot, tOf, tCmp, eB1, eIx, eVar, List.getElem?_cons_zero, List.getElem?_cons_succ]
  refine get_lst hc ?_
  refine ⟨by simp [kdOf], ?_⟩
  have ek : ([Ty.tuple].any (kdIs (kdOf st (face (fs.getD i [] ++ late fs T i))))) = true := rfl
  simp only [ek, truth, Bool.not_true, Bool.false_eq_true, if_false, eSl, eB1, fLen, eIx, eVar, List.getElem?_cons_zero, List.getElem?_cons_succ]
  refine get_lst hc (get_lst hf ?_)
  simp only [bLen, getSl, slc_take, opCm]
  have e1 : (strz (fs.getD i [] ++ late fs T i)).take (strz (fs.getD i [])).length = strz (fs.getD i []) := by
    rw [← strs_app, List.take_left]
  rw [e1]
  refine get_lst hf ?_
  refine eq_same (dT _) rfl ?_
  simp only [Bool.not_true, Bool.false_eq_true, if_false, sNil]
  rw [sCons]
  simp only [sSet, eB1, eSl, fLen, eIx, eVar, gName, List.getElem?_cons_zero, List.getElem?_cons_succ, List.set_cons_succ, List.set_cons_zero]
  refine get_lst hc (get_lst hf ?_)
  have e2 : (strz (fs.getD i [] ++ late fs T i)).drop (strz (fs.getD i [])).length = strz (late fs T i) := by
    rw [← strs_app, List.drop_left]
  simp only [bLen, getSl, slc_drop, e2, fList, seqOf]
  rw [sCons]
  simp only [sIf, tOr, tCmp, opCm, eSorted, eVar, asL, asStrs_strs, List.getElem?_cons_zero, List.getElem?_cons_succ]
  refine ⟨by omega, ?_⟩
  rw [sortS_of_asc (late_asc fs T i)]
  refine eq_same (dL _) rfl ?_
  simp only [Bool.not_true, Bool.false_eq_true, if_false, eComp, iE, eVar, items, isSeq, true_and, wipe, List.getElem?_cons_zero, List.getElem?_cons_succ, List.set_cons_succ, List.set_cons_zero]
  refine comp_of PV.str (fun _ => none) trivial (late fs T i) (fun z hz k' hk' => ?_) (by show _ ≤ 16777216; omega) ?_
  · simp only [turn, gName, tCmp, eIx, eVar, opCm, List.set_cons_succ, List.set_cons_zero, List.getElem?_cons_zero, List.getElem?_cons_succ]
    refine get_lst hf ?_
    rw [in_face]
    have : z ∉ fs.getD i [] := (late_mem.mp hz).2.2
    simp only [this, decide_false, Bool.false_eq_true, if_false]
    exact hk'
  · have e3 : (late fs T i).filterMap (fun _ => (none : Option PV)) = [] := by
      generalize late fs T i = l
      induction l with
      | nil => rfl
      | cons a l ih => simp
    rw [e3]
    simp only [eLst, aNil]
    refine ⟨by show 0 ≤ 16777216; decide, ?_⟩
    refine eq_same rfl rfl ?_
    simp only [Bool.not_true, Bool.false_eq_true, if_false, eLenSet, eB1, fLen, eVar, asL, asStrs_strs, bLen, List.getElem?_cons_zero, List.getElem?_cons_succ]
    refine ⟨by omega, ?_⟩
    rw [dcnt_nd ((List.reverse_perm _).nodup_iff.mpr (late_nd fs T i)), List.length_reverse, List.length_map]
    refine eq_same rfl rfl ?_
    simp only [Bool.not_true, Bool.false_eq_true, if_false, sNil]
    exact late_ok sc zl hd ht hi hs fun st' b10 b11 g => fin st' _ _ _ g
end VP
end
section
namespace VP
open VM MT
structure Cs24 (cs : CS) : Prop where
  bag : SpBag0 cs
  fam : SpFamily cs
  tup : SpTuples cs
  ties : SpTies cs
  carr : SpCarr cs
  same : SpSame 2 cs
  sc : SpScat cs
  fits : SpFits cs
  nam : SpNam 74 cs
theorem dF (fs : Fm) : isD 60 (.lst (fcs fs)) = true := isDL_fcs 58 fs
theorem dTi (T : List Tie) : isD 60 (.lst (VP.ties T)) = true := isDL_ties 58 T
theorem turn_ok {cs : CS} (C : Cs24 cs) {v0 : PV} {a2 a3 a4 a5 a6 a7 a8 a9 a10 a11 a12 : Option PV} {n : Nat} {st : Store} {D : Ends} (hb : Bag st 0 (n + 1100))
    (hk : ∀ ρ2 st2, (∃ c2 c3 c4 c5 c6 c7 c8 c9 c10 c11 c12, ρ2 = [some v0, some (.ref 0), c2, c3, c4, c5, c6, c7, c8, c9, c10, c11, c12]) → Bag st2 0 n → D.nx ρ2 st2) :
    turn24 cs D [some v0, some (.ref 0), a2, a3, a4, a5, a6, a7, a8, a9, a10, a11, a12] st := by
  unfold turn24
  rw [sCons]
  simp only [sSet, eCall, aCons, aNil, eVar, eC, gName, List.getElem?_cons_zero, List.getElem?_cons_succ, List.set_cons_succ, List.set_cons_zero]
  refine C.fam 0 st (n + 100) _ _ (hb.le (by omega)) fun v st1 hv hb1 k1 => ?_
  obtain ⟨zs, zl, znd, zok, a, ps, rfl, al, ha, hp, hd⟩ := hv
  have pl := hd.len
  rw [List.length_map] at pl
  refine C.tup a st.length ps st1 _ _ ha hp (by omega) ?_
  clear pl ha hp
  generalize ps.map (·.2) = fs at *
  have fl := hd.len
  have fp := hd.pos
  rw [sCons]
  simp only [sSet, eCall, aCons, aNil, eB1, fLen, bLen, asL, eVar, gName, List.length_map, List.getElem?_cons_zero, List.getElem?_cons_succ, List.set_cons_succ, List.set_cons_zero]
  refine C.ties fs.length 0 st1 fp (by omega) n _ _ hb1 fun v st2 hv hb2 k2 => ?_
  obtain ⟨j, T, rfl, jl, hj, ht⟩ := hv
  have hs : sq st2 (.ref j) = some (VP.ties T) := by rw [sq_ref, hj]
  have fam : Fam fs := ⟨fp, by omega, hd.wide, hd.nd, fun f hf s hs => (zok s (hd.sub f hf s hs)).1⟩
  have few : FewF fs := fewF_of zl (by omega) (fun f hf => Nat.le_trans (hd.wide f hf) (by decide)) hd.sub
  have cw := hd.carrD (T := T) zl
  have cl : (VP.carr fs T).length = fs.length := carr_len
  have fewC : FewF (VP.carr fs T) := fewF_of zl (by omega) (fun f hf => (cw f hf).1) fun f hf => (cw f hf).2
  rw [sCons]
  simp only [sPar, aCons, aNil, eB1, fList, eVar, seqOf, asL, hj, gEach, gName, List.map_cons, List.map_nil, List.getElem?_cons_zero, List.getElem?_cons_succ, List.set_cons_succ, List.set_cons_zero]
  rw [sCons]
  simp only [sSet, eCall, aCons, aNil, eVar, gName, List.getElem?_cons_zero, List.getElem?_cons_succ, List.set_cons_succ, List.set_cons_zero]
  refine C.carr (.lst (fcs fs)) (.lst (VP.ties T)) fs T st2 _ _ (.inl rfl) (.inl rfl) fam few ht fun st3 g3 => ?_
  have hj3 : st3[j]? = some (.lst (VP.ties T)) := (g3.2 j (List.getElem?_eq_some_iff.mp hj).1).trans hj
  rw [sCons]
  simp only [sIf, tOr, tCmp, opCm, eVar, List.getElem?_cons_zero, List.getElem?_cons_succ]
  refine eq_same (dF fs) rfl ?_
  simp only [Bool.not_true, Bool.false_eq_true, if_false]
  unfold opEq
  simp only [frz, hj3]
  refine ⟨dTi T, dTi T, ?_⟩
  rw [eqv_refl 60 _ (dTi T)]
  simp only [Bool.not_true, Bool.false_eq_true, if_false, tNot, tOf, eB1, fIsi, fLen, bLen, asL, eVar, List.length_map, cl, List.getElem?_cons_zero, List.getElem?_cons_succ]
  refine ⟨by simp [kdOf], ?_⟩
  have ek : ([Ty.list].any (kdIs (kdOf st3 (.lst (fcs (VP.carr fs T)))))) = true := rfl
  simp only [ek, truth, Bool.not_true, Bool.false_eq_true, if_false]
  refine ⟨rfl, rfl, ?_⟩
  have eqi : eqv (.int (fs.length : Int)) (.int (fs.length : Int)) = true := by simp [eqv]
  simp only [eqi, Bool.not_true, Bool.false_eq_true, if_false, sNil]
  rw [sCons]
  simp only [sIf, tNot, tOf, eCall, eB1, aCons, aNil, fTuple, seqOf, asL, eVar, hj3, List.getElem?_cons_zero, List.getElem?_cons_succ]
  refine C.carr (.tup (fcs fs)) (.tup (VP.ties T)) fs T st3 _ _ (.inr rfl) (.inr rfl) fam few ht fun st4 g4 => ?_
  refine C.same (.lst (fcs (VP.carr fs T))) st4 _ _ ⟨by rw [List.length_map, cl]; show _ ≤ 16777216; omega, fun y hy => ?_⟩ ?_
  · obtain ⟨f, hf, rfl⟩ := List.mem_map.mp hy
    refine ⟨by rw [List.length_map]; have := (cw f hf).1; show _ ≤ 16777216; omega, fun z hz => ?_⟩
    obtain ⟨s, _, rfl⟩ := List.mem_map.mp hz
    trivial
  simp only [truth, Bool.not_true, Bool.false_eq_true, if_false, sNil]
  rw [sCons]
  simp only [sFor, iRange1, eB1, fLen, bLen, asL, eVar, List.length_map, List.getElem?_cons_zero, List.getElem?_cons_succ]
  refine ⟨by unfold i62; omega, ?_⟩
  rw [Int.toNat_natCast]
  have g24 := g3.trans g4
  refine for_inv (fun rem ρ st' => Grow st2 st' ∧ ∃ pre b8 b9 b10 b11, pre ++ rem = (List.range fs.length).map (fun (i : Nat) => PV.int (i : Int)) ∧ ρ = [some v0, some (.ref 0), a2, some (.lst (fcs fs)), some (.ref j), some (.lst (fcs fs)), some (.lst (VP.ties T)), some (.lst (fcs (VP.carr fs T))), b8, b9, b10, b11, a12]) ?_ ?_ _ _ _ ⟨g24, [], _, _, _, _, rfl, rfl⟩
  · rintro v rem ρ st5 ⟨g5, pre, b8, b9, b10, b11, er, rfl⟩
    refine ⟨trivial, fun D' d1 d2 d3 d4 d5 => ?_⟩
    obtain ⟨rfl, hi⟩ := range_split er
    simp only [gName, List.set_cons_succ, List.set_cons_zero]
    refine each_ok C.sc zl hd ht hi (sq_grow hs g5) fun st6 b9 b10 b11 g6 => d4 _ _ ⟨g5.trans g6, pre ++ [.int (pre.length : Nat)], _, _, _, _, by rw [List.append_assoc]; exact er, rfl⟩
  · rintro ρ st5 ⟨g5, pre, b8, b9, b10, b11, er, rfl⟩
    refine ⟨trivial, ?_⟩
    dsimp only
    rw [sCons]
    simp only [sIf, tOr, tNot, tAnd, tOf, tCmp, eCall, aCons, aNil, eVar, List.getElem?_cons_zero, List.getElem?_cons_succ]
    have hs5 := sq_grow hs g5
    refine C.fits (.lst (fcs (VP.carr fs T))) (.ref j) (VP.carr fs T) T st5 _ _ rfl fewC hs5 (by rw [cl]; exact ht) fun st6 g6 => ?_
    have sz : (scat (VP.carr fs T) T).isEmpty = true := by rw [carr_fits ht]; rfl
    simp only [sz, truth, Bool.not_true, Bool.false_eq_true, if_false]
    refine C.fits (.lst (fcs fs)) (.ref j) fs T st6 _ _ rfl few (sq_grow hs (g5.trans g6)) ht fun st7 g7 => ?_
    have rest : sIf (tCmp .ne (eCall cs 74 (aCons (eVar 7) aNil)) (eCall cs 74 (aCons (eVar 3) aNil))) (sRet (eC (.bl false))) sNil D
        [some v0, some (.ref 0), a2, some (.lst (fcs fs)), some (.ref j), some (.lst (fcs fs)), some (.lst (VP.ties T)), some (.lst (fcs (VP.carr fs T))), b8, b9, b10, b11, a12] st7 := by
      simp only [sIf, tCmp, eCall, aCons, aNil, eVar, List.getElem?_cons_zero, List.getElem?_cons_succ]
      refine C.nam (.lst (fcs (VP.carr fs T))) (VP.carr fs T) st7 _ _ rfl fewC ?_
      refine C.nam (.lst (fcs fs)) fs st7 _ _ rfl few ?_
      rw [nam_carr]
      simp only [opCm]
      refine eq_same (dL _) rfl ?_
      simp only [Bool.not_true, Bool.false_eq_true, if_false, sNil]
      exact hk _ _ ⟨_, _, _, _, _, _, _, _, _, _, _, rfl⟩ (hb2.grow ((g5.trans g6).trans g7))
    by_cases q : scat fs T = []
    · have qe : (scat fs T).isEmpty = true := by rw [q]; rfl
      simp only [qe, if_true, opCm]
      rw [carr_same ht q] at rest ⊢
      refine eq_same (dF fs) rfl ?_
      simp only [Bool.not_true, Bool.false_eq_true, if_false, sNil]
      exact rest
    · have qe : (scat fs T).isEmpty = false := by
        cases e : scat fs T with
        | nil => exact absurd e q
        | cons a b => rfl
      simp only [qe, Bool.false_eq_true, if_false, sNil]
      exact rest
theorem k24_law {cs cs' : CS} (C : Cs24 cs) {f : Nat} (go : ∀ vs st k x, vs.length = 1 → T_law_k24 cs (D0 k x) (vs.map some ++ List.replicate (13 - 1) none) st → cs' f vs st k x) (is : List Int) (hl : is.length ≤ 63) (x : KV) : cs' f [.scr is] [] (fun v _ => v = .bl true) x := by
  refine go _ _ _ _ rfl ?_
  show (sCons _ (sCons (sFor _ _ (turn24 cs)) _)) _ _ _
  simp only [List.map_cons, List.map_nil, List.replicate_succ, List.replicate_zero, List.cons_append, List.nil_append, Nat.reduceSub]
  rw [sCons]
  simp only [sSet, eCall, aCons, aNil, eVar, gName, List.getElem?_cons_zero, List.getElem?_cons_succ, List.set_cons_zero, List.set_cons_succ]
  refine C.bag is [] _ _ hl fun st1 hb1 l1 _ => ?_
  rw [sCons]
  simp only [sFor, iRange1, eC]
  refine ⟨by unfold i62; decide, ?_⟩
  refine for_inv (fun rem ρ st' => (∃ c2 c3 c4 c5 c6 c7 c8 c9 c10 c11 c12, ρ = [some (.scr is), some (.ref 0), c2, c3, c4, c5, c6, c7, c8, c9, c10, c11, c12]) ∧ Bag st' 0 (1100 * rem.length)) ?_ ?_ _ _ _ ⟨⟨_, _, _, _, _, _, _, _, _, _, _, rfl⟩, hb1.le (by decide)⟩
  · rintro v rem ρ st' ⟨⟨c2, c3, c4, c5, c6, c7, c8, c9, c10, c11, c12, rfl⟩, hb'⟩
    refine ⟨trivial, fun D' d1 d2 d3 d4 d5 => ?_⟩
    rw [List.length_cons] at hb'
    simp only [gName, List.set_cons_zero, List.set_cons_succ]
    exact turn_ok C (hb'.le (by omega) : Bag st' 0 (1100 * rem.length + 1100)) fun ρ2 st2 h1 h2 => d4 _ _ ⟨h1, h2⟩
  · rintro ρ st' ⟨⟨c2, c3, c4, c5, c6, c7, c8, c9, c10, c11, c12, rfl⟩, hb'⟩
    exact ⟨trivial, rfl⟩
theorem law_true24 (is : List Int) (hl : is.length ≤ 63) (x : KV) : callN L_k24.FT 90 80 [.scr is] [] (fun v _ => v = .bl true) x := by
  have bag := bag_at (FT := L_k24.FT) rfl
  have tk := take_at (FT := L_k24.FT) rfl
  have of := of_at (FT := L_k24.FT) rfl tk
  have ofS := ofS_at (FT := L_k24.FT) rfl tk
  have mx := mixed_at (FT := L_k24.FT) rfl tk
  have nms := namesM_at (FT := L_k24.FT) rfl (tk.mono (d' := 2) (by decide)) of ofS
  have fa := faces_at (FT := L_k24.FT) (d := 10) rfl (tk.mono (by decide)) (mx.mono (by decide))
  have fam := family_at (FT := L_k24.FT) (d := 11) rfl (tk.mono (by decide)) (mx.mono (by decide)) (of.mono (by decide)) (nms.mono (by decide)) fa
  have tup := tuples_at (FT := L_k24.FT) rfl
  have ti := ties_at (FT := L_k24.FT) (d := 10) rfl (tk.mono (by decide)) (mx.mono (by decide))
  have inn := in_at (FT := L_k24.FT) rfl
  have nm := name_at (FT := L_k24.FT) rfl
  have fc := face_at (FT := L_k24.FT) rfl nm
  have ck := chk_at (FT := L_k24.FT) rfl fc
  have tb := tieb_at (FT := L_k24.FT) rfl inn
  have on := one_at (FT := L_k24.FT) rfl (linked_at (FT := L_k24.FT) rfl)
  have lon := lone_at (FT := L_k24.FT) rfl (reached_at (FT := L_k24.FT) rfl)
  have an := allnames_at (FT := L_k24.FT) rfl
  have ho := holders_at (FT := L_k24.FT) rfl
  have pa := path_at (FT := L_k24.FT) rfl
  have ca := carried_at (FT := L_k24.FT) (d := 10) rfl (ck.mono (by decide)) (tb.mono (by decide)) (on.mono (by decide)) (an.mono (by decide)) (ho.mono (by decide)) (pa.mono (by decide))
  have un := lunion_at (FT := L_k24.FT) rfl
  have lho := lholders_at (FT := L_k24.FT) rfl
  have sc := scat_at (FT := L_k24.FT) rfl un lho (reached_at (FT := L_k24.FT) rfl)
  have fi := fits_at (FT := L_k24.FT) (d := 10) rfl (lon.mono (by decide)) (sc.mono (by decide))
  have sme := same_at (FT := L_k24.FT) rfl 2
  have C : Cs24 (callN L_k24.FT 89) := ⟨bag _ (by decide), fam _ (by decide), tup _ (by decide), ti _ (by decide), ca _ (by decide), sme _ (by decide), sc _ (by decide), fi _ (by decide), un _ (by decide)⟩
  exact k24_law (cs' := callN L_k24.FT 90) C (fun vs st k x h1 h2 => call_of (FT := L_k24.FT) (n := 89) (f := 80) rfl h1 h2) is hl x
end VP
end
namespace L_k24
open PySem PySem.Spec PyProof.Rows L2 VS VP
def topS (i : Nat) : Stmt := PySem.Challenge.pw_whatcrosses_k24_whole_faces_carried.main.body.getD i (.Pass ⟨0, 0, 0, 0⟩)
def subS (s : Stmt) (j : Nat) : Stmt := match s with
  | .ClassDef (body := b) .. => b.getD j (.Pass ⟨0, 0, 0, 0⟩)
  | _ => .Pass ⟨0, 0, 0, 0⟩
abbrev s_law : Stmt := topS 39
abbrev N_law : List Str := ["_law_script", "_law_bag_here", "_law_turn", "_law_faces_here", "_law_ties", "_law_given", "_law_more", "_law_found", "_law_k", "_law_late", "_law_name", "_law_less", "_law_one"]
abbrev P_law : List Str := ["_law_script"]
theorem sc_law : FnScope N_law P_law (defScope s_law) := ⟨rfl, rfl, rfl, by decide +kernel, rfl, by decide +kernel, by decide +kernel⟩
abbrev s__law_bag : Stmt := topS 23
abbrev N__law_bag : List Str := ["_law_script", "_law_cells", "_law_cell", "_law_mixed_here"]
abbrev P__law_bag : List Str := ["_law_script"]
theorem sc__law_bag : FnScope N__law_bag P__law_bag (defScope s__law_bag) := ⟨rfl, rfl, rfl, by decide +kernel, rfl, by decide +kernel, by decide +kernel⟩
abbrev s__law_take : Stmt := topS 24
abbrev N__law_take : List Str := ["_law_bag_here", "_law_many", "_law_cell", "_law_digit", "_law_old"]
abbrev P__law_take : List Str := ["_law_bag_here", "_law_many"]
theorem sc__law_take : FnScope N__law_take P__law_take (defScope s__law_take) := ⟨rfl, rfl, rfl, by decide +kernel, rfl, by decide +kernel, by decide +kernel⟩
abbrev s__law_of : Stmt := topS 25
abbrev N__law_of : List Str := ["_law_bag_here", "_law_things"]
abbrev P__law_of : List Str := ["_law_bag_here", "_law_things"]
theorem sc__law_of : FnScope N__law_of P__law_of (defScope s__law_of) := ⟨rfl, rfl, rfl, by decide +kernel, rfl, by decide +kernel, by decide +kernel⟩
abbrev s__law_names : Stmt := topS 28
abbrev N__law_names : List Str := ["_law_bag_here", "_law_many", "_law_letters", "_law_stem", "_law_k", "_law_at", "_law_first", "_law_step"]
abbrev P__law_names : List Str := ["_law_bag_here", "_law_many"]
theorem sc__law_names : FnScope N__law_names P__law_names (defScope s__law_names) := ⟨rfl, rfl, rfl, by decide +kernel, rfl, by decide +kernel, by decide +kernel⟩
abbrev s__law_mixed : Stmt := topS 26
abbrev N__law_mixed : List Str := ["_law_bag_here", "_law_things", "_law_found", "_law_thing"]
abbrev P__law_mixed : List Str := ["_law_bag_here", "_law_things"]
theorem sc__law_mixed : FnScope N__law_mixed P__law_mixed (defScope s__law_mixed) := ⟨rfl, rfl, rfl, by decide +kernel, rfl, by decide +kernel, by decide +kernel⟩
abbrev s__law_faces : Stmt := topS 30
abbrev N__law_faces : List Str := ["_law_bag_here", "_law_houses", "_law_pool", "_law_most", "_law_faces_here", "_law_ties", "_law_left", "_law_k", "_law_face", "_law_at"]
abbrev P__law_faces : List Str := ["_law_bag_here", "_law_houses", "_law_pool", "_law_most"]
theorem sc__law_faces : FnScope N__law_faces P__law_faces (defScope s__law_faces) := ⟨rfl, rfl, rfl, by decide +kernel, rfl, by decide +kernel, by decide +kernel⟩
abbrev s__law_family : Stmt := topS 36
abbrev N__law_family : List Str := ["_law_bag_here", "_law_most", "_law_names_here", "_law_kind", "_law_faces_here", "_law_many", "_law_k", "_law_spare", "_law_at", "_law_name", "_law_face"]
abbrev P__law_family : List Str := ["_law_bag_here", "_law_most"]
theorem sc__law_family : FnScope N__law_family P__law_family (defScope s__law_family) := ⟨rfl, rfl, rfl, by decide +kernel, rfl, by decide +kernel, by decide +kernel⟩
abbrev s__law_tuples : Stmt := topS 37
abbrev N__law_tuples : List Str := ["_law_faces_here", "_law_face"]
abbrev P__law_tuples : List Str := ["_law_faces_here"]
theorem sc__law_tuples : FnScope N__law_tuples P__law_tuples (defScope s__law_tuples) := ⟨rfl, rfl, rfl, by decide +kernel, rfl, by decide +kernel, by decide +kernel⟩
abbrev s__law_drawn_ties : Stmt := topS 38
abbrev N__law_drawn_ties : List Str := ["_law_bag_here", "_law_many", "_law_order", "_law_found", "_law_k", "_law_a", "_law_b"]
abbrev P__law_drawn_ties : List Str := ["_law_bag_here", "_law_many"]
theorem sc__law_drawn_ties : FnScope N__law_drawn_ties P__law_drawn_ties (defScope s__law_drawn_ties) := ⟨rfl, rfl, rfl, by decide +kernel, rfl, by decide +kernel, by decide +kernel⟩
abbrev s_is_name : Stmt := topS 8
abbrev N_is_name : List Str := ["value", "sign"]
abbrev P_is_name : List Str := ["value"]
theorem sc_is_name : FnScope N_is_name P_is_name (defScope s_is_name) := ⟨rfl, rfl, rfl, by decide +kernel, rfl, by decide +kernel, by decide +kernel⟩
abbrev s_is_face : Stmt := topS 13
abbrev N_is_face : List Str := ["value", "most", "name"]
abbrev P_is_face : List Str := ["value", "most"]
theorem sc_is_face : FnScope N_is_face P_is_face (defScope s_is_face) := ⟨rfl, rfl, rfl, by decide +kernel, rfl, by decide +kernel, by decide +kernel⟩
abbrev s_check_family : Stmt := topS 14
abbrev N_check_family : List Str := ["faces", "at"]
abbrev P_check_family : List Str := ["faces"]
theorem sc_check_family : FnScope N_check_family P_check_family (defScope s_check_family) := ⟨rfl, rfl, rfl, by decide +kernel, rfl, by decide +kernel, by decide +kernel⟩
abbrev s_is_integer : Stmt := topS 9
abbrev N_is_integer : List Str := ["value", "least", "most"]
abbrev P_is_integer : List Str := ["value", "least", "most"]
theorem sc_is_integer : FnScope N_is_integer P_is_integer (defScope s_is_integer) := ⟨rfl, rfl, rfl, by decide +kernel, rfl, by decide +kernel, by decide +kernel⟩
abbrev s_is_tie : Stmt := topS 16
abbrev N_is_tie : List Str := ["value", "many", "at"]
abbrev P_is_tie : List Str := ["value", "many"]
theorem sc_is_tie : FnScope N_is_tie P_is_tie (defScope s_is_tie) := ⟨rfl, rfl, rfl, by decide +kernel, rfl, by decide +kernel, by decide +kernel⟩
abbrev s_linked : Stmt := topS 17
abbrev N_linked : List Str := ["places", "ties", "found", "_", "one", "other"]
abbrev P_linked : List Str := ["places", "ties"]
theorem sc_linked : FnScope N_linked P_linked (defScope s_linked) := ⟨rfl, rfl, rfl, by decide +kernel, rfl, by decide +kernel, by decide +kernel⟩
abbrev s_is_one_tree : Stmt := topS 18
abbrev N_is_one_tree : List Str := ["many", "ties"]
abbrev P_is_one_tree : List Str := ["many", "ties"]
theorem sc_is_one_tree : FnScope N_is_one_tree P_is_one_tree (defScope s_is_one_tree) := ⟨rfl, rfl, rfl, by decide +kernel, rfl, by decide +kernel, by decide +kernel⟩
abbrev s_all_names : Stmt := topS 15
abbrev N_all_names : List Str := ["faces", "face", "name"]
abbrev P_all_names : List Str := ["faces"]
theorem sc_all_names : FnScope N_all_names P_all_names (defScope s_all_names) := ⟨rfl, rfl, rfl, by decide +kernel, rfl, by decide +kernel, by decide +kernel⟩
abbrev s_holders : Stmt := topS 19
abbrev N_holders : List Str := ["faces", "name", "at"]
abbrev P_holders : List Str := ["faces", "name"]
theorem sc_holders : FnScope N_holders P_holders (defScope s_holders) := ⟨rfl, rfl, rfl, by decide +kernel, rfl, by decide +kernel, by decide +kernel⟩
abbrev s_path : Stmt := topS 20
abbrev N_path : List Str := ["ties", "many", "first", "last", "before", "_", "one", "other", "found"]
abbrev P_path : List Str := ["ties", "many", "first", "last"]
theorem sc_path : FnScope N_path P_path (defScope s_path) := ⟨rfl, rfl, rfl, by decide +kernel, rfl, by decide +kernel, by decide +kernel⟩
abbrev s_carried : Stmt := topS 21
abbrev N_carried : List Str := ["faces", "ties", "at", "more", "_", "name", "places", "found", "other", "face", "names"]
abbrev P_carried : List Str := ["faces", "ties"]
theorem sc_carried : FnScope N_carried P_carried (defScope s_carried) := ⟨rfl, rfl, rfl, by decide +kernel, rfl, by decide +kernel, by decide +kernel⟩
abbrev s__law_same : Stmt := topS 27
abbrev N__law_same : List Str := ["_law_found", "_law_due", "_law_one", "_law_two"]
abbrev P__law_same : List Str := ["_law_found", "_law_due"]
theorem sc__law_same : FnScope N__law_same P__law_same (defScope s__law_same) := ⟨rfl, rfl, rfl, by decide +kernel, rfl, by decide +kernel, by decide +kernel⟩
abbrev s__law_union : Stmt := topS 29
abbrev N__law_union : List Str := ["_law_faces_here", "_law_found", "_law_face"]
abbrev P__law_union : List Str := ["_law_faces_here"]
theorem sc__law_union : FnScope N__law_union P__law_union (defScope s__law_union) := ⟨rfl, rfl, rfl, by decide +kernel, rfl, by decide +kernel, by decide +kernel⟩
abbrev s__law_holders : Stmt := topS 32
abbrev N__law_holders : List Str := ["_law_faces_here", "_law_name", "_law_k"]
abbrev P__law_holders : List Str := ["_law_faces_here", "_law_name"]
theorem sc__law_holders : FnScope N__law_holders P__law_holders (defScope s__law_holders) := ⟨rfl, rfl, rfl, by decide +kernel, rfl, by decide +kernel, by decide +kernel⟩
abbrev s__law_reached : Stmt := topS 31
abbrev N__law_reached : List Str := ["_law_places", "_law_ties", "_law_found", "_law_k", "_law_a", "_law_b"]
abbrev P__law_reached : List Str := ["_law_places", "_law_ties"]
theorem sc__law_reached : FnScope N__law_reached P__law_reached (defScope s__law_reached) := ⟨rfl, rfl, rfl, by decide +kernel, rfl, by decide +kernel, by decide +kernel⟩
abbrev s__law_scattered : Stmt := topS 34
abbrev N__law_scattered : List Str := ["_law_faces_here", "_law_ties", "_law_found", "_law_name", "_law_places"]
abbrev P__law_scattered : List Str := ["_law_faces_here", "_law_ties"]
theorem sc__law_scattered : FnScope N__law_scattered P__law_scattered (defScope s__law_scattered) := ⟨rfl, rfl, rfl, by decide +kernel, rfl, by decide +kernel, by decide +kernel⟩
abbrev s__law_one_tree : Stmt := topS 33
abbrev N__law_one_tree : List Str := ["_law_many", "_law_ties"]
abbrev P__law_one_tree : List Str := ["_law_many", "_law_ties"]
theorem sc__law_one_tree : FnScope N__law_one_tree P__law_one_tree (defScope s__law_one_tree) := ⟨rfl, rfl, rfl, by decide +kernel, rfl, by decide +kernel, by decide +kernel⟩
abbrev s__law_fits : Stmt := topS 35
abbrev N__law_fits : List Str := ["_law_faces_here", "_law_ties"]
abbrev P__law_fits : List Str := ["_law_faces_here", "_law_ties"]
theorem sc__law_fits : FnScope N__law_fits P__law_fits (defScope s__law_fits) := ⟨rfl, rfl, rfl, by decide +kernel, rfl, by decide +kernel, by decide +kernel⟩
section
variable {P : Program} {w : World} {K : PySem.W.Frag} {mg : Str → Option Value} {base : Heap}
abbrev Ce (P : Program) (w : World) (K : PySem.W.Frag) (mg : Str → Option Value) (base : Heap) (n : Nat) (x : Str) (i : Nat) (ps : List Str) : Prop := Callee P w K mg base x (VM.callN FT n) (2 * n + 40) i ps
abbrev Me (P : Program) (w : World) (K : PySem.W.Frag) (mg : Str → Option Value) (base : Heap) (n i : Nat) (f : Addr) : Prop := FC P w K mg base (VM.callN FT n) (2 * n + 40) i f
abbrev Md (P : Program) (w : World) (K : PySem.W.Frag) (mg : Str → Option Value) (base : Heap) (n i : Nat) (f : Addr) (dvs : List V) : Prop := FCD P w K mg base (VM.callN FT n) (2 * n + 40) i f dvs
theorem b_law {n : Nat} (C__law_bag : Ce P w K mg base n "_law_bag" 0 P__law_bag) (C__law_drawn_ties : Ce P w K mg base n "_law_drawn_ties" 64 P__law_drawn_ties) (C__law_family : Ce P w K mg base n "_law_family" 62 P__law_family) (C__law_fits : Ce P w K mg base n "_law_fits" 79 P__law_fits) (C__law_same : Ce P w K mg base n "_law_same" 16 P__law_same) (C__law_scattered : Ce P w K mg base n "_law_scattered" 77 P__law_scattered) (C__law_tuples : Ce P w K mg base n "_law_tuples" 63 P__law_tuples) (C__law_union : Ce P w K mg base n "_law_union" 74 P__law_union) (C_carried : Ce P w K mg base n "carried" 73 P_carried) (z_isinstance : mg "isinstance" = none) (z_len : mg "len" = none) (z_list : mg "list" = none) (z_range : mg "range" = none) (z_set : mg "set" = none) (z_sorted : mg "sorted" = none) (z_tuple : mg "tuple" = none) {cdv : Value} {A : Around} {outer : List Env} {s : Shared} {H : Hp} {E : XK} {f : Addr} (hr : Room (2 * n + 41) (A.deeper (envOfC "law" (defScope s_law) s.heap.objs.size f cdv))) (dv : Dv base P (envOfC "law" (defScope s_law) s.heap.objs.size f cdv :: outer) (A.deeper (envOfC "law" (defScope s_law) s.heap.objs.size f cdv))) :
    VB (cxOf CX0 P w K mg base N_law "law" (defScope s_law) f cdv A outer s H E).nox (defBody s_law) (T_law_k24 (VM.callN FT n)) := by
  have nd := (sc_law).nd
  have hr0 : Room (2 * n + 40) (A.deeper (envOfC "law" (defScope s_law) s.heap.objs.size f cdv)) := hr.mono (Nat.le_succ _)
  exact (vb_cons (vs_set nd rfl (Or.inl rfl) (ve_calle (i := 0) C__law_bag hr0 rfl (va_cons (ve_var 0) va_nil)) rfl (Or.inr rfl))
    (vb_cons (vs_for PassesOwn.never rfl (vi_range1 rfl z_range ve_int) (vg_name nd rfl (Or.inl rfl) (Or.inr rfl))
    (vb_cons (vs_set nd rfl (Or.inr rfl) (ve_calle (i := 63) C__law_tuples hr0 rfl (va_cons (ve_calle (i := 62) C__law_family hr0 rfl (va_cons (ve_var 1) (va_cons ve_int va_nil))) va_nil)) rfl (Or.inl rfl))
    (vb_cons (vs_set nd rfl (Or.inl rfl) (ve_calle (i := 64) C__law_drawn_ties hr0 rfl (va_cons (ve_var 1) (va_cons (ve_len (ve_var 3) rfl z_len) va_nil))) rfl (Or.inr rfl))
    (vb_cons (vs_par rfl nd rfl rfl (by decide) rfl rfl (va_cons (ve_list (ve_var 3) rfl z_list) (va_cons (ve_list (ve_var 4) rfl z_list) va_nil)) rfl)
    (vb_cons (vs_set nd rfl (Or.inl rfl) (ve_calle (i := 73) C_carried hr0 rfl (va_cons (ve_var 5) (va_cons (ve_var 6) va_nil))) rfl (Or.inr rfl))
    (vb_cons (vs_if (vt_w (vw_or (vt_cmp (c_ne hr0.units) (ve_var 5) (ve_var 3) (nomark _)) (vw_or (vt_cmp (c_ne hr0.units) (ve_var 6) (ve_var 4) (nomark _)) (vw_or (vt_not (vt_of (ve_isi (T := .list) (ve_var 7) (ve_ty rfl z_list rfl) rfl z_isinstance))) (vw_or1 (vt_cmp (c_ne hr0.units) (ve_len (ve_var 7) rfl z_len) (ve_len (ve_var 3) rfl z_len) (nomark _)))))))
    (vb_one (vs_ret ve_bl))
    vb_nil)
    (vb_cons (vs_if (vt_not (vt_of (ve_calle (i := 16) C__law_same hr0 rfl (va_cons (ve_calle (i := 73) C_carried hr0 rfl (va_cons (ve_tuple (ve_var 3) rfl z_tuple) (va_cons (ve_tuple (ve_var 4) rfl z_tuple) va_nil))) (va_cons (ve_var 7) va_nil)))))
    (vb_one (vs_ret ve_bl))
    vb_nil)
    (vb_cons (vs_for PassesOwn.never rfl (vi_range1 rfl z_range (ve_len (ve_var 3) rfl z_len)) (vg_name nd rfl (Or.inr rfl) (Or.inl rfl))
    (vb_cons (vs_if (vt_w (vw_or (vt_not (vt_of (ve_isi (T := .tuple) (ve_ix (ve_var 7) (ve_var 8)) (ve_ty rfl z_tuple rfl) rfl z_isinstance))) (vw_or1 (vt_cmp (c_ne hr0.units) (ve_sl (ve_ix (ve_var 7) (ve_var 8)) vo_none (vo_some (ve_len (ve_ix (ve_var 3) (ve_var 8)) rfl z_len))) (ve_ix (ve_var 3) (ve_var 8)) (nomark _)))))
    (vb_one (vs_ret ve_bl))
    vb_nil)
    (vb_cons (vs_set nd rfl (Or.inl rfl) (ve_list (ve_sl (ve_ix (ve_var 7) (ve_var 8)) (vo_some (ve_len (ve_ix (ve_var 3) (ve_var 8)) rfl z_len)) vo_none) rfl z_list) rfl (Or.inr rfl))
    (vb_cons (vs_if (vt_w (vw_or (vt_cmp (c_ne hr0.units) (ve_var 9) (ve_sorted (ve_var 9) rfl z_sorted) (nomark _)) (vw_or (vt_cmp (c_ne hr0.units) (ve_comp (own := [("_law_name", 10)]) (sl := [10]) rfl nd  (blkOk_by (by first | (show blkC N_law (defScope s_law) _ _ = true; decide +kernel) | kernel_rfl)) (vi_e (ve_var 9)) (by decide) (fun _ _ _ _ _ => (vg_name nd rfl (Or.inl rfl) (Or.inr rfl))) (fun _ _ _ _ _ => (vts_one (vt_cmp c_in (ve_var 10) (ve_ix (ve_var 3) (ve_var 8)) (by rfl)))) (fun _ _ _ _ _ => (ve_var 10))) (ve_lst va_nil) (nomark _)) (vw_or1 (vt_cmp (c_ne hr0.units) (ve_lenSet rfl rfl z_len rfl z_set (ve_var 9)) (ve_len (ve_var 9) rfl z_len) (nomark _))))))
    (vb_one (vs_ret ve_bl))
    vb_nil)
    (vb_one (vs_for PassesOwn.never rfl (vi_e (ve_var 9)) (vg_name nd rfl (Or.inr rfl) (Or.inl rfl))
    (vb_cons (vs_set nd rfl (Or.inl rfl) (ve_bin o_add (ve_bin o_add (ve_sl (ve_var 7) vo_none (vo_some (ve_var 8))) (ve_lst (va_cons (ve_tuple (ve_comp (own := [("_law_one", 12)]) (sl := [12]) rfl nd  (blkOk_by (by first | (show blkC N_law (defScope s_law) _ _ = true; decide +kernel) | kernel_rfl)) (vi_e (ve_ix (ve_var 7) (ve_var 8))) (by decide) (fun _ _ _ _ _ => (vg_name nd rfl (Or.inl rfl) (Or.inr rfl))) (fun _ _ _ _ _ => (vts_one (vt_cmp (c_ne hr0.units) (ve_var 12) (ve_var 10) (nomark _)))) (fun _ _ _ _ _ => (ve_var 12))) rfl z_tuple) va_nil))) (ve_sl (ve_var 7) (vo_some (ve_bin o_add (ve_var 8) ve_int)) vo_none)) rfl (Or.inr rfl))
    (vb_one (vs_if (vt_cmp c_notin (ve_var 10) (ve_calle (i := 77) C__law_scattered hr0 rfl (va_cons (ve_var 11) (va_cons (ve_var 4) va_nil))) (by rfl))
    (vb_one (vs_ret ve_bl))
    vb_nil)))))))))
    (vb_cons (vs_if (vt_w (vw_or (vt_not (vt_of (ve_calle (i := 79) C__law_fits hr0 rfl (va_cons (ve_var 7) (va_cons (ve_var 4) va_nil))))) (vw_or1 (vt_w (vw_and (vt_of (ve_calle (i := 79) C__law_fits hr0 rfl (va_cons (ve_var 3) (va_cons (ve_var 4) va_nil)))) (vw_and1 (vt_cmp (c_ne hr0.units) (ve_var 7) (ve_var 3) (nomark _))))))))
    (vb_one (vs_ret ve_bl))
    vb_nil)
    (vb_one (vs_if (vt_cmp (c_ne hr0.units) (ve_calle (i := 74) C__law_union hr0 rfl (va_cons (ve_var 7) va_nil)) (ve_calle (i := 74) C__law_union hr0 rfl (va_cons (ve_var 3) va_nil)) (nomark _))
    (vb_one (vs_ret ve_bl))
    vb_nil)))))))))))
    (vb_one (vs_ret ve_bl))))
theorem b__law_bag {n : Nat} (z_int : mg "int" = none) (z_len : mg "len" = none) {cdv : Value} {A : Around} {outer : List Env} {s : Shared} {H : Hp} {E : XK} {f : Addr} (hr : Room (2 * n + 41) (A.deeper (envOfC "_law_bag" (defScope s__law_bag) s.heap.objs.size f cdv))) (dv : Dv base P (envOfC "_law_bag" (defScope s__law_bag) s.heap.objs.size f cdv :: outer) (A.deeper (envOfC "_law_bag" (defScope s__law_bag) s.heap.objs.size f cdv))) :
    VB (cxOf CX0 P w K mg base N__law_bag "_law_bag" (defScope s__law_bag) f cdv A outer s H E).nox (defBody s__law_bag) (T__law_bag (VM.callN FT n)) := by
  have nd := (sc__law_bag).nd
  have hr0 : Room (2 * n + 40) (A.deeper (envOfC "_law_bag" (defScope s__law_bag) s.heap.objs.size f cdv)) := hr.mono (Nat.le_succ _)
  exact (vb_cons (vs_setc (own := [("_law_cell", 2)]) (sl := [2]) rfl nd rfl rfl (sw_true rfl rfl rfl rfl) (blkOk_by (by first | (show blkC N__law_bag (defScope s__law_bag) _ _ = true; decide +kernel) | kernel_rfl)) (vi_e (ve_sl (ve_var 0) vo_none (vo_some ve_int))) (by decide) (fun _ _ _ _ _ => (vg_name nd rfl (Or.inl rfl) (Or.inr rfl))) (fun _ _ _ _ _ => vts_nil) (fun _ _ _ _ _ => (ve_int_ (ve_var 2) rfl z_int)))
    (vb_cons (vs_set nd rfl (Or.inl rfl) (ve_bin o_add ve_int (ve_bin o_mul ve_int (ve_len (ve_var 1) rfl z_len))) rfl (Or.inr rfl))
    (vb_cons (vs_for PassesOwn.never rfl (vi_e (ve_var 1)) (vg_name nd rfl (Or.inl rfl) (Or.inr rfl))
    (vb_one (vs_set nd rfl (Or.inl rfl) (ve_bin o_mod (ve_int_ (ve_bin o_add (ve_bin o_mul (ve_var 3) ve_int) (ve_var 2)) rfl z_int) ve_int) rfl (Or.inr rfl))))
    (vb_one (vs_ret (ve_lstM (va_cons (ve_var 1) (va_cons ve_int (va_cons ve_int (va_cons (ve_var 3) (va_cons ve_int va_nil)))))))))))
theorem b__law_take {n : Nat} (z_int : mg "int" = none) (z_len : mg "len" = none) {cdv : Value} {A : Around} {outer : List Env} {s : Shared} {H : Hp} {E : XK} {f : Addr} (hr : Room (2 * n + 41) (A.deeper (envOfC "_law_take" (defScope s__law_take) s.heap.objs.size f cdv))) (dv : Dv base P (envOfC "_law_take" (defScope s__law_take) s.heap.objs.size f cdv :: outer) (A.deeper (envOfC "_law_take" (defScope s__law_take) s.heap.objs.size f cdv))) :
    VB (cxOf CX0 P w K mg base N__law_take "_law_take" (defScope s__law_take) f cdv A outer s H E).nox (defBody s__law_take) (T__law_take (VM.callN FT n)) := by
  have nd := (sc__law_take).nd
  have hr0 : Room (2 * n + 40) (A.deeper (envOfC "_law_take" (defScope s__law_take) s.heap.objs.size f cdv)) := hr.mono (Nat.le_succ _)
  exact (vb_cons (vs_setix (ve_bin o_add (ve_ix (ve_var 0) ve_int) ve_int) (ve_var 0) ve_int)
    (vb_cons (vs_if (vt_w (vw_and (vt_cmp c_lt (ve_ix (ve_var 0) ve_int) ve_int (nomark _)) (vw_and1 (vt_cmp c_lt (ve_ix (ve_var 0) ve_int) (ve_len (ve_ix (ve_var 0) ve_int) rfl z_len) (nomark _)))))
    (vb_cons (vs_set nd rfl (Or.inl rfl) (ve_ix (ve_ix (ve_var 0) ve_int) (ve_ix (ve_var 0) ve_int)) rfl (Or.inr rfl))
    (vb_cons (vs_setix (ve_bin o_add (ve_ix (ve_var 0) ve_int) ve_int) (ve_var 0) ve_int)
    (vb_cons (vs_setix (ve_bin o_mod (ve_int_ (ve_bin o_add (ve_bin o_add (ve_bin o_mul (ve_ix (ve_var 0) ve_int) ve_int) (ve_bin o_mul (ve_bin o_mod (ve_int_ (ve_var 2) rfl z_int) ve_int) ve_int)) (ve_ix (ve_var 0) ve_int)) rfl z_int) ve_int) (ve_var 0) ve_int)
    (vb_one (vs_setix (ve_if (vt_cmp c_ge (ve_var 2) (ve_bin o_pow ve_int ve_int) (nomark _)) (ve_var 2) ve_int) (ve_var 0) ve_int)))))
    vb_nil)
    (vb_cons (vs_if (vt_cmp c_gt (ve_ix (ve_var 0) ve_int) ve_int (nomark _))
    (vb_cons (vs_set nd rfl (Or.inl rfl) (ve_bin o_mod (ve_int_ (ve_ix (ve_var 0) ve_int) rfl z_int) (ve_var 1)) rfl (Or.inr rfl))
    (vb_cons (vs_setix (ve_bin (o_fdiv dv) (ve_ix (ve_var 0) ve_int) (ve_var 1)) (ve_var 0) ve_int)
    (vb_one (vs_ret (ve_var 3)))))
    vb_nil)
    (vb_cons (vs_set nd rfl (Or.inl rfl) (ve_bin o_mod (ve_int_ (ve_bin o_add (ve_ix (ve_var 0) ve_int) (ve_bin o_mul (ve_ix (ve_var 0) ve_int) ve_int)) rfl z_int) ve_int) rfl (Or.inr rfl))
    (vb_cons (vs_setix (ve_bin o_mod (ve_int_ (ve_bin o_add (ve_bin o_add (ve_bin o_mul (ve_var 4) (ve_var 4)) (ve_bin o_mul (ve_var 4) ve_int)) ve_int) rfl z_int) ve_int) (ve_var 0) ve_int)
    (vb_one (vs_ret (ve_bin o_mod (ve_int_ (ve_bin o_add (ve_bin (o_fdiv dv) (ve_ix (ve_var 0) ve_int) ve_int) (ve_bin o_mul (ve_bin o_mod (ve_int_ (ve_ix (ve_var 0) ve_int) rfl z_int) ve_int) ve_int)) rfl z_int) (ve_var 1)))))))))
theorem b__law_of {n : Nat} (C__law_take : Ce P w K mg base n "_law_take" 1 P__law_take) (z_len : mg "len" = none) {cdv : Value} {A : Around} {outer : List Env} {s : Shared} {H : Hp} {E : XK} {f : Addr} (hr : Room (2 * n + 41) (A.deeper (envOfC "_law_of" (defScope s__law_of) s.heap.objs.size f cdv))) (dv : Dv base P (envOfC "_law_of" (defScope s__law_of) s.heap.objs.size f cdv :: outer) (A.deeper (envOfC "_law_of" (defScope s__law_of) s.heap.objs.size f cdv))) :
    VB (cxOf CX0 P w K mg base N__law_of "_law_of" (defScope s__law_of) f cdv A outer s H E).nox (defBody s__law_of) (T__law_of (VM.callN FT n)) := by
  have nd := (sc__law_of).nd
  have hr0 : Room (2 * n + 40) (A.deeper (envOfC "_law_of" (defScope s__law_of) s.heap.objs.size f cdv)) := hr.mono (Nat.le_succ _)
  exact (vb_one (vs_ret (ve_ix (ve_var 1) (ve_calle (i := 1) C__law_take hr0 rfl (va_cons (ve_var 0) (va_cons (ve_len (ve_var 1) rfl z_len) va_nil))))))
theorem b__law_names {n : Nat} (C__law_of : Ce P w K mg base n "_law_of" 2 P__law_of) (C__law_take : Ce P w K mg base n "_law_take" 1 P__law_take) (z_int : mg "int" = none) (z_len : mg "len" = none) (z_range : mg "range" = none) {cdv : Value} {A : Around} {outer : List Env} {s : Shared} {H : Hp} {E : XK} {f : Addr} (hr : Room (2 * n + 41) (A.deeper (envOfC "_law_names" (defScope s__law_names) s.heap.objs.size f cdv))) (dv : Dv base P (envOfC "_law_names" (defScope s__law_names) s.heap.objs.size f cdv :: outer) (A.deeper (envOfC "_law_names" (defScope s__law_names) s.heap.objs.size f cdv))) :
    VB (cxOf CX0 P w K mg base N__law_names "_law_names" (defScope s__law_names) f cdv A outer s H E).nox (defBody s__law_names) (T__law_names (VM.callN FT n)) := by
  have nd := (sc__law_names).nd
  have hr0 : Room (2 * n + 40) (A.deeper (envOfC "_law_names" (defScope s__law_names) s.heap.objs.size f cdv)) := hr.mono (Nat.le_succ _)
  exact (vb_cons (vs_set nd rfl (Or.inr rfl) ve_str rfl (Or.inl rfl))
    (vb_cons (vs_set nd rfl (Or.inr rfl) (ve_join ve_str (ve_comp (own := [("_law_k", 4)]) (sl := [4]) rfl nd  (blkOk_by (by first | (show blkC N__law_names (defScope s__law_names) _ _ = true; decide +kernel) | kernel_rfl)) (vi_range1 rfl z_range (ve_calle (i := 1) C__law_take hr0 rfl (va_cons (ve_var 0) (va_cons ve_int va_nil)))) (by decide) (fun _ _ _ _ _ => (vg_name nd rfl (Or.inl rfl) (Or.inr rfl))) (fun _ _ _ _ _ => vts_nil) (fun _ _ _ _ _ => (ve_calle (i := 2) C__law_of hr0 rfl (va_cons (ve_var 0) (va_cons (ve_var 2) va_nil)))))) rfl (Or.inl rfl))
    (vb_cons (vs_asg (sl := [5, 6]) (ve_tup (va_cons (ve_calle (i := 1) C__law_take hr0 rfl (va_cons (ve_var 0) (va_cons (ve_bin o_add (ve_len (ve_var 3) rfl z_len) ve_int) va_nil))) (va_cons (ve_calle (i := 1) C__law_take hr0 rfl (va_cons (ve_var 0) (va_cons ve_int va_nil))) va_nil))) (vg_tup rfl (vgs_cons (vg_name nd rfl (Or.inr rfl) (Or.inl rfl)) (vgs_cons (vg_name nd rfl (Or.inr rfl) (Or.inl rfl)) vgs_nil))))
    (vb_cons (vs_set nd rfl (Or.inr rfl) (ve_calle (i := 2) C__law_of hr0 rfl (va_cons (ve_var 0) (va_cons (ve_lst (va_cons ve_int (va_cons ve_int (va_cons ve_int (va_cons ve_int (va_cons ve_int (va_cons ve_int (va_cons ve_int (va_cons ve_int (va_cons ve_int (va_cons ve_int va_nil))))))))))) va_nil))) rfl (Or.inl rfl))
    (vb_one (vs_ret (ve_comp (own := [("_law_k", 4)]) (sl := [4]) rfl nd  (blkOk_by (by first | (show blkC N__law_names (defScope s__law_names) _ _ = true; decide +kernel) | kernel_rfl)) (vi_range1 rfl z_range (ve_var 1)) (by decide) (fun _ _ _ _ _ => (vg_name nd rfl (Or.inl rfl) (Or.inr rfl))) (fun _ _ _ _ _ => vts_nil) (fun _ _ _ _ _ => (ve_bin o_add (ve_bin o_add (ve_sl (ve_var 3) vo_none (vo_some (ve_var 5))) (ve_ix (ve_var 2) (ve_bin o_mod (ve_int_ (ve_bin o_add (ve_var 6) (ve_bin o_mul (ve_var 4) (ve_var 7))) rfl z_int) ve_int))) (ve_sl (ve_var 3) (vo_some (ve_var 5)) vo_none))))))))))
theorem b__law_mixed {n : Nat} (C__law_take : Ce P w K mg base n "_law_take" 1 P__law_take) (z_len : mg "len" = none) {cdv : Value} {A : Around} {outer : List Env} {s : Shared} {H : Hp} {E : XK} {f : Addr} (hr : Room (2 * n + 41) (A.deeper (envOfC "_law_mixed" (defScope s__law_mixed) s.heap.objs.size f cdv))) (dv : Dv base P (envOfC "_law_mixed" (defScope s__law_mixed) s.heap.objs.size f cdv :: outer) (A.deeper (envOfC "_law_mixed" (defScope s__law_mixed) s.heap.objs.size f cdv))) :
    VB (cxOf CX0 P w K mg base N__law_mixed "_law_mixed" (defScope s__law_mixed) f cdv A outer s H E).nox (defBody s__law_mixed) (T__law_mixed (VM.callN FT n)) := by
  have nd := (sc__law_mixed).nd
  have hr0 : Room (2 * n + 40) (A.deeper (envOfC "_law_mixed" (defScope s__law_mixed) s.heap.objs.size f cdv)) := hr.mono (Nat.le_succ _)
  exact (vb_cons (vs_set nd rfl (Or.inl rfl) (ve_lstM va_nil) rfl (Or.inr rfl))
    (vb_cons (vs_for PassesOwn.never rfl (vi_e (ve_var 1)) (vg_name nd rfl (Or.inl rfl) (Or.inr rfl))
    (vb_one (vs_expr (ve_insert (ve_var 2) (ve_calle (i := 1) C__law_take hr0 rfl (va_cons (ve_var 0) (va_cons (ve_bin o_add (ve_len (ve_var 2) rfl z_len) ve_int) va_nil))) (ve_var 3)))))
    (vb_one (vs_ret (ve_var 2)))))
theorem b__law_faces {n : Nat} (C__law_mixed : Ce P w K mg base n "_law_mixed" 17 P__law_mixed) (C__law_take : Ce P w K mg base n "_law_take" 1 P__law_take) (z_len : mg "len" = none) (z_list : mg "list" = none) (z_min : mg "min" = none) (z_range : mg "range" = none) {cdv : Value} {A : Around} {outer : List Env} {s : Shared} {H : Hp} {E : XK} {f : Addr} (hr : Room (2 * n + 41) (A.deeper (envOfC "_law_faces" (defScope s__law_faces) s.heap.objs.size f cdv))) (dv : Dv base P (envOfC "_law_faces" (defScope s__law_faces) s.heap.objs.size f cdv :: outer) (A.deeper (envOfC "_law_faces" (defScope s__law_faces) s.heap.objs.size f cdv))) :
    VB (cxOf CX0 P w K mg base N__law_faces "_law_faces" (defScope s__law_faces) f cdv A outer s H E).nox (defBody s__law_faces) (T__law_faces (VM.callN FT n)) := by
  have nd := (sc__law_faces).nd
  have hr0 : Room (2 * n + 40) (A.deeper (envOfC "_law_faces" (defScope s__law_faces) s.heap.objs.size f cdv)) := hr.mono (Nat.le_succ _)
  exact (vb_cons (vs_par3 rfl nd rfl rfl rfl (by decide) (by decide) (by decide) rfl rfl rfl (va_cons (ve_lstM va_nil) (va_cons (ve_lstM va_nil) (va_cons (ve_listM (ve_var 2) rfl z_list) va_nil))) rfl)
    (vb_cons (vs_for PassesOwn.never rfl (vi_range1 rfl z_range (ve_var 1)) (vg_name nd rfl (Or.inl rfl) (Or.inr rfl))
    (vb_cons (vs_set nd rfl (Or.inl rfl) (ve_lstM va_nil) rfl (Or.inr rfl))
    (vb_cons (vs_if (vt_cmp c_gt (ve_var 7) ve_int (nomark _))
    (vb_cons (vs_set nd rfl (Or.inl rfl) (ve_calle (i := 1) C__law_take hr0 rfl (va_cons (ve_var 0) (va_cons (ve_var 7) va_nil))) rfl (Or.inr rfl))
    (vb_cons (vs_expr (ve_append (ve_var 5) (ve_tup (va_cons (ve_var 9) (va_cons (ve_var 7) va_nil)))))
    (vb_one (vs_set nd rfl (Or.inl rfl) (ve_slM (ve_calle (i := 17) C__law_mixed hr0 rfl (va_cons (ve_var 0) (va_cons (ve_ix (ve_var 4) (ve_var 9)) va_nil))) vo_none (vo_some (ve_calle (i := 1) C__law_take hr0 rfl (va_cons (ve_var 0) (va_cons (ve_bin o_add (ve_min2 rfl (ve_len (ve_ix (ve_var 4) (ve_var 9)) rfl z_len) (ve_var 3) rfl z_min) ve_int) va_nil))))) rfl (Or.inr rfl)))))
    vb_nil)
    (vb_cons (vs_while PassesOwn.never (vt_w (vw_and (vt_cmp (c_ne hr0.units) (ve_var 6) (ve_lst va_nil) (nomark _)) (vw_and (vt_cmp c_lt (ve_len (ve_var 8) rfl z_len) (ve_var 3) (nomark _)) (vw_and1 (vt_cmp c_lt (ve_calle (i := 1) C__law_take hr0 rfl (va_cons (ve_var 0) (va_cons ve_int va_nil))) (ve_if (vt_cmp (c_eq hr0.units) (ve_var 8) (ve_lst va_nil) (nomark _)) ve_int ve_int) (nomark _))))))
    (vb_one (vs_expr (ve_append (ve_var 8) (ve_pop (ve_var 6))))))
    (vb_one (vs_expr (ve_append (ve_var 4) (ve_calle (i := 17) C__law_mixed hr0 rfl (va_cons (ve_var 0) (va_cons (ve_var 8) va_nil))))))))))
    (vb_one (vs_ret (ve_tup (va_cons (ve_var 4) (va_cons (ve_var 5) va_nil)))))))
theorem b__law_family {n : Nat} (C__law_faces : Ce P w K mg base n "_law_faces" 61 P__law_faces) (C__law_mixed : Ce P w K mg base n "_law_mixed" 17 P__law_mixed) (C__law_names : Ce P w K mg base n "_law_names" 46 P__law_names) (C__law_of : Ce P w K mg base n "_law_of" 2 P__law_of) (C__law_take : Ce P w K mg base n "_law_take" 1 P__law_take) (z_int : mg "int" = none) (z_len : mg "len" = none) (z_range : mg "range" = none) {cdv : Value} {A : Around} {outer : List Env} {s : Shared} {H : Hp} {E : XK} {f : Addr} (hr : Room (2 * n + 41) (A.deeper (envOfC "_law_family" (defScope s__law_family) s.heap.objs.size f cdv))) (dv : Dv base P (envOfC "_law_family" (defScope s__law_family) s.heap.objs.size f cdv :: outer) (A.deeper (envOfC "_law_family" (defScope s__law_family) s.heap.objs.size f cdv))) :
    VB (cxOf CX0 P w K mg base N__law_family "_law_family" (defScope s__law_family) f cdv A outer s H E).nox (defBody s__law_family) (T__law_family (VM.callN FT n)) := by
  have nd := (sc__law_family).nd
  have hr0 : Room (2 * n + 40) (A.deeper (envOfC "_law_family" (defScope s__law_family) s.heap.objs.size f cdv)) := hr.mono (Nat.le_succ _)
  exact (vb_cons (vs_set nd rfl (Or.inr rfl) (ve_calle (i := 17) C__law_mixed hr0 rfl (va_cons (ve_var 0) (va_cons (ve_calle (i := 46) C__law_names hr0 rfl (va_cons (ve_var 0) (va_cons ve_int va_nil))) va_nil))) rfl (Or.inl rfl))
    (vb_cons (vs_set nd rfl (Or.inl rfl) (ve_calle (i := 1) C__law_take hr0 rfl (va_cons (ve_var 0) (va_cons ve_int va_nil))) rfl (Or.inr rfl))
    (vb_cons (vs_if (vt_cmp c_lt (ve_var 3) ve_int (nomark _))
    (vb_one (vs_ret (ve_ix (ve_calle (i := 61) C__law_faces hr0 rfl (va_cons (ve_var 0) (va_cons (ve_bin o_add ve_int (ve_calle (i := 1) C__law_take hr0 rfl (va_cons (ve_var 0) (va_cons (ve_var 1) va_nil)))) (va_cons (ve_var 2) (va_cons ve_int va_nil))))) ve_int)))
    vb_nil)
    (vb_cons (vs_set nd rfl (Or.inl rfl) (ve_lstM va_nil) rfl (Or.inr rfl))
    (vb_cons (vs_if (vt_cmp (c_eq hr0.units) (ve_var 3) ve_int (nomark _))
    (vb_cons (vs_set nd rfl (Or.inr rfl) (ve_bin o_add ve_int (ve_calle (i := 1) C__law_take hr0 rfl (va_cons (ve_var 0) (va_cons ve_int va_nil)))) rfl (Or.inl rfl))
    (vb_one (vs_setcM (own := [("_law_k", 6)]) (sl := [6]) rfl nd rfl rfl (sw_true rfl rfl rfl rfl) (blkOk_by (by first | (show blkC N__law_family (defScope s__law_family) _ _ = true; decide +kernel) | kernel_rfl)) (vi_range1 rfl z_range (ve_var 5)) (by decide) (fun _ _ _ _ _ => (vg_name nd rfl (Or.inl rfl) (Or.inr rfl))) (fun _ _ _ _ _ => vts_nil) (fun _ _ _ _ _ => (ve_lst (va_cons (ve_ix (ve_var 2) (ve_var 6)) (va_cons (ve_ix (ve_var 2) (ve_bin o_mod (ve_int_ (ve_bin o_add (ve_var 6) ve_int) rfl z_int) (ve_var 5))) va_nil)))))))
    (vb_one (vs_if (vt_cmp (c_eq hr0.units) (ve_var 3) ve_int (nomark _))
    (vb_cons (vs_set nd rfl (Or.inr rfl) (ve_bin o_add ve_int (ve_calle (i := 1) C__law_take hr0 rfl (va_cons (ve_var 0) (va_cons ve_int va_nil)))) rfl (Or.inl rfl))
    (vb_one (vs_setcM (own := [("_law_k", 6)]) (sl := [6]) rfl nd rfl rfl (sw_true rfl rfl rfl rfl) (blkOk_by (by first | (show blkC N__law_family (defScope s__law_family) _ _ = true; decide +kernel) | kernel_rfl)) (vi_range1 rfl z_range (ve_var 5)) (by decide) (fun _ _ _ _ _ => (vg_name nd rfl (Or.inl rfl) (Or.inr rfl))) (fun _ _ _ _ _ => vts_nil) (fun _ _ _ _ _ => (ve_bin o_add (ve_sl (ve_var 2) vo_none (vo_some (ve_var 6))) (ve_sl (ve_var 2) (vo_some (ve_bin o_add (ve_var 6) ve_int)) (vo_some (ve_var 5))))))))
    (vb_one (vs_setcM (own := [("_law_k", 6)]) (sl := [6]) rfl nd rfl rfl (sw_true rfl rfl rfl rfl) (blkOk_by (by first | (show blkC N__law_family (defScope s__law_family) _ _ = true; decide +kernel) | kernel_rfl)) (vi_range1 rfl z_range (ve_bin o_add ve_int (ve_calle (i := 1) C__law_take hr0 rfl (va_cons (ve_var 0) (va_cons ve_int va_nil))))) (by decide) (fun _ _ _ _ _ => (vg_name nd rfl (Or.inl rfl) (Or.inr rfl))) (fun _ _ _ _ _ => vts_nil) (fun _ _ _ _ _ => (ve_sl (ve_calle (i := 17) C__law_mixed hr0 rfl (va_cons (ve_var 0) (va_cons (ve_sl (ve_var 2) vo_none (vo_some (ve_bin o_add ve_int (ve_calle (i := 1) C__law_take hr0 rfl (va_cons (ve_var 0) (va_cons ve_int va_nil)))))) va_nil))) vo_none (vo_some (ve_calle (i := 1) C__law_take hr0 rfl (va_cons (ve_var 0) (va_cons ve_int va_nil)))))))))))
    (vb_cons (vs_set nd rfl (Or.inl rfl) (ve_sl (ve_var 2) (vo_some ve_int) vo_none) rfl (Or.inr rfl))
    (vb_cons (vs_for PassesOwn.never rfl (vi_range1 rfl z_range (ve_calle (i := 1) C__law_take hr0 rfl (va_cons (ve_var 0) (va_cons ve_int va_nil)))) (vg_name nd rfl (Or.inl rfl) (Or.inr rfl))
    (vb_cons (vs_set nd rfl (Or.inl rfl) (ve_calle (i := 1) C__law_take hr0 rfl (va_cons (ve_var 0) (va_cons (ve_len (ve_var 4) rfl z_len) va_nil))) rfl (Or.inr rfl))
    (vb_cons (vs_set nd rfl (Or.inl rfl) (ve_calle (i := 2) C__law_of hr0 rfl (va_cons (ve_var 0) (va_cons (ve_var 7) va_nil))) rfl (Or.inr rfl))
    (vb_one (vs_if (vt_cmp c_notin (ve_var 9) (ve_ix (ve_var 4) (ve_var 8)) (by rfl))
    (vb_one (vs_setix (ve_bin o_add (ve_ix (ve_var 4) (ve_var 8)) (ve_lst (va_cons (ve_var 9) va_nil))) (ve_var 4) (ve_var 8)))
    vb_nil)))))
    (vb_cons (vs_if (vt_cmp (c_eq hr0.units) (ve_calle (i := 1) C__law_take hr0 rfl (va_cons (ve_var 0) (va_cons ve_int va_nil))) ve_int (nomark _))
    (vb_one (vs_set nd rfl (Or.inl rfl) (ve_bin o_add (ve_var 4) (ve_lst (va_cons (ve_sl (ve_calle (i := 2) C__law_of hr0 rfl (va_cons (ve_var 0) (va_cons (ve_var 4) va_nil))) vo_none (vo_some (ve_calle (i := 1) C__law_take hr0 rfl (va_cons (ve_var 0) (va_cons ve_int va_nil))))) va_nil))) rfl (Or.inr rfl)))
    vb_nil)
    (vb_one (vs_ret (ve_calle (i := 17) C__law_mixed hr0 rfl (va_cons (ve_var 0) (va_cons (ve_comp (own := [("_law_face", 10)]) (sl := [10]) rfl nd  (blkOk_by (by first | (show blkC N__law_family (defScope s__law_family) _ _ = true; decide +kernel) | kernel_rfl)) (vi_e (ve_var 4)) (by decide) (fun _ _ _ _ _ => (vg_name nd rfl (Or.inl rfl) (Or.inr rfl))) (fun _ _ _ _ _ => vts_nil) (fun _ _ _ _ _ => (ve_calle (i := 17) C__law_mixed hr0 rfl (va_cons (ve_var 0) (va_cons (ve_var 10) va_nil))))) va_nil)))))))))))))
theorem b__law_tuples {n : Nat} (z_tuple : mg "tuple" = none) {cdv : Value} {A : Around} {outer : List Env} {s : Shared} {H : Hp} {E : XK} {f : Addr} (hr : Room (2 * n + 41) (A.deeper (envOfC "_law_tuples" (defScope s__law_tuples) s.heap.objs.size f cdv))) (dv : Dv base P (envOfC "_law_tuples" (defScope s__law_tuples) s.heap.objs.size f cdv :: outer) (A.deeper (envOfC "_law_tuples" (defScope s__law_tuples) s.heap.objs.size f cdv))) :
    VB (cxOf CX0 P w K mg base N__law_tuples "_law_tuples" (defScope s__law_tuples) f cdv A outer s H E).nox (defBody s__law_tuples) (T__law_tuples (VM.callN FT n)) := by
  have nd := (sc__law_tuples).nd
  have hr0 : Room (2 * n + 40) (A.deeper (envOfC "_law_tuples" (defScope s__law_tuples) s.heap.objs.size f cdv)) := hr.mono (Nat.le_succ _)
  exact (vb_one (vs_ret (ve_comp (own := [("_law_face", 1)]) (sl := [1]) rfl nd  (blkOk_by (by first | (show blkC N__law_tuples (defScope s__law_tuples) _ _ = true; decide +kernel) | kernel_rfl)) (vi_e (ve_var 0)) (by decide) (fun _ _ _ _ _ => (vg_name nd rfl (Or.inl rfl) (Or.inr rfl))) (fun _ _ _ _ _ => vts_nil) (fun _ _ _ _ _ => (ve_tuple (ve_var 1) rfl z_tuple)))))
theorem b__law_drawn_ties {n : Nat} (C__law_mixed : Ce P w K mg base n "_law_mixed" 17 P__law_mixed) (C__law_take : Ce P w K mg base n "_law_take" 1 P__law_take) (z_list : mg "list" = none) (z_range : mg "range" = none) {cdv : Value} {A : Around} {outer : List Env} {s : Shared} {H : Hp} {E : XK} {f : Addr} (hr : Room (2 * n + 41) (A.deeper (envOfC "_law_drawn_ties" (defScope s__law_drawn_ties) s.heap.objs.size f cdv))) (dv : Dv base P (envOfC "_law_drawn_ties" (defScope s__law_drawn_ties) s.heap.objs.size f cdv :: outer) (A.deeper (envOfC "_law_drawn_ties" (defScope s__law_drawn_ties) s.heap.objs.size f cdv))) :
    VB (cxOf CX0 P w K mg base N__law_drawn_ties "_law_drawn_ties" (defScope s__law_drawn_ties) f cdv A outer s H E).nox (defBody s__law_drawn_ties) (T__law_drawn_ties (VM.callN FT n)) := by
  have nd := (sc__law_drawn_ties).nd
  have hr0 : Room (2 * n + 40) (A.deeper (envOfC "_law_drawn_ties" (defScope s__law_drawn_ties) s.heap.objs.size f cdv)) := hr.mono (Nat.le_succ _)
  exact (vb_cons (vs_set nd rfl (Or.inl rfl) (ve_calle (i := 17) C__law_mixed hr0 rfl (va_cons (ve_var 0) (va_cons (ve_rangeL rfl (ve_var 1) rfl z_list rfl z_range) va_nil))) rfl (Or.inr rfl))
    (vb_cons (vs_set nd rfl (Or.inl rfl) (ve_lstM va_nil) rfl (Or.inr rfl))
    (vb_cons (vs_for PassesOwn.never rfl (vi_range2 rfl z_range ve_int (ve_var 1)) (vg_name nd rfl (Or.inl rfl) (Or.inr rfl))
    (vb_cons (vs_par rfl nd rfl rfl (by decide) rfl rfl (va_cons (ve_ix (ve_var 2) (ve_var 4)) (va_cons (ve_ix (ve_var 2) (ve_calle (i := 1) C__law_take hr0 rfl (va_cons (ve_var 0) (va_cons (ve_var 4) va_nil)))) va_nil)) rfl)
    (vb_one (vs_expr (ve_append (ve_var 3) (ve_if (vt_cmp (c_eq hr0.units) (ve_calle (i := 1) C__law_take hr0 rfl (va_cons (ve_var 0) (va_cons ve_int va_nil))) ve_int (nomark _)) (ve_tup (va_cons (ve_var 5) (va_cons (ve_var 6) va_nil))) (ve_tup (va_cons (ve_var 6) (va_cons (ve_var 5) va_nil)))))))))
    (vb_one (vs_ret (ve_calle (i := 17) C__law_mixed hr0 rfl (va_cons (ve_var 0) (va_cons (ve_var 3) va_nil))))))))
theorem b_is_name {n : Nat} (g_LETTERS : ∃ t, mg "LETTERS" = some (.str ⟨[97, 98, 99, 100, 101, 102, 103, 104, 105, 106, 107, 108, 109, 110, 111, 112, 113, 114, 115, 116, 117, 118, 119, 120, 121, 122].toArray⟩ t)) (g_MOST_NAME : ∃ t, mg "MOST_NAME" = some (.int 6 t)) (z_all : mg "all" = none) (z_isinstance : mg "isinstance" = none) (z_len : mg "len" = none) (z_str : mg "str" = none) {cdv : Value} {A : Around} {outer : List Env} {s : Shared} {H : Hp} {E : XK} {f : Addr} (hr : Room (2 * n + 41) (A.deeper (envOfC "is_name" (defScope s_is_name) s.heap.objs.size f cdv))) (dv : Dv base P (envOfC "is_name" (defScope s_is_name) s.heap.objs.size f cdv :: outer) (A.deeper (envOfC "is_name" (defScope s_is_name) s.heap.objs.size f cdv))) :
    VB (cxOf CX0 P w K mg base N_is_name "is_name" (defScope s_is_name) f cdv A outer s H E).nox (defBody s_is_name) (T_is_name (VM.callN FT n)) := by
  have nd := (sc_is_name).nd
  have hr0 : Room (2 * n + 40) (A.deeper (envOfC "is_name" (defScope s_is_name) s.heap.objs.size f cdv)) := hr.mono (Nat.le_succ _)
  exact (vb_cons (vs_if (vt_w (vw_or (vt_not (vt_of (ve_isi (T := .str) (ve_var 0) (ve_ty rfl z_str rfl) rfl z_isinstance))) (vw_or1 (vt_not (vt_chain c_le c_le ve_int (ve_len (ve_var 0) rfl z_len) (ve_gint rfl g_MOST_NAME) (by with_unfolding_all rfl))))))
    (vb_one (vs_ret ve_bl))
    vb_nil)
    (vb_one (vs_ret (ve_all rfl (ve_comp (own := [("sign", 1)]) (sl := [1]) rfl nd  (blkOk_by (by first | (show blkC N_is_name (defScope s_is_name) _ _ = true; decide +kernel) | kernel_rfl)) (vi_e (ve_var 0)) (by decide) (fun _ _ _ _ _ => (vg_name nd rfl (Or.inl rfl) (Or.inr rfl))) (fun _ _ _ _ _ => vts_nil) (fun _ _ _ _ _ => (ve_cmp c_in (ve_var 1) (ve_gstr rfl g_LETTERS (sOk_of (by decide +kernel))) (by rfl)))) rfl z_all))))
theorem b_is_face {n : Nat} (C_is_name : Ce P w K mg base n "is_name" 41 P_is_name) (z_all : mg "all" = none) (z_isinstance : mg "isinstance" = none) (z_len : mg "len" = none) (z_set : mg "set" = none) (z_tuple : mg "tuple" = none) {cdv : Value} {A : Around} {outer : List Env} {s : Shared} {H : Hp} {E : XK} {f : Addr} (hr : Room (2 * n + 41) (A.deeper (envOfC "is_face" (defScope s_is_face) s.heap.objs.size f cdv))) (dv : Dv base P (envOfC "is_face" (defScope s_is_face) s.heap.objs.size f cdv :: outer) (A.deeper (envOfC "is_face" (defScope s_is_face) s.heap.objs.size f cdv))) :
    VB (cxOf CX0 P w K mg base N_is_face "is_face" (defScope s_is_face) f cdv A outer s H E).nox (defBody s_is_face) (T_is_face (VM.callN FT n)) := by
  have nd := (sc_is_face).nd
  have hr0 : Room (2 * n + 40) (A.deeper (envOfC "is_face" (defScope s_is_face) s.heap.objs.size f cdv)) := hr.mono (Nat.le_succ _)
  exact (vb_cons (vs_if (vt_w (vw_or (vt_not (vt_of (ve_isi (T := .tuple) (ve_var 0) (ve_ty rfl z_tuple rfl) rfl z_isinstance))) (vw_or1 (vt_cmp c_gt (ve_len (ve_var 0) rfl z_len) (ve_var 1) (nomark _)))))
    (vb_one (vs_ret ve_bl))
    vb_nil)
    (vb_one (vs_ret (ve_and (ve_all rfl (ve_comp (own := [("name", 2)]) (sl := [2]) rfl nd  (blkOk_by (by first | (show blkC N_is_face (defScope s_is_face) _ _ = true; decide +kernel) | kernel_rfl)) (vi_e (ve_var 0)) (by decide) (fun _ _ _ _ _ => (vg_name nd rfl (Or.inl rfl) (Or.inr rfl))) (fun _ _ _ _ _ => vts_nil) (fun _ _ _ _ _ => (ve_calle (i := 41) C_is_name hr0 rfl (va_cons (ve_var 2) va_nil)))) rfl z_all) (ve_one (ve_cmp (c_eq hr0.units) (ve_lenSetT rfl rfl z_len rfl z_set (ve_var 0)) (ve_len (ve_var 0) rfl z_len) (nomark _)))))))
theorem b_check_family {n : Nat} (C_is_face : Ce P w K mg base n "is_face" 65 P_is_face) (g_MOST_FACES : ∃ t, mg "MOST_FACES" = some (.int 12 t)) (g_MOST_WIDTH : ∃ t, mg "MOST_WIDTH" = some (.int 8 t)) (z_isinstance : mg "isinstance" = none) (z_len : mg "len" = none) (z_list : mg "list" = none) (z_range : mg "range" = none) (z_tuple : mg "tuple" = none) {cdv : Value} {A : Around} {outer : List Env} {s : Shared} {H : Hp} {E : XK} {f : Addr} (hr : Room (2 * n + 41) (A.deeper (envOfC "check_family" (defScope s_check_family) s.heap.objs.size f cdv))) (dv : Dv base P (envOfC "check_family" (defScope s_check_family) s.heap.objs.size f cdv :: outer) (A.deeper (envOfC "check_family" (defScope s_check_family) s.heap.objs.size f cdv))) :
    VB (cxOf CX0 P w K mg base N_check_family "check_family" (defScope s_check_family) f cdv A outer s H E).nox (defBody s_check_family) (T_check_family (VM.callN FT n)) := by
  have nd := (sc_check_family).nd
  have hr0 : Room (2 * n + 40) (A.deeper (envOfC "check_family" (defScope s_check_family) s.heap.objs.size f cdv)) := hr.mono (Nat.le_succ _)
  exact (vb_cons (vs_if (vt_w (vw_or (vt_not (vt_of (ve_isiT (Ts := [.list, .tuple]) (ve_var 0) (.cons (T := .list) (ve_ty rfl z_list rfl) (.cons (T := .tuple) (ve_ty rfl z_tuple rfl) .nil rfl) rfl) (by decide) rfl z_isinstance))) (vw_or1 (vt_not (vt_chain c_le c_le ve_int (ve_len (ve_var 0) rfl z_len) (ve_gint rfl g_MOST_FACES) (by with_unfolding_all rfl))))))
    (vb_one vs_never)
    vb_nil)
    (vb_one (vs_for PassesOwn.never rfl (vi_range1 rfl z_range (ve_len (ve_var 0) rfl z_len)) (vg_name nd rfl (Or.inl rfl) (Or.inr rfl))
    (vb_one (vs_if (vt_not (vt_of (ve_calle (i := 65) C_is_face hr0 rfl (va_cons (ve_ix (ve_var 0) (ve_var 1)) (va_cons (ve_gint rfl g_MOST_WIDTH) va_nil)))))
    (vb_one vs_never)
    vb_nil)))))
theorem b_is_integer {n : Nat} (z_bool : mg "bool" = none) (z_int : mg "int" = none) (z_isinstance : mg "isinstance" = none) {cdv : Value} {A : Around} {outer : List Env} {s : Shared} {H : Hp} {E : XK} {f : Addr} (hr : Room (2 * n + 41) (A.deeper (envOfC "is_integer" (defScope s_is_integer) s.heap.objs.size f cdv))) (dv : Dv base P (envOfC "is_integer" (defScope s_is_integer) s.heap.objs.size f cdv :: outer) (A.deeper (envOfC "is_integer" (defScope s_is_integer) s.heap.objs.size f cdv))) :
    VB (cxOf CX0 P w K mg base N_is_integer "is_integer" (defScope s_is_integer) f cdv A outer s H E).nox (defBody s_is_integer) (T_is_integer (VM.callN FT n)) := by
  have nd := (sc_is_integer).nd
  have hr0 : Room (2 * n + 40) (A.deeper (envOfC "is_integer" (defScope s_is_integer) s.heap.objs.size f cdv)) := hr.mono (Nat.le_succ _)
  exact (vb_one (vs_ret (ve_and (ve_isi (T := .int) (ve_var 0) (ve_ty rfl z_int rfl) rfl z_isinstance) (ve_and (ve_not (ve_isi (T := .bool) (ve_var 0) (ve_ty rfl z_bool rfl) rfl z_isinstance)) (ve_one (ve_chain c_le c_le (ve_var 1) (ve_var 0) (ve_var 2) (by with_unfolding_all rfl)))))))
theorem b_is_tie {n : Nat} (C_is_integer : Ce P w K mg base n "is_integer" 45 P_is_integer) (z_all : mg "all" = none) (z_isinstance : mg "isinstance" = none) (z_len : mg "len" = none) (z_tuple : mg "tuple" = none) {cdv : Value} {A : Around} {outer : List Env} {s : Shared} {H : Hp} {E : XK} {f : Addr} (hr : Room (2 * n + 41) (A.deeper (envOfC "is_tie" (defScope s_is_tie) s.heap.objs.size f cdv))) (dv : Dv base P (envOfC "is_tie" (defScope s_is_tie) s.heap.objs.size f cdv :: outer) (A.deeper (envOfC "is_tie" (defScope s_is_tie) s.heap.objs.size f cdv))) :
    VB (cxOf CX0 P w K mg base N_is_tie "is_tie" (defScope s_is_tie) f cdv A outer s H E).nox (defBody s_is_tie) (T_is_tie (VM.callN FT n)) := by
  have nd := (sc_is_tie).nd
  have hr0 : Room (2 * n + 40) (A.deeper (envOfC "is_tie" (defScope s_is_tie) s.heap.objs.size f cdv)) := hr.mono (Nat.le_succ _)
  exact (vb_cons (vs_if (vt_w (vw_or (vt_not (vt_of (ve_isi (T := .tuple) (ve_var 0) (ve_ty rfl z_tuple rfl) rfl z_isinstance))) (vw_or1 (vt_cmp (c_ne hr0.units) (ve_len (ve_var 0) rfl z_len) ve_int (nomark _)))))
    (vb_one (vs_ret ve_bl))
    vb_nil)
    (vb_one (vs_ret (ve_and (ve_all rfl (ve_comp (own := [("at", 2)]) (sl := [2]) rfl nd  (blkOk_by (by first | (show blkC N_is_tie (defScope s_is_tie) _ _ = true; decide +kernel) | kernel_rfl)) (vi_e (ve_var 0)) (by decide) (fun _ _ _ _ _ => (vg_name nd rfl (Or.inl rfl) (Or.inr rfl))) (fun _ _ _ _ _ => vts_nil) (fun _ _ _ _ _ => (ve_calle (i := 45) C_is_integer hr0 rfl (va_cons (ve_var 2) (va_cons ve_int (va_cons (ve_bin o_sub (ve_var 1) ve_int) va_nil)))))) rfl z_all) (ve_one (ve_cmp (c_ne hr0.units) (ve_ix (ve_var 0) ve_int) (ve_ix (ve_var 0) ve_int) (nomark _)))))))
theorem b_linked {n : Nat} (z_len : mg "len" = none) (z_list : mg "list" = none) (z_range : mg "range" = none) {cdv : Value} {A : Around} {outer : List Env} {s : Shared} {H : Hp} {E : XK} {f : Addr} (hr : Room (2 * n + 41) (A.deeper (envOfC "linked" (defScope s_linked) s.heap.objs.size f cdv))) (dv : Dv base P (envOfC "linked" (defScope s_linked) s.heap.objs.size f cdv :: outer) (A.deeper (envOfC "linked" (defScope s_linked) s.heap.objs.size f cdv))) :
    VB (cxOf CX0 P w K mg base N_linked "linked" (defScope s_linked) f cdv A outer s H E).nox (defBody s_linked) (T_linked (VM.callN FT n)) := by
  have nd := (sc_linked).nd
  have hr0 : Room (2 * n + 40) (A.deeper (envOfC "linked" (defScope s_linked) s.heap.objs.size f cdv)) := hr.mono (Nat.le_succ _)
  exact (vb_cons (vs_set nd rfl (Or.inl rfl) (ve_list (ve_sl (ve_var 0) vo_none (vo_some ve_int)) rfl z_list) rfl (Or.inr rfl))
    (vb_cons (vs_for PassesOwn.never rfl (vi_range1 rfl z_range (ve_len (ve_var 0) rfl z_len)) (vg_name nd rfl (Or.inl rfl) (Or.inr rfl))
    (vb_one (vs_for PassesOwn.never rfl (vi_e (ve_var 1)) (vg_tup rfl (vgs_cons (vg_name nd rfl (Or.inl rfl) (Or.inr rfl)) (vgs_cons (vg_name nd rfl (Or.inl rfl) (Or.inr rfl)) vgs_nil)))
    (vb_one (vs_if (vt_w (vw_and (vt_cmp c_in (ve_var 4) (ve_var 0) (by rfl)) (vw_and1 (vt_cmp c_in (ve_var 5) (ve_var 0) (by rfl)))))
    (vb_cons (vs_if (vt_w (vw_and (vt_cmp c_in (ve_var 4) (ve_var 2) (by rfl)) (vw_and1 (vt_cmp c_notin (ve_var 5) (ve_var 2) (by rfl)))))
    (vb_one (vs_set nd rfl (Or.inl rfl) (ve_bin o_add (ve_var 2) (ve_lst (va_cons (ve_var 5) va_nil))) rfl (Or.inr rfl)))
    vb_nil)
    (vb_one (vs_if (vt_w (vw_and (vt_cmp c_in (ve_var 5) (ve_var 2) (by rfl)) (vw_and1 (vt_cmp c_notin (ve_var 4) (ve_var 2) (by rfl)))))
    (vb_one (vs_set nd rfl (Or.inl rfl) (ve_bin o_add (ve_var 2) (ve_lst (va_cons (ve_var 4) va_nil))) rfl (Or.inr rfl)))
    vb_nil)))
    vb_nil)))))
    (vb_one (vs_ret (ve_var 2)))))
theorem b_is_one_tree {n : Nat} (C_linked : Ce P w K mg base n "linked" 68 P_linked) (z_len : mg "len" = none) (z_list : mg "list" = none) (z_range : mg "range" = none) {cdv : Value} {A : Around} {outer : List Env} {s : Shared} {H : Hp} {E : XK} {f : Addr} (hr : Room (2 * n + 41) (A.deeper (envOfC "is_one_tree" (defScope s_is_one_tree) s.heap.objs.size f cdv))) (dv : Dv base P (envOfC "is_one_tree" (defScope s_is_one_tree) s.heap.objs.size f cdv :: outer) (A.deeper (envOfC "is_one_tree" (defScope s_is_one_tree) s.heap.objs.size f cdv))) :
    VB (cxOf CX0 P w K mg base N_is_one_tree "is_one_tree" (defScope s_is_one_tree) f cdv A outer s H E).nox (defBody s_is_one_tree) (T_is_one_tree (VM.callN FT n)) := by
  have nd := (sc_is_one_tree).nd
  have hr0 : Room (2 * n + 40) (A.deeper (envOfC "is_one_tree" (defScope s_is_one_tree) s.heap.objs.size f cdv)) := hr.mono (Nat.le_succ _)
  exact (vb_one (vs_ret (ve_and (ve_cmp (c_eq hr0.units) (ve_len (ve_var 1) rfl z_len) (ve_bin o_sub (ve_var 0) ve_int) (nomark _)) (ve_one (ve_cmp (c_eq hr0.units) (ve_len (ve_calle (i := 68) C_linked hr0 rfl (va_cons (ve_rangeL rfl (ve_var 0) rfl z_list rfl z_range) (va_cons (ve_var 1) va_nil))) rfl z_len) (ve_var 0) (nomark _))))))
theorem b_all_names {n : Nat} (z_set : mg "set" = none) (z_sorted : mg "sorted" = none) {cdv : Value} {A : Around} {outer : List Env} {s : Shared} {H : Hp} {E : XK} {f : Addr} (hr : Room (2 * n + 41) (A.deeper (envOfC "all_names" (defScope s_all_names) s.heap.objs.size f cdv))) (dv : Dv base P (envOfC "all_names" (defScope s_all_names) s.heap.objs.size f cdv :: outer) (A.deeper (envOfC "all_names" (defScope s_all_names) s.heap.objs.size f cdv))) :
    VB (cxOf CX0 P w K mg base N_all_names "all_names" (defScope s_all_names) f cdv A outer s H E).nox (defBody s_all_names) (T_all_names (VM.callN FT n)) := by
  have nd := (sc_all_names).nd
  have hr0 : Room (2 * n + 40) (A.deeper (envOfC "all_names" (defScope s_all_names) s.heap.objs.size f cdv)) := hr.mono (Nat.le_succ _)
  exact (vb_one (vs_ret (ve_sortSet rfl rfl z_sorted rfl z_set (ve_comp2 (own := [("face", 1), ("name", 2)]) (sl := [1]) (sl1 := [2]) (vs1 := [2]) rfl nd  (blkOk_by (by first | (show blkC N_all_names (defScope s_all_names) _ _ = true; decide +kernel) | kernel_rfl)) (by decide) (vi_e (ve_var 0)) (by decide) (by decide) (fun _ _ _ _ _ => (vg_name nd rfl (Or.inl rfl) (Or.inr rfl))) (fun _ _ _ _ _ => vts_nil) (fun _ _ _ _ _ => (vi_e (ve_var 1))) (fun _ _ _ _ _ => (vg_name nd rfl (Or.inl rfl) (Or.inr rfl))) (fun _ _ _ _ _ => vts_nil) (fun _ _ _ _ _ => (ve_var 2))))))
theorem b_holders {n : Nat} (z_len : mg "len" = none) (z_range : mg "range" = none) {cdv : Value} {A : Around} {outer : List Env} {s : Shared} {H : Hp} {E : XK} {f : Addr} (hr : Room (2 * n + 41) (A.deeper (envOfC "holders" (defScope s_holders) s.heap.objs.size f cdv))) (dv : Dv base P (envOfC "holders" (defScope s_holders) s.heap.objs.size f cdv :: outer) (A.deeper (envOfC "holders" (defScope s_holders) s.heap.objs.size f cdv))) :
    VB (cxOf CX0 P w K mg base N_holders "holders" (defScope s_holders) f cdv A outer s H E).nox (defBody s_holders) (T_holders (VM.callN FT n)) := by
  have nd := (sc_holders).nd
  have hr0 : Room (2 * n + 40) (A.deeper (envOfC "holders" (defScope s_holders) s.heap.objs.size f cdv)) := hr.mono (Nat.le_succ _)
  exact (vb_one (vs_ret (ve_comp (own := [("at", 2)]) (sl := [2]) rfl nd  (blkOk_by (by first | (show blkC N_holders (defScope s_holders) _ _ = true; decide +kernel) | kernel_rfl)) (vi_range1 rfl z_range (ve_len (ve_var 0) rfl z_len)) (by decide) (fun _ _ _ _ _ => (vg_name nd rfl (Or.inl rfl) (Or.inr rfl))) (fun _ _ _ _ _ => (vts_one (vt_cmp c_in (ve_var 1) (ve_ix (ve_var 0) (ve_var 2)) (by rfl)))) (fun _ _ _ _ _ => (ve_var 2)))))
theorem b_path {n : Nat} (z_range : mg "range" = none) {cdv : Value} {A : Around} {outer : List Env} {s : Shared} {H : Hp} {E : XK} {f : Addr} (hr : Room (2 * n + 41) (A.deeper (envOfC "path" (defScope s_path) s.heap.objs.size f cdv))) (dv : Dv base P (envOfC "path" (defScope s_path) s.heap.objs.size f cdv :: outer) (A.deeper (envOfC "path" (defScope s_path) s.heap.objs.size f cdv))) :
    VB (cxOf CX0 P w K mg base N_path "path" (defScope s_path) f cdv A outer s H E).nox (defBody s_path) (T_path (VM.callN FT n)) := by
  have nd := (sc_path).nd
  have hr0 : Room (2 * n + 40) (A.deeper (envOfC "path" (defScope s_path) s.heap.objs.size f cdv)) := hr.mono (Nat.le_succ _)
  exact (vb_cons (vs_set nd rfl (Or.inl rfl) (ve_dict1M (ve_var 2) (ve_var 2)) rfl (Or.inr rfl))
    (vb_cons (vs_for PassesOwn.never rfl (vi_range1 rfl z_range (ve_var 1)) (vg_name nd rfl (Or.inl rfl) (Or.inr rfl))
    (vb_one (vs_for PassesOwn.never rfl (vi_e (ve_var 0)) (vg_tup rfl (vgs_cons (vg_name nd rfl (Or.inl rfl) (Or.inr rfl)) (vgs_cons (vg_name nd rfl (Or.inl rfl) (Or.inr rfl)) vgs_nil)))
    (vb_cons (vs_if (vt_w (vw_and (vt_din hr.units1 (ve_var 6) (ve_var 4)) (vw_and1 (vt_dnotin hr.units1 (ve_var 7) (ve_var 4)))))
    (vb_one (vs_dput hr.units1 (ve_var 6) (ve_var 4) (ve_var 7)))
    vb_nil)
    (vb_one (vs_if (vt_w (vw_and (vt_din hr.units1 (ve_var 7) (ve_var 4)) (vw_and1 (vt_dnotin hr.units1 (ve_var 6) (ve_var 4)))))
    (vb_one (vs_dput hr.units1 (ve_var 7) (ve_var 4) (ve_var 6)))
    vb_nil))))))
    (vb_cons (vs_set nd rfl (Or.inl rfl) (ve_lst (va_cons (ve_var 3) va_nil)) rfl (Or.inr rfl))
    (vb_cons (vs_while PassesOwn.never (vt_cmp (c_ne hr0.units) (ve_ix (ve_var 8) (ve_neg ve_int)) (ve_var 2) (nomark _))
    (vb_one (vs_set nd rfl (Or.inl rfl) (ve_bin o_add (ve_var 8) (ve_lst (va_cons (ve_dget hr.units1 (ve_var 4) (ve_ix (ve_var 8) (ve_neg ve_int)) (by exact fun _ _ => rfl)) va_nil))) rfl (Or.inr rfl))))
    (vb_one (vs_ret (ve_var 8)))))))
theorem b_carried {n : Nat} (C_all_names : Ce P w K mg base n "all_names" 70 P_all_names) (C_check_family : Ce P w K mg base n "check_family" 66 P_check_family) (C_holders : Ce P w K mg base n "holders" 71 P_holders) (C_is_one_tree : Ce P w K mg base n "is_one_tree" 69 P_is_one_tree) (C_is_tie : Ce P w K mg base n "is_tie" 67 P_is_tie) (C_path : Ce P w K mg base n "path" 72 P_path) (z_isinstance : mg "isinstance" = none) (z_len : mg "len" = none) (z_list : mg "list" = none) (z_range : mg "range" = none) (z_tuple : mg "tuple" = none) (z_zip : mg "zip" = none) {cdv : Value} {A : Around} {outer : List Env} {s : Shared} {H : Hp} {E : XK} {f : Addr} (hr : Room (2 * n + 41) (A.deeper (envOfC "carried" (defScope s_carried) s.heap.objs.size f cdv))) (dv : Dv base P (envOfC "carried" (defScope s_carried) s.heap.objs.size f cdv :: outer) (A.deeper (envOfC "carried" (defScope s_carried) s.heap.objs.size f cdv))) :
    VB (cxOf CX0 P w K mg base N_carried "carried" (defScope s_carried) f cdv A outer s H E).nox (defBody s_carried) (T_carried (VM.callN FT n)) := by
  have nd := (sc_carried).nd
  have hr0 : Room (2 * n + 40) (A.deeper (envOfC "carried" (defScope s_carried) s.heap.objs.size f cdv)) := hr.mono (Nat.le_succ _)
  exact (vb_cons (vs_expr (ve_calle (i := 66) C_check_family hr0 rfl (va_cons (ve_var 0) va_nil)))
    (vb_cons (vs_if (vt_not (vt_of (ve_isiT (Ts := [.list, .tuple]) (ve_var 1) (.cons (T := .list) (ve_ty rfl z_list rfl) (.cons (T := .tuple) (ve_ty rfl z_tuple rfl) .nil rfl) rfl) (by decide) rfl z_isinstance)))
    (vb_one vs_never)
    vb_nil)
    (vb_cons (vs_for PassesOwn.never rfl (vi_range1 rfl z_range (ve_len (ve_var 1) rfl z_len)) (vg_name nd rfl (Or.inl rfl) (Or.inr rfl))
    (vb_one (vs_if (vt_not (vt_of (ve_calle (i := 67) C_is_tie hr0 rfl (va_cons (ve_ix (ve_var 1) (ve_var 2)) (va_cons (ve_len (ve_var 0) rfl z_len) va_nil)))))
    (vb_one vs_never)
    vb_nil)))
    (vb_cons (vs_if (vt_not (vt_of (ve_calle (i := 69) C_is_one_tree hr0 rfl (va_cons (ve_len (ve_var 0) rfl z_len) (va_cons (ve_var 1) va_nil)))))
    (vb_one vs_never)
    vb_nil)
    (vb_cons (vs_setcM (own := [("_", 4)]) (sl := [4]) rfl nd rfl rfl (sw_true rfl rfl rfl rfl) (blkOk_by (by first | (show blkC N_carried (defScope s_carried) _ _ = true; decide +kernel) | kernel_rfl)) (vi_e (ve_var 0)) (by decide) (fun _ _ _ _ _ => (vg_name nd rfl (Or.inl rfl) (Or.inr rfl))) (fun _ _ _ _ _ => vts_nil) (fun _ _ _ _ _ => (ve_lst va_nil)))
    (vb_cons (vs_for PassesOwn.never rfl (vi_e (ve_calle (i := 70) C_all_names hr0 rfl (va_cons (ve_var 0) va_nil))) (vg_name nd rfl (Or.inl rfl) (Or.inr rfl))
    (vb_cons (vs_set nd rfl (Or.inr rfl) (ve_calle (i := 71) C_holders hr0 rfl (va_cons (ve_var 0) (va_cons (ve_var 5) va_nil))) rfl (Or.inl rfl))
    (vb_cons (vs_setc2 (own := [("other", 8), ("at", 2)]) (sl := [8]) (sl1 := [2]) (vs1 := [2]) rfl nd rfl rfl (sw_true rfl rfl rfl rfl) (blkOk_by (by first | (show blkC N_carried (defScope s_carried) _ _ = true; decide +kernel) | kernel_rfl)) (by decide) (vi_e (ve_sl (ve_var 6) (vo_some ve_int) vo_none)) (by decide) (by decide) (fun _ _ _ _ _ => (vg_name nd rfl (Or.inl rfl) (Or.inr rfl))) (fun _ _ _ _ _ => vts_nil) (fun _ _ _ _ _ => (vi_e (ve_calle (i := 72) C_path hr0 rfl (va_cons (ve_var 1) (va_cons (ve_len (ve_var 0) rfl z_len) (va_cons (ve_ix (ve_var 6) ve_int) (va_cons (ve_var 8) va_nil))))))) (fun _ _ _ _ _ => (vg_name nd rfl (Or.inl rfl) (Or.inr rfl))) (fun _ _ _ _ _ => vts_nil) (fun _ _ _ _ _ => (ve_var 2)))
    (vb_one (vs_for PassesOwn.never rfl (vi_range1 rfl z_range (ve_len (ve_var 0) rfl z_len)) (vg_name nd rfl (Or.inl rfl) (Or.inr rfl))
    (vb_one (vs_if (vt_w (vw_and (vt_cmp c_in (ve_var 2) (ve_var 7) (by rfl)) (vw_and1 (vt_cmp c_notin (ve_var 5) (ve_ix (ve_var 0) (ve_var 2)) (by rfl)))))
    (vb_one (vs_setix (ve_bin o_add (ve_ix (ve_var 3) (ve_var 2)) (ve_lst (va_cons (ve_var 5) va_nil))) (ve_var 3) (ve_var 2)))
    vb_nil)))))))
    (vb_one (vs_ret (ve_comp (own := [("face", 9), ("names", 10)]) (sl := [9, 10]) rfl nd  (blkOk_by (by first | (show blkC N_carried (defScope s_carried) _ _ = true; decide +kernel) | kernel_rfl)) (vi_zip rfl z_zip (ve_var 0) (ve_var 3)) (by decide) (fun _ _ _ _ _ => (vg_tup rfl (vgs_cons (vg_name nd rfl (Or.inl rfl) (Or.inr rfl)) (vgs_cons (vg_name nd rfl (Or.inl rfl) (Or.inr rfl)) vgs_nil)))) (fun _ _ _ _ _ => vts_nil) (fun _ _ _ _ _ => (ve_tuple (ve_bin o_add (ve_list (ve_var 9) rfl z_list) (ve_var 10)) rfl z_tuple)))))))))))
theorem b__law_same {n : Nat} (C__law_same : Ce P w K mg base n "_law_same" 16 P__law_same) (z_all : mg "all" = none) (z_bool : mg "bool" = none) (z_int : mg "int" = none) (z_isinstance : mg "isinstance" = none) (z_len : mg "len" = none) (z_list : mg "list" = none) (z_str : mg "str" = none) (z_tuple : mg "tuple" = none) (z_zip : mg "zip" = none) {cdv : Value} {A : Around} {outer : List Env} {s : Shared} {H : Hp} {E : XK} {f : Addr} (hr : Room (2 * n + 41) (A.deeper (envOfC "_law_same" (defScope s__law_same) s.heap.objs.size f cdv))) (dv : Dv base P (envOfC "_law_same" (defScope s__law_same) s.heap.objs.size f cdv :: outer) (A.deeper (envOfC "_law_same" (defScope s__law_same) s.heap.objs.size f cdv))) :
    VB (cxOf CX0 P w K mg base N__law_same "_law_same" (defScope s__law_same) f cdv A outer s H E).nox (defBody s__law_same) (T__law_same (VM.callN FT n)) := by
  have nd := (sc__law_same).nd
  have hr0 : Room (2 * n + 40) (A.deeper (envOfC "_law_same" (defScope s__law_same) s.heap.objs.size f cdv)) := hr.mono (Nat.le_succ _)
  exact (vb_cons (vs_if (vt_cmp c_isN (ve_var 1) ve_non (nomark _))
    (vb_one (vs_ret (ve_cmp c_isN (ve_var 0) ve_non (nomark _))))
    vb_nil)
    (vb_cons (vs_if (vt_w (vw_or (vt_of (ve_isi (T := .bool) (ve_var 1) (ve_ty rfl z_bool rfl) rfl z_isinstance)) (vw_or1 (vt_of (ve_isi (T := .bool) (ve_var 0) (ve_ty rfl z_bool rfl) rfl z_isinstance)))))
    (vb_one (vs_ret (ve_and (ve_isi (T := .bool) (ve_var 1) (ve_ty rfl z_bool rfl) rfl z_isinstance) (ve_and (ve_isi (T := .bool) (ve_var 0) (ve_ty rfl z_bool rfl) rfl z_isinstance) (ve_one (ve_cmp (c_eq hr0.units) (ve_var 0) (ve_var 1) (nomark _)))))))
    vb_nil)
    (vb_cons (vs_if (vt_of (ve_isiT (Ts := [.int, .str]) (ve_var 1) (.cons (T := .int) (ve_ty rfl z_int rfl) (.cons (T := .str) (ve_ty rfl z_str rfl) .nil rfl) rfl) (by decide) rfl z_isinstance))
    (vb_one (vs_ret (ve_and (ve_isiT (Ts := [.int, .str]) (ve_var 0) (.cons (T := .int) (ve_ty rfl z_int rfl) (.cons (T := .str) (ve_ty rfl z_str rfl) .nil rfl) rfl) (by decide) rfl z_isinstance) (ve_and (ve_cmp (c_eq hr0.units) (ve_isi (T := .int) (ve_var 0) (ve_ty rfl z_int rfl) rfl z_isinstance) (ve_isi (T := .int) (ve_var 1) (ve_ty rfl z_int rfl) rfl z_isinstance) (nomark _)) (ve_one (ve_cmp (c_eq hr0.units) (ve_var 0) (ve_var 1) (nomark _)))))))
    vb_nil)
    (vb_cons (vs_if (vt_w (vw_or (vt_cmp (c_ne hr0.units) (ve_isi (T := .list) (ve_var 1) (ve_ty rfl z_list rfl) rfl z_isinstance) (ve_isi (T := .list) (ve_var 0) (ve_ty rfl z_list rfl) rfl z_isinstance) (nomark _)) (vw_or1 (vt_cmp (c_ne hr0.units) (ve_isi (T := .tuple) (ve_var 1) (ve_ty rfl z_tuple rfl) rfl z_isinstance) (ve_isi (T := .tuple) (ve_var 0) (ve_ty rfl z_tuple rfl) rfl z_isinstance) (nomark _)))))
    (vb_one (vs_ret ve_bl))
    vb_nil)
    (vb_cons (vs_if (vt_w (vw_or (vt_not (vt_of (ve_isiT (Ts := [.list, .tuple]) (ve_var 0) (.cons (T := .list) (ve_ty rfl z_list rfl) (.cons (T := .tuple) (ve_ty rfl z_tuple rfl) .nil rfl) rfl) (by decide) rfl z_isinstance))) (vw_or1 (vt_cmp (c_ne hr0.units) (ve_len (ve_var 0) rfl z_len) (ve_len (ve_var 1) rfl z_len) (nomark _)))))
    (vb_one (vs_ret ve_bl))
    vb_nil)
    (vb_one (vs_ret (ve_all rfl (ve_comp (own := [("_law_one", 2), ("_law_two", 3)]) (sl := [2, 3]) rfl nd  (blkOk_by (by first | (show blkC N__law_same (defScope s__law_same) _ _ = true; decide +kernel) | kernel_rfl)) (vi_zip rfl z_zip (ve_var 0) (ve_var 1)) (by decide) (fun _ _ _ _ _ => (vg_tup rfl (vgs_cons (vg_name nd rfl (Or.inl rfl) (Or.inr rfl)) (vgs_cons (vg_name nd rfl (Or.inl rfl) (Or.inr rfl)) vgs_nil)))) (fun _ _ _ _ _ => vts_nil) (fun _ _ _ _ _ => (ve_calle (i := 16) C__law_same hr0 rfl (va_cons (ve_var 2) (va_cons (ve_var 3) va_nil))))) rfl z_all))))))))
theorem b__law_union {n : Nat} (z_list : mg "list" = none) (z_set : mg "set" = none) (z_sorted : mg "sorted" = none) {cdv : Value} {A : Around} {outer : List Env} {s : Shared} {H : Hp} {E : XK} {f : Addr} (hr : Room (2 * n + 41) (A.deeper (envOfC "_law_union" (defScope s__law_union) s.heap.objs.size f cdv))) (dv : Dv base P (envOfC "_law_union" (defScope s__law_union) s.heap.objs.size f cdv :: outer) (A.deeper (envOfC "_law_union" (defScope s__law_union) s.heap.objs.size f cdv))) :
    VB (cxOf CX0 P w K mg base N__law_union "_law_union" (defScope s__law_union) f cdv A outer s H E).nox (defBody s__law_union) (T__law_union (VM.callN FT n)) := by
  have nd := (sc__law_union).nd
  have hr0 : Room (2 * n + 40) (A.deeper (envOfC "_law_union" (defScope s__law_union) s.heap.objs.size f cdv)) := hr.mono (Nat.le_succ _)
  exact (vb_cons (vs_set nd rfl (Or.inl rfl) (ve_lst va_nil) rfl (Or.inr rfl))
    (vb_cons (vs_for PassesOwn.never rfl (vi_e (ve_var 0)) (vg_name nd rfl (Or.inl rfl) (Or.inr rfl))
    (vb_one (vs_set nd rfl (Or.inl rfl) (ve_bin o_add (ve_var 1) (ve_list (ve_var 2) rfl z_list)) rfl (Or.inr rfl))))
    (vb_one (vs_ret (ve_sortSet rfl rfl z_sorted rfl z_set (ve_var 1))))))
theorem b__law_holders {n : Nat} (z_len : mg "len" = none) (z_range : mg "range" = none) {cdv : Value} {A : Around} {outer : List Env} {s : Shared} {H : Hp} {E : XK} {f : Addr} (hr : Room (2 * n + 41) (A.deeper (envOfC "_law_holders" (defScope s__law_holders) s.heap.objs.size f cdv))) (dv : Dv base P (envOfC "_law_holders" (defScope s__law_holders) s.heap.objs.size f cdv :: outer) (A.deeper (envOfC "_law_holders" (defScope s__law_holders) s.heap.objs.size f cdv))) :
    VB (cxOf CX0 P w K mg base N__law_holders "_law_holders" (defScope s__law_holders) f cdv A outer s H E).nox (defBody s__law_holders) (T__law_holders (VM.callN FT n)) := by
  have nd := (sc__law_holders).nd
  have hr0 : Room (2 * n + 40) (A.deeper (envOfC "_law_holders" (defScope s__law_holders) s.heap.objs.size f cdv)) := hr.mono (Nat.le_succ _)
  exact (vb_one (vs_ret (ve_comp (own := [("_law_k", 2)]) (sl := [2]) rfl nd  (blkOk_by (by first | (show blkC N__law_holders (defScope s__law_holders) _ _ = true; decide +kernel) | kernel_rfl)) (vi_range1 rfl z_range (ve_len (ve_var 0) rfl z_len)) (by decide) (fun _ _ _ _ _ => (vg_name nd rfl (Or.inl rfl) (Or.inr rfl))) (fun _ _ _ _ _ => (vts_one (vt_cmp c_in (ve_var 1) (ve_ix (ve_var 0) (ve_var 2)) (by rfl)))) (fun _ _ _ _ _ => (ve_var 2)))))
theorem b__law_reached {n : Nat} (z_len : mg "len" = none) (z_range : mg "range" = none) {cdv : Value} {A : Around} {outer : List Env} {s : Shared} {H : Hp} {E : XK} {f : Addr} (hr : Room (2 * n + 41) (A.deeper (envOfC "_law_reached" (defScope s__law_reached) s.heap.objs.size f cdv))) (dv : Dv base P (envOfC "_law_reached" (defScope s__law_reached) s.heap.objs.size f cdv :: outer) (A.deeper (envOfC "_law_reached" (defScope s__law_reached) s.heap.objs.size f cdv))) :
    VB (cxOf CX0 P w K mg base N__law_reached "_law_reached" (defScope s__law_reached) f cdv A outer s H E).nox (defBody s__law_reached) (T__law_reached (VM.callN FT n)) := by
  have nd := (sc__law_reached).nd
  have hr0 : Room (2 * n + 40) (A.deeper (envOfC "_law_reached" (defScope s__law_reached) s.heap.objs.size f cdv)) := hr.mono (Nat.le_succ _)
  exact (vb_cons (vs_set nd rfl (Or.inl rfl) (ve_sl (ve_var 0) vo_none (vo_some ve_int)) rfl (Or.inr rfl))
    (vb_cons (vs_for PassesOwn.never rfl (vi_range1 rfl z_range (ve_len (ve_var 0) rfl z_len)) (vg_name nd rfl (Or.inl rfl) (Or.inr rfl))
    (vb_one (vs_for PassesOwn.never rfl (vi_e (ve_var 1)) (vg_tup rfl (vgs_cons (vg_name nd rfl (Or.inl rfl) (Or.inr rfl)) (vgs_cons (vg_name nd rfl (Or.inl rfl) (Or.inr rfl)) vgs_nil)))
    (vb_one (vs_if (vt_w (vw_and (vt_cmp c_in (ve_var 4) (ve_var 0) (by rfl)) (vw_and (vt_cmp c_in (ve_var 5) (ve_var 0) (by rfl)) (vw_and1 (vt_cmp (c_ne hr0.units) (ve_cmp c_in (ve_var 4) (ve_var 2) (by rfl)) (ve_cmp c_in (ve_var 5) (ve_var 2) (by rfl)) (nomark _))))))
    (vb_one (vs_set nd rfl (Or.inl rfl) (ve_bin o_add (ve_var 2) (ve_lst (va_cons (ve_if (vt_cmp c_in (ve_var 4) (ve_var 2) (by rfl)) (ve_var 5) (ve_var 4)) va_nil))) rfl (Or.inr rfl)))
    vb_nil)))))
    (vb_one (vs_ret (ve_var 2)))))
theorem b__law_scattered {n : Nat} (C__law_holders : Ce P w K mg base n "_law_holders" 75 P__law_holders) (C__law_reached : Ce P w K mg base n "_law_reached" 76 P__law_reached) (C__law_union : Ce P w K mg base n "_law_union" 74 P__law_union) (z_len : mg "len" = none) {cdv : Value} {A : Around} {outer : List Env} {s : Shared} {H : Hp} {E : XK} {f : Addr} (hr : Room (2 * n + 41) (A.deeper (envOfC "_law_scattered" (defScope s__law_scattered) s.heap.objs.size f cdv))) (dv : Dv base P (envOfC "_law_scattered" (defScope s__law_scattered) s.heap.objs.size f cdv :: outer) (A.deeper (envOfC "_law_scattered" (defScope s__law_scattered) s.heap.objs.size f cdv))) :
    VB (cxOf CX0 P w K mg base N__law_scattered "_law_scattered" (defScope s__law_scattered) f cdv A outer s H E).nox (defBody s__law_scattered) (T__law_scattered (VM.callN FT n)) := by
  have nd := (sc__law_scattered).nd
  have hr0 : Room (2 * n + 40) (A.deeper (envOfC "_law_scattered" (defScope s__law_scattered) s.heap.objs.size f cdv)) := hr.mono (Nat.le_succ _)
  exact (vb_cons (vs_set nd rfl (Or.inl rfl) (ve_lstM va_nil) rfl (Or.inr rfl))
    (vb_cons (vs_for PassesOwn.never rfl (vi_e (ve_calle (i := 74) C__law_union hr0 rfl (va_cons (ve_var 0) va_nil))) (vg_name nd rfl (Or.inl rfl) (Or.inr rfl))
    (vb_cons (vs_set nd rfl (Or.inl rfl) (ve_calle (i := 75) C__law_holders hr0 rfl (va_cons (ve_var 0) (va_cons (ve_var 3) va_nil))) rfl (Or.inr rfl))
    (vb_one (vs_if (vt_cmp c_lt (ve_len (ve_calle (i := 76) C__law_reached hr0 rfl (va_cons (ve_var 4) (va_cons (ve_var 1) va_nil))) rfl z_len) (ve_len (ve_var 4) rfl z_len) (nomark _))
    (vb_one (vs_expr (ve_append (ve_var 2) (ve_var 3))))
    vb_nil))))
    (vb_one (vs_ret (ve_var 2)))))
theorem b__law_one_tree {n : Nat} (C__law_reached : Ce P w K mg base n "_law_reached" 76 P__law_reached) (z_len : mg "len" = none) (z_list : mg "list" = none) (z_range : mg "range" = none) {cdv : Value} {A : Around} {outer : List Env} {s : Shared} {H : Hp} {E : XK} {f : Addr} (hr : Room (2 * n + 41) (A.deeper (envOfC "_law_one_tree" (defScope s__law_one_tree) s.heap.objs.size f cdv))) (dv : Dv base P (envOfC "_law_one_tree" (defScope s__law_one_tree) s.heap.objs.size f cdv :: outer) (A.deeper (envOfC "_law_one_tree" (defScope s__law_one_tree) s.heap.objs.size f cdv))) :
    VB (cxOf CX0 P w K mg base N__law_one_tree "_law_one_tree" (defScope s__law_one_tree) f cdv A outer s H E).nox (defBody s__law_one_tree) (T__law_one_tree (VM.callN FT n)) := by
  have nd := (sc__law_one_tree).nd
  have hr0 : Room (2 * n + 40) (A.deeper (envOfC "_law_one_tree" (defScope s__law_one_tree) s.heap.objs.size f cdv)) := hr.mono (Nat.le_succ _)
  exact (vb_one (vs_ret (ve_and (ve_cmp (c_eq hr0.units) (ve_len (ve_var 1) rfl z_len) (ve_bin o_sub (ve_var 0) ve_int) (nomark _)) (ve_one (ve_cmp (c_eq hr0.units) (ve_len (ve_calle (i := 76) C__law_reached hr0 rfl (va_cons (ve_rangeL rfl (ve_var 0) rfl z_list rfl z_range) (va_cons (ve_var 1) va_nil))) rfl z_len) (ve_var 0) (nomark _))))))
theorem b__law_fits {n : Nat} (C__law_one_tree : Ce P w K mg base n "_law_one_tree" 78 P__law_one_tree) (C__law_scattered : Ce P w K mg base n "_law_scattered" 77 P__law_scattered) (z_len : mg "len" = none) {cdv : Value} {A : Around} {outer : List Env} {s : Shared} {H : Hp} {E : XK} {f : Addr} (hr : Room (2 * n + 41) (A.deeper (envOfC "_law_fits" (defScope s__law_fits) s.heap.objs.size f cdv))) (dv : Dv base P (envOfC "_law_fits" (defScope s__law_fits) s.heap.objs.size f cdv :: outer) (A.deeper (envOfC "_law_fits" (defScope s__law_fits) s.heap.objs.size f cdv))) :
    VB (cxOf CX0 P w K mg base N__law_fits "_law_fits" (defScope s__law_fits) f cdv A outer s H E).nox (defBody s__law_fits) (T__law_fits (VM.callN FT n)) := by
  have nd := (sc__law_fits).nd
  have hr0 : Room (2 * n + 40) (A.deeper (envOfC "_law_fits" (defScope s__law_fits) s.heap.objs.size f cdv)) := hr.mono (Nat.le_succ _)
  exact (vb_one (vs_ret (ve_and (ve_calle (i := 78) C__law_one_tree hr0 rfl (va_cons (ve_len (ve_var 0) rfl z_len) (va_cons (ve_var 1) va_nil))) (ve_one (ve_cmp (c_eq hr0.units) (ve_calle (i := 77) C__law_scattered hr0 rfl (va_cons (ve_var 0) (va_cons (ve_var 1) va_nil))) (ve_lst va_nil) (nomark _))))))
abbrev FnV (K : PySem.W.Frag) (x q : Str) (st : Stmt) (f : Addr) (dvs : List V) : Prop := ∃ fd, FunD K x q (defArgs st) (defBody st) (defScope st) dvs [] f fd
def Fs (K : PySem.W.Frag) (mg : Str → Option Value) : Prop := FnV K "law" "law" s_law (He.ga K "law") [] ∧ mg "law" = some (.ref (He.ga K "law")) ∧ FnV K "_law_bag" "_law_bag" s__law_bag (He.ga K "_law_bag") [] ∧ mg "_law_bag" = some (.ref (He.ga K "_law_bag")) ∧ FnV K "_law_take" "_law_take" s__law_take (He.ga K "_law_take") [] ∧ mg "_law_take" = some (.ref (He.ga K "_law_take")) ∧ FnV K "_law_of" "_law_of" s__law_of (He.ga K "_law_of") [] ∧ mg "_law_of" = some (.ref (He.ga K "_law_of")) ∧ FnV K "_law_names" "_law_names" s__law_names (He.ga K "_law_names") [] ∧ mg "_law_names" = some (.ref (He.ga K "_law_names")) ∧ FnV K "_law_mixed" "_law_mixed" s__law_mixed (He.ga K "_law_mixed") [] ∧ mg "_law_mixed" = some (.ref (He.ga K "_law_mixed")) ∧ FnV K "_law_faces" "_law_faces" s__law_faces (He.ga K "_law_faces") [] ∧ mg "_law_faces" = some (.ref (He.ga K "_law_faces")) ∧ FnV K "_law_family" "_law_family" s__law_family (He.ga K "_law_family") [] ∧ mg "_law_family" = some (.ref (He.ga K "_law_family")) ∧ FnV K "_law_tuples" "_law_tuples" s__law_tuples (He.ga K "_law_tuples") [] ∧ mg "_law_tuples" = some (.ref (He.ga K "_law_tuples")) ∧ FnV K "_law_drawn_ties" "_law_drawn_ties" s__law_drawn_ties (He.ga K "_law_drawn_ties") [] ∧ mg "_law_drawn_ties" = some (.ref (He.ga K "_law_drawn_ties")) ∧ FnV K "is_name" "is_name" s_is_name (He.ga K "is_name") [] ∧ mg "is_name" = some (.ref (He.ga K "is_name")) ∧ FnV K "is_face" "is_face" s_is_face (He.ga K "is_face") [] ∧ mg "is_face" = some (.ref (He.ga K "is_face")) ∧ FnV K "check_family" "check_family" s_check_family (He.ga K "check_family") [] ∧ mg "check_family" = some (.ref (He.ga K "check_family")) ∧ FnV K "is_integer" "is_integer" s_is_integer (He.ga K "is_integer") [] ∧ mg "is_integer" = some (.ref (He.ga K "is_integer")) ∧ FnV K "is_tie" "is_tie" s_is_tie (He.ga K "is_tie") [] ∧ mg "is_tie" = some (.ref (He.ga K "is_tie")) ∧ FnV K "linked" "linked" s_linked (He.ga K "linked") [] ∧ mg "linked" = some (.ref (He.ga K "linked")) ∧ FnV K "is_one_tree" "is_one_tree" s_is_one_tree (He.ga K "is_one_tree") [] ∧ mg "is_one_tree" = some (.ref (He.ga K "is_one_tree")) ∧ FnV K "all_names" "all_names" s_all_names (He.ga K "all_names") [] ∧ mg "all_names" = some (.ref (He.ga K "all_names")) ∧ FnV K "holders" "holders" s_holders (He.ga K "holders") [] ∧ mg "holders" = some (.ref (He.ga K "holders")) ∧ FnV K "path" "path" s_path (He.ga K "path") [] ∧ mg "path" = some (.ref (He.ga K "path")) ∧ FnV K "carried" "carried" s_carried (He.ga K "carried") [] ∧ mg "carried" = some (.ref (He.ga K "carried")) ∧ FnV K "_law_same" "_law_same" s__law_same (He.ga K "_law_same") [] ∧ mg "_law_same" = some (.ref (He.ga K "_law_same")) ∧ FnV K "_law_union" "_law_union" s__law_union (He.ga K "_law_union") [] ∧ mg "_law_union" = some (.ref (He.ga K "_law_union")) ∧ FnV K "_law_holders" "_law_holders" s__law_holders (He.ga K "_law_holders") [] ∧ mg "_law_holders" = some (.ref (He.ga K "_law_holders")) ∧ FnV K "_law_reached" "_law_reached" s__law_reached (He.ga K "_law_reached") [] ∧ mg "_law_reached" = some (.ref (He.ga K "_law_reached")) ∧ FnV K "_law_scattered" "_law_scattered" s__law_scattered (He.ga K "_law_scattered") [] ∧ mg "_law_scattered" = some (.ref (He.ga K "_law_scattered")) ∧ FnV K "_law_one_tree" "_law_one_tree" s__law_one_tree (He.ga K "_law_one_tree") [] ∧ mg "_law_one_tree" = some (.ref (He.ga K "_law_one_tree")) ∧ FnV K "_law_fits" "_law_fits" s__law_fits (He.ga K "_law_fits") [] ∧ mg "_law_fits" = some (.ref (He.ga K "_law_fits"))
def Zs (mg : Str → Option Value) : Prop := mg "all" = none ∧ mg "bool" = none ∧ mg "int" = none ∧ mg "isinstance" = none ∧ mg "len" = none ∧ mg "list" = none ∧ mg "min" = none ∧ mg "range" = none ∧ mg "set" = none ∧ mg "sorted" = none ∧ mg "str" = none ∧ mg "tuple" = none ∧ mg "zip" = none
def Gs (K : PySem.W.Frag) (mg : Str → Option Value) : Prop := (∃ t, mg "LETTERS" = some (.str ⟨[97, 98, 99, 100, 101, 102, 103, 104, 105, 106, 107, 108, 109, 110, 111, 112, 113, 114, 115, 116, 117, 118, 119, 120, 121, 122].toArray⟩ t)) ∧ (∃ t, mg "MOST_FACES" = some (.int 12 t)) ∧ (∃ t, mg "MOST_NAME" = some (.int 6 t)) ∧ (∃ t, mg "MOST_WIDTH" = some (.int 8 t))
def Qs (K : PySem.W.Frag) : Prop := True
def All (P : Program) (w : World) (K : PySem.W.Frag) (mg : Str → Option Value) (base : Heap) (n : Nat) : Prop := Ce P w K mg base n "law" 80 P_law ∧ Ce P w K mg base n "_law_bag" 0 P__law_bag ∧ Ce P w K mg base n "_law_take" 1 P__law_take ∧ Ce P w K mg base n "_law_of" 2 P__law_of ∧ Ce P w K mg base n "_law_names" 46 P__law_names ∧ Ce P w K mg base n "_law_mixed" 17 P__law_mixed ∧ Ce P w K mg base n "_law_faces" 61 P__law_faces ∧ Ce P w K mg base n "_law_family" 62 P__law_family ∧ Ce P w K mg base n "_law_tuples" 63 P__law_tuples ∧ Ce P w K mg base n "_law_drawn_ties" 64 P__law_drawn_ties ∧ Ce P w K mg base n "is_name" 41 P_is_name ∧ Ce P w K mg base n "is_face" 65 P_is_face ∧ Ce P w K mg base n "check_family" 66 P_check_family ∧ Ce P w K mg base n "is_integer" 45 P_is_integer ∧ Ce P w K mg base n "is_tie" 67 P_is_tie ∧ Ce P w K mg base n "linked" 68 P_linked ∧ Ce P w K mg base n "is_one_tree" 69 P_is_one_tree ∧ Ce P w K mg base n "all_names" 70 P_all_names ∧ Ce P w K mg base n "holders" 71 P_holders ∧ Ce P w K mg base n "path" 72 P_path ∧ Ce P w K mg base n "carried" 73 P_carried ∧ Ce P w K mg base n "_law_same" 16 P__law_same ∧ Ce P w K mg base n "_law_union" 74 P__law_union ∧ Ce P w K mg base n "_law_holders" 75 P__law_holders ∧ Ce P w K mg base n "_law_reached" 76 P__law_reached ∧ Ce P w K mg base n "_law_scattered" 77 P__law_scattered ∧ Ce P w K mg base n "_law_one_tree" 78 P__law_one_tree ∧ Ce P w K mg base n "_law_fits" 79 P__law_fits
theorem all_ok (hF : Fs K mg) (hZ : Zs mg) (hG : Gs K mg) (hQ : Qs K) (hS : base.NoSeer) (hT : P.given.tree = none) : ∀ n, All P w K mg base n := by
  obtain ⟨⟨fd0, F0⟩, m0, ⟨fd1, F1⟩, m1, ⟨fd2, F2⟩, m2, ⟨fd3, F3⟩, m3, ⟨fd4, F4⟩, m4, ⟨fd5, F5⟩, m5, ⟨fd6, F6⟩, m6, ⟨fd7, F7⟩, m7, ⟨fd8, F8⟩, m8, ⟨fd9, F9⟩, m9, ⟨fd10, F10⟩, m10, ⟨fd11, F11⟩, m11, ⟨fd12, F12⟩, m12, ⟨fd13, F13⟩, m13, ⟨fd14, F14⟩, m14, ⟨fd15, F15⟩, m15, ⟨fd16, F16⟩, m16, ⟨fd17, F17⟩, m17, ⟨fd18, F18⟩, m18, ⟨fd19, F19⟩, m19, ⟨fd20, F20⟩, m20, ⟨fd21, F21⟩, m21, ⟨fd22, F22⟩, m22, ⟨fd23, F23⟩, m23, ⟨fd24, F24⟩, m24, ⟨fd25, F25⟩, m25, ⟨fd26, F26⟩, m26, ⟨fd27, F27⟩, m27⟩ := hF
  obtain ⟨z_all, z_bool, z_int, z_isinstance, z_len, z_list, z_min, z_range, z_set, z_sorted, z_str, z_tuple, z_zip⟩ := hZ
  obtain ⟨g_LETTERS, g_MOST_FACES, g_MOST_NAME, g_MOST_WIDTH⟩ := hG
  have b0 : Binds K fd0 P_law [] := F0.bindsN fun _ _ _ _ _ _ us hl => match us, hl with | [_], _ => rfl
  have b1 : Binds K fd1 P__law_bag [] := F1.bindsN fun _ _ _ _ _ _ us hl => match us, hl with | [_], _ => rfl
  have b2 : Binds K fd2 P__law_take [] := F2.bindsN fun _ _ _ _ _ _ us hl => match us, hl with | [_, _], _ => rfl
  have b3 : Binds K fd3 P__law_of [] := F3.bindsN fun _ _ _ _ _ _ us hl => match us, hl with | [_, _], _ => rfl
  have b4 : Binds K fd4 P__law_names [] := F4.bindsN fun _ _ _ _ _ _ us hl => match us, hl with | [_, _], _ => rfl
  have b5 : Binds K fd5 P__law_mixed [] := F5.bindsN fun _ _ _ _ _ _ us hl => match us, hl with | [_, _], _ => rfl
  have b6 : Binds K fd6 P__law_faces [] := F6.bindsN fun _ _ _ _ _ _ us hl => match us, hl with | [_, _, _, _], _ => rfl
  have b7 : Binds K fd7 P__law_family [] := F7.bindsN fun _ _ _ _ _ _ us hl => match us, hl with | [_, _], _ => rfl
  have b8 : Binds K fd8 P__law_tuples [] := F8.bindsN fun _ _ _ _ _ _ us hl => match us, hl with | [_], _ => rfl
  have b9 : Binds K fd9 P__law_drawn_ties [] := F9.bindsN fun _ _ _ _ _ _ us hl => match us, hl with | [_, _], _ => rfl
  have b10 : Binds K fd10 P_is_name [] := F10.bindsN fun _ _ _ _ _ _ us hl => match us, hl with | [_], _ => rfl
  have b11 : Binds K fd11 P_is_face [] := F11.bindsN fun _ _ _ _ _ _ us hl => match us, hl with | [_, _], _ => rfl
  have b12 : Binds K fd12 P_check_family [] := F12.bindsN fun _ _ _ _ _ _ us hl => match us, hl with | [_], _ => rfl
  have b13 : Binds K fd13 P_is_integer [] := F13.bindsN fun _ _ _ _ _ _ us hl => match us, hl with | [_, _, _], _ => rfl
  have b14 : Binds K fd14 P_is_tie [] := F14.bindsN fun _ _ _ _ _ _ us hl => match us, hl with | [_, _], _ => rfl
  have b15 : Binds K fd15 P_linked [] := F15.bindsN fun _ _ _ _ _ _ us hl => match us, hl with | [_, _], _ => rfl
  have b16 : Binds K fd16 P_is_one_tree [] := F16.bindsN fun _ _ _ _ _ _ us hl => match us, hl with | [_, _], _ => rfl
  have b17 : Binds K fd17 P_all_names [] := F17.bindsN fun _ _ _ _ _ _ us hl => match us, hl with | [_], _ => rfl
  have b18 : Binds K fd18 P_holders [] := F18.bindsN fun _ _ _ _ _ _ us hl => match us, hl with | [_, _], _ => rfl
  have b19 : Binds K fd19 P_path [] := F19.bindsN fun _ _ _ _ _ _ us hl => match us, hl with | [_, _, _, _], _ => rfl
  have b20 : Binds K fd20 P_carried [] := F20.bindsN fun _ _ _ _ _ _ us hl => match us, hl with | [_, _], _ => rfl
  have b21 : Binds K fd21 P__law_same [] := F21.bindsN fun _ _ _ _ _ _ us hl => match us, hl with | [_, _], _ => rfl
  have b22 : Binds K fd22 P__law_union [] := F22.bindsN fun _ _ _ _ _ _ us hl => match us, hl with | [_], _ => rfl
  have b23 : Binds K fd23 P__law_holders [] := F23.bindsN fun _ _ _ _ _ _ us hl => match us, hl with | [_, _], _ => rfl
  have b24 : Binds K fd24 P__law_reached [] := F24.bindsN fun _ _ _ _ _ _ us hl => match us, hl with | [_, _], _ => rfl
  have b25 : Binds K fd25 P__law_scattered [] := F25.bindsN fun _ _ _ _ _ _ us hl => match us, hl with | [_, _], _ => rfl
  have b26 : Binds K fd26 P__law_one_tree [] := F26.bindsN fun _ _ _ _ _ _ us hl => match us, hl with | [_, _], _ => rfl
  have b27 : Binds K fd27 P__law_fits [] := F27.bindsN fun _ _ _ _ _ _ us hl => match us, hl with | [_, _], _ => rfl
  intro n
  induction n with
  | zero => exact ⟨⟨⟨_, fd0, fn_zero, m0, F0.kp, b0, lk_of F0⟩, fun _ _ _ _ h => callN_len (hF := show FT 80 = some ⟨1, 13, T_law_k24⟩ from rfl) rfl h⟩,
      ⟨⟨_, fd1, fn_zero, m1, F1.kp, b1, lk_of F1⟩, fun _ _ _ _ h => callN_len (hF := show FT 0 = some ⟨1, 4, T__law_bag⟩ from rfl) rfl h⟩,
      ⟨⟨_, fd2, fn_zero, m2, F2.kp, b2, lk_of F2⟩, fun _ _ _ _ h => callN_len (hF := show FT 1 = some ⟨2, 5, T__law_take⟩ from rfl) rfl h⟩,
      ⟨⟨_, fd3, fn_zero, m3, F3.kp, b3, lk_of F3⟩, fun _ _ _ _ h => callN_len (hF := show FT 2 = some ⟨2, 2, T__law_of⟩ from rfl) rfl h⟩,
      ⟨⟨_, fd4, fn_zero, m4, F4.kp, b4, lk_of F4⟩, fun _ _ _ _ h => callN_len (hF := show FT 46 = some ⟨2, 8, T__law_names⟩ from rfl) rfl h⟩,
      ⟨⟨_, fd5, fn_zero, m5, F5.kp, b5, lk_of F5⟩, fun _ _ _ _ h => callN_len (hF := show FT 17 = some ⟨2, 4, T__law_mixed⟩ from rfl) rfl h⟩,
      ⟨⟨_, fd6, fn_zero, m6, F6.kp, b6, lk_of F6⟩, fun _ _ _ _ h => callN_len (hF := show FT 61 = some ⟨4, 10, T__law_faces⟩ from rfl) rfl h⟩,
      ⟨⟨_, fd7, fn_zero, m7, F7.kp, b7, lk_of F7⟩, fun _ _ _ _ h => callN_len (hF := show FT 62 = some ⟨2, 11, T__law_family⟩ from rfl) rfl h⟩,
      ⟨⟨_, fd8, fn_zero, m8, F8.kp, b8, lk_of F8⟩, fun _ _ _ _ h => callN_len (hF := show FT 63 = some ⟨1, 2, T__law_tuples⟩ from rfl) rfl h⟩,
      ⟨⟨_, fd9, fn_zero, m9, F9.kp, b9, lk_of F9⟩, fun _ _ _ _ h => callN_len (hF := show FT 64 = some ⟨2, 7, T__law_drawn_ties⟩ from rfl) rfl h⟩,
      ⟨⟨_, fd10, fn_zero, m10, F10.kp, b10, lk_of F10⟩, fun _ _ _ _ h => callN_len (hF := show FT 41 = some ⟨1, 2, T_is_name⟩ from rfl) rfl h⟩,
      ⟨⟨_, fd11, fn_zero, m11, F11.kp, b11, lk_of F11⟩, fun _ _ _ _ h => callN_len (hF := show FT 65 = some ⟨2, 3, T_is_face⟩ from rfl) rfl h⟩,
      ⟨⟨_, fd12, fn_zero, m12, F12.kp, b12, lk_of F12⟩, fun _ _ _ _ h => callN_len (hF := show FT 66 = some ⟨1, 2, T_check_family⟩ from rfl) rfl h⟩,
      ⟨⟨_, fd13, fn_zero, m13, F13.kp, b13, lk_of F13⟩, fun _ _ _ _ h => callN_len (hF := show FT 45 = some ⟨3, 3, T_is_integer⟩ from rfl) rfl h⟩,
      ⟨⟨_, fd14, fn_zero, m14, F14.kp, b14, lk_of F14⟩, fun _ _ _ _ h => callN_len (hF := show FT 67 = some ⟨2, 3, T_is_tie⟩ from rfl) rfl h⟩,
      ⟨⟨_, fd15, fn_zero, m15, F15.kp, b15, lk_of F15⟩, fun _ _ _ _ h => callN_len (hF := show FT 68 = some ⟨2, 6, T_linked⟩ from rfl) rfl h⟩,
      ⟨⟨_, fd16, fn_zero, m16, F16.kp, b16, lk_of F16⟩, fun _ _ _ _ h => callN_len (hF := show FT 69 = some ⟨2, 2, T_is_one_tree⟩ from rfl) rfl h⟩,
      ⟨⟨_, fd17, fn_zero, m17, F17.kp, b17, lk_of F17⟩, fun _ _ _ _ h => callN_len (hF := show FT 70 = some ⟨1, 3, T_all_names⟩ from rfl) rfl h⟩,
      ⟨⟨_, fd18, fn_zero, m18, F18.kp, b18, lk_of F18⟩, fun _ _ _ _ h => callN_len (hF := show FT 71 = some ⟨2, 3, T_holders⟩ from rfl) rfl h⟩,
      ⟨⟨_, fd19, fn_zero, m19, F19.kp, b19, lk_of F19⟩, fun _ _ _ _ h => callN_len (hF := show FT 72 = some ⟨4, 9, T_path⟩ from rfl) rfl h⟩,
      ⟨⟨_, fd20, fn_zero, m20, F20.kp, b20, lk_of F20⟩, fun _ _ _ _ h => callN_len (hF := show FT 73 = some ⟨2, 11, T_carried⟩ from rfl) rfl h⟩,
      ⟨⟨_, fd21, fn_zero, m21, F21.kp, b21, lk_of F21⟩, fun _ _ _ _ h => callN_len (hF := show FT 16 = some ⟨2, 4, T__law_same⟩ from rfl) rfl h⟩,
      ⟨⟨_, fd22, fn_zero, m22, F22.kp, b22, lk_of F22⟩, fun _ _ _ _ h => callN_len (hF := show FT 74 = some ⟨1, 3, T__law_union⟩ from rfl) rfl h⟩,
      ⟨⟨_, fd23, fn_zero, m23, F23.kp, b23, lk_of F23⟩, fun _ _ _ _ h => callN_len (hF := show FT 75 = some ⟨2, 3, T__law_holders⟩ from rfl) rfl h⟩,
      ⟨⟨_, fd24, fn_zero, m24, F24.kp, b24, lk_of F24⟩, fun _ _ _ _ h => callN_len (hF := show FT 76 = some ⟨2, 6, T__law_reached⟩ from rfl) rfl h⟩,
      ⟨⟨_, fd25, fn_zero, m25, F25.kp, b25, lk_of F25⟩, fun _ _ _ _ h => callN_len (hF := show FT 77 = some ⟨2, 5, T__law_scattered⟩ from rfl) rfl h⟩,
      ⟨⟨_, fd26, fn_zero, m26, F26.kp, b26, lk_of F26⟩, fun _ _ _ _ h => callN_len (hF := show FT 78 = some ⟨2, 2, T__law_one_tree⟩ from rfl) rfl h⟩,
      ⟨⟨_, fd27, fn_zero, m27, F27.kp, b27, lk_of F27⟩, fun _ _ _ _ h => callN_len (hF := show FT 79 = some ⟨2, 2, T__law_fits⟩ from rfl) rfl h⟩⟩
  | succ n IH =>
    obtain ⟨C_law, C__law_bag, C__law_take, C__law_of, C__law_names, C__law_mixed, C__law_faces, C__law_family, C__law_tuples, C__law_drawn_ties, C_is_name, C_is_face, C_check_family, C_is_integer, C_is_tie, C_linked, C_is_one_tree, C_all_names, C_holders, C_path, C_carried, C__law_same, C__law_union, C__law_holders, C__law_reached, C__law_scattered, C__law_one_tree, C__law_fits⟩ := IH
    have k0 : FnOk P w K mg base CX0 (2 * (n + 1) + 40) (He.ga K "law") fd0 P_law (spOf K (VM.callN FT (n + 1)) 80 P_law.length) := fn_succ F0 sc_law (show FT 80 = some ⟨1, 13, T_law_k24⟩ from rfl) rfl rfl fun cdv A outer s H E hr => b_law C__law_bag C__law_drawn_ties C__law_family C__law_fits C__law_same C__law_scattered C__law_tuples C__law_union C_carried z_isinstance z_len z_list z_range z_set z_sorted z_tuple hr (dv_fn hS hT sc_law hr)
    have k1 : FnOk P w K mg base CX0 (2 * (n + 1) + 40) (He.ga K "_law_bag") fd1 P__law_bag (spOf K (VM.callN FT (n + 1)) 0 P__law_bag.length) := fn_succ F1 sc__law_bag (show FT 0 = some ⟨1, 4, T__law_bag⟩ from rfl) rfl rfl fun cdv A outer s H E hr => b__law_bag z_int z_len hr (dv_fn hS hT sc__law_bag hr)
    have k2 : FnOk P w K mg base CX0 (2 * (n + 1) + 40) (He.ga K "_law_take") fd2 P__law_take (spOf K (VM.callN FT (n + 1)) 1 P__law_take.length) := fn_succ F2 sc__law_take (show FT 1 = some ⟨2, 5, T__law_take⟩ from rfl) rfl rfl fun cdv A outer s H E hr => b__law_take z_int z_len hr (dv_fn hS hT sc__law_take hr)
    have k3 : FnOk P w K mg base CX0 (2 * (n + 1) + 40) (He.ga K "_law_of") fd3 P__law_of (spOf K (VM.callN FT (n + 1)) 2 P__law_of.length) := fn_succ F3 sc__law_of (show FT 2 = some ⟨2, 2, T__law_of⟩ from rfl) rfl rfl fun cdv A outer s H E hr => b__law_of C__law_take z_len hr (dv_fn hS hT sc__law_of hr)
    have k4 : FnOk P w K mg base CX0 (2 * (n + 1) + 40) (He.ga K "_law_names") fd4 P__law_names (spOf K (VM.callN FT (n + 1)) 46 P__law_names.length) := fn_succ F4 sc__law_names (show FT 46 = some ⟨2, 8, T__law_names⟩ from rfl) rfl rfl fun cdv A outer s H E hr => b__law_names C__law_of C__law_take z_int z_len z_range hr (dv_fn hS hT sc__law_names hr)
    have k5 : FnOk P w K mg base CX0 (2 * (n + 1) + 40) (He.ga K "_law_mixed") fd5 P__law_mixed (spOf K (VM.callN FT (n + 1)) 17 P__law_mixed.length) := fn_succ F5 sc__law_mixed (show FT 17 = some ⟨2, 4, T__law_mixed⟩ from rfl) rfl rfl fun cdv A outer s H E hr => b__law_mixed C__law_take z_len hr (dv_fn hS hT sc__law_mixed hr)
    have k6 : FnOk P w K mg base CX0 (2 * (n + 1) + 40) (He.ga K "_law_faces") fd6 P__law_faces (spOf K (VM.callN FT (n + 1)) 61 P__law_faces.length) := fn_succ F6 sc__law_faces (show FT 61 = some ⟨4, 10, T__law_faces⟩ from rfl) rfl rfl fun cdv A outer s H E hr => b__law_faces C__law_mixed C__law_take z_len z_list z_min z_range hr (dv_fn hS hT sc__law_faces hr)
    have k7 : FnOk P w K mg base CX0 (2 * (n + 1) + 40) (He.ga K "_law_family") fd7 P__law_family (spOf K (VM.callN FT (n + 1)) 62 P__law_family.length) := fn_succ F7 sc__law_family (show FT 62 = some ⟨2, 11, T__law_family⟩ from rfl) rfl rfl fun cdv A outer s H E hr => b__law_family C__law_faces C__law_mixed C__law_names C__law_of C__law_take z_int z_len z_range hr (dv_fn hS hT sc__law_family hr)
    have k8 : FnOk P w K mg base CX0 (2 * (n + 1) + 40) (He.ga K "_law_tuples") fd8 P__law_tuples (spOf K (VM.callN FT (n + 1)) 63 P__law_tuples.length) := fn_succ F8 sc__law_tuples (show FT 63 = some ⟨1, 2, T__law_tuples⟩ from rfl) rfl rfl fun cdv A outer s H E hr => b__law_tuples z_tuple hr (dv_fn hS hT sc__law_tuples hr)
    have k9 : FnOk P w K mg base CX0 (2 * (n + 1) + 40) (He.ga K "_law_drawn_ties") fd9 P__law_drawn_ties (spOf K (VM.callN FT (n + 1)) 64 P__law_drawn_ties.length) := fn_succ F9 sc__law_drawn_ties (show FT 64 = some ⟨2, 7, T__law_drawn_ties⟩ from rfl) rfl rfl fun cdv A outer s H E hr => b__law_drawn_ties C__law_mixed C__law_take z_list z_range hr (dv_fn hS hT sc__law_drawn_ties hr)
    have k10 : FnOk P w K mg base CX0 (2 * (n + 1) + 40) (He.ga K "is_name") fd10 P_is_name (spOf K (VM.callN FT (n + 1)) 41 P_is_name.length) := fn_succ F10 sc_is_name (show FT 41 = some ⟨1, 2, T_is_name⟩ from rfl) rfl rfl fun cdv A outer s H E hr => b_is_name g_LETTERS g_MOST_NAME z_all z_isinstance z_len z_str hr (dv_fn hS hT sc_is_name hr)
    have k11 : FnOk P w K mg base CX0 (2 * (n + 1) + 40) (He.ga K "is_face") fd11 P_is_face (spOf K (VM.callN FT (n + 1)) 65 P_is_face.length) := fn_succ F11 sc_is_face (show FT 65 = some ⟨2, 3, T_is_face⟩ from rfl) rfl rfl fun cdv A outer s H E hr => b_is_face C_is_name z_all z_isinstance z_len z_set z_tuple hr (dv_fn hS hT sc_is_face hr)
    have k12 : FnOk P w K mg base CX0 (2 * (n + 1) + 40) (He.ga K "check_family") fd12 P_check_family (spOf K (VM.callN FT (n + 1)) 66 P_check_family.length) := fn_succ F12 sc_check_family (show FT 66 = some ⟨1, 2, T_check_family⟩ from rfl) rfl rfl fun cdv A outer s H E hr => b_check_family C_is_face g_MOST_FACES g_MOST_WIDTH z_isinstance z_len z_list z_range z_tuple hr (dv_fn hS hT sc_check_family hr)
    have k13 : FnOk P w K mg base CX0 (2 * (n + 1) + 40) (He.ga K "is_integer") fd13 P_is_integer (spOf K (VM.callN FT (n + 1)) 45 P_is_integer.length) := fn_succ F13 sc_is_integer (show FT 45 = some ⟨3, 3, T_is_integer⟩ from rfl) rfl rfl fun cdv A outer s H E hr => b_is_integer z_bool z_int z_isinstance hr (dv_fn hS hT sc_is_integer hr)
    have k14 : FnOk P w K mg base CX0 (2 * (n + 1) + 40) (He.ga K "is_tie") fd14 P_is_tie (spOf K (VM.callN FT (n + 1)) 67 P_is_tie.length) := fn_succ F14 sc_is_tie (show FT 67 = some ⟨2, 3, T_is_tie⟩ from rfl) rfl rfl fun cdv A outer s H E hr => b_is_tie C_is_integer z_all z_isinstance z_len z_tuple hr (dv_fn hS hT sc_is_tie hr)
    have k15 : FnOk P w K mg base CX0 (2 * (n + 1) + 40) (He.ga K "linked") fd15 P_linked (spOf K (VM.callN FT (n + 1)) 68 P_linked.length) := fn_succ F15 sc_linked (show FT 68 = some ⟨2, 6, T_linked⟩ from rfl) rfl rfl fun cdv A outer s H E hr => b_linked z_len z_list z_range hr (dv_fn hS hT sc_linked hr)
    have k16 : FnOk P w K mg base CX0 (2 * (n + 1) + 40) (He.ga K "is_one_tree") fd16 P_is_one_tree (spOf K (VM.callN FT (n + 1)) 69 P_is_one_tree.length) := fn_succ F16 sc_is_one_tree (show FT 69 = some ⟨2, 2, T_is_one_tree⟩ from rfl) rfl rfl fun cdv A outer s H E hr => b_is_one_tree C_linked z_len z_list z_range hr (dv_fn hS hT sc_is_one_tree hr)
    have k17 : FnOk P w K mg base CX0 (2 * (n + 1) + 40) (He.ga K "all_names") fd17 P_all_names (spOf K (VM.callN FT (n + 1)) 70 P_all_names.length) := fn_succ F17 sc_all_names (show FT 70 = some ⟨1, 3, T_all_names⟩ from rfl) rfl rfl fun cdv A outer s H E hr => b_all_names z_set z_sorted hr (dv_fn hS hT sc_all_names hr)
    have k18 : FnOk P w K mg base CX0 (2 * (n + 1) + 40) (He.ga K "holders") fd18 P_holders (spOf K (VM.callN FT (n + 1)) 71 P_holders.length) := fn_succ F18 sc_holders (show FT 71 = some ⟨2, 3, T_holders⟩ from rfl) rfl rfl fun cdv A outer s H E hr => b_holders z_len z_range hr (dv_fn hS hT sc_holders hr)
    have k19 : FnOk P w K mg base CX0 (2 * (n + 1) + 40) (He.ga K "path") fd19 P_path (spOf K (VM.callN FT (n + 1)) 72 P_path.length) := fn_succ F19 sc_path (show FT 72 = some ⟨4, 9, T_path⟩ from rfl) rfl rfl fun cdv A outer s H E hr => b_path z_range hr (dv_fn hS hT sc_path hr)
    have k20 : FnOk P w K mg base CX0 (2 * (n + 1) + 40) (He.ga K "carried") fd20 P_carried (spOf K (VM.callN FT (n + 1)) 73 P_carried.length) := fn_succ F20 sc_carried (show FT 73 = some ⟨2, 11, T_carried⟩ from rfl) rfl rfl fun cdv A outer s H E hr => b_carried C_all_names C_check_family C_holders C_is_one_tree C_is_tie C_path z_isinstance z_len z_list z_range z_tuple z_zip hr (dv_fn hS hT sc_carried hr)
    have k21 : FnOk P w K mg base CX0 (2 * (n + 1) + 40) (He.ga K "_law_same") fd21 P__law_same (spOf K (VM.callN FT (n + 1)) 16 P__law_same.length) := fn_succ F21 sc__law_same (show FT 16 = some ⟨2, 4, T__law_same⟩ from rfl) rfl rfl fun cdv A outer s H E hr => b__law_same C__law_same z_all z_bool z_int z_isinstance z_len z_list z_str z_tuple z_zip hr (dv_fn hS hT sc__law_same hr)
    have k22 : FnOk P w K mg base CX0 (2 * (n + 1) + 40) (He.ga K "_law_union") fd22 P__law_union (spOf K (VM.callN FT (n + 1)) 74 P__law_union.length) := fn_succ F22 sc__law_union (show FT 74 = some ⟨1, 3, T__law_union⟩ from rfl) rfl rfl fun cdv A outer s H E hr => b__law_union z_list z_set z_sorted hr (dv_fn hS hT sc__law_union hr)
    have k23 : FnOk P w K mg base CX0 (2 * (n + 1) + 40) (He.ga K "_law_holders") fd23 P__law_holders (spOf K (VM.callN FT (n + 1)) 75 P__law_holders.length) := fn_succ F23 sc__law_holders (show FT 75 = some ⟨2, 3, T__law_holders⟩ from rfl) rfl rfl fun cdv A outer s H E hr => b__law_holders z_len z_range hr (dv_fn hS hT sc__law_holders hr)
    have k24 : FnOk P w K mg base CX0 (2 * (n + 1) + 40) (He.ga K "_law_reached") fd24 P__law_reached (spOf K (VM.callN FT (n + 1)) 76 P__law_reached.length) := fn_succ F24 sc__law_reached (show FT 76 = some ⟨2, 6, T__law_reached⟩ from rfl) rfl rfl fun cdv A outer s H E hr => b__law_reached z_len z_range hr (dv_fn hS hT sc__law_reached hr)
    have k25 : FnOk P w K mg base CX0 (2 * (n + 1) + 40) (He.ga K "_law_scattered") fd25 P__law_scattered (spOf K (VM.callN FT (n + 1)) 77 P__law_scattered.length) := fn_succ F25 sc__law_scattered (show FT 77 = some ⟨2, 5, T__law_scattered⟩ from rfl) rfl rfl fun cdv A outer s H E hr => b__law_scattered C__law_holders C__law_reached C__law_union z_len hr (dv_fn hS hT sc__law_scattered hr)
    have k26 : FnOk P w K mg base CX0 (2 * (n + 1) + 40) (He.ga K "_law_one_tree") fd26 P__law_one_tree (spOf K (VM.callN FT (n + 1)) 78 P__law_one_tree.length) := fn_succ F26 sc__law_one_tree (show FT 78 = some ⟨2, 2, T__law_one_tree⟩ from rfl) rfl rfl fun cdv A outer s H E hr => b__law_one_tree C__law_reached z_len z_list z_range hr (dv_fn hS hT sc__law_one_tree hr)
    have k27 : FnOk P w K mg base CX0 (2 * (n + 1) + 40) (He.ga K "_law_fits") fd27 P__law_fits (spOf K (VM.callN FT (n + 1)) 79 P__law_fits.length) := fn_succ F27 sc__law_fits (show FT 79 = some ⟨2, 2, T__law_fits⟩ from rfl) rfl rfl fun cdv A outer s H E hr => b__law_fits C__law_one_tree C__law_scattered z_len hr (dv_fn hS hT sc__law_fits hr)
    exact ⟨⟨⟨_, fd0, k0, m0, F0.kp, b0, lk_of F0⟩, fun _ _ _ _ h => callN_len (hF := show FT 80 = some ⟨1, 13, T_law_k24⟩ from rfl) rfl h⟩,
      ⟨⟨_, fd1, k1, m1, F1.kp, b1, lk_of F1⟩, fun _ _ _ _ h => callN_len (hF := show FT 0 = some ⟨1, 4, T__law_bag⟩ from rfl) rfl h⟩,
      ⟨⟨_, fd2, k2, m2, F2.kp, b2, lk_of F2⟩, fun _ _ _ _ h => callN_len (hF := show FT 1 = some ⟨2, 5, T__law_take⟩ from rfl) rfl h⟩,
      ⟨⟨_, fd3, k3, m3, F3.kp, b3, lk_of F3⟩, fun _ _ _ _ h => callN_len (hF := show FT 2 = some ⟨2, 2, T__law_of⟩ from rfl) rfl h⟩,
      ⟨⟨_, fd4, k4, m4, F4.kp, b4, lk_of F4⟩, fun _ _ _ _ h => callN_len (hF := show FT 46 = some ⟨2, 8, T__law_names⟩ from rfl) rfl h⟩,
      ⟨⟨_, fd5, k5, m5, F5.kp, b5, lk_of F5⟩, fun _ _ _ _ h => callN_len (hF := show FT 17 = some ⟨2, 4, T__law_mixed⟩ from rfl) rfl h⟩,
      ⟨⟨_, fd6, k6, m6, F6.kp, b6, lk_of F6⟩, fun _ _ _ _ h => callN_len (hF := show FT 61 = some ⟨4, 10, T__law_faces⟩ from rfl) rfl h⟩,
      ⟨⟨_, fd7, k7, m7, F7.kp, b7, lk_of F7⟩, fun _ _ _ _ h => callN_len (hF := show FT 62 = some ⟨2, 11, T__law_family⟩ from rfl) rfl h⟩,
      ⟨⟨_, fd8, k8, m8, F8.kp, b8, lk_of F8⟩, fun _ _ _ _ h => callN_len (hF := show FT 63 = some ⟨1, 2, T__law_tuples⟩ from rfl) rfl h⟩,
      ⟨⟨_, fd9, k9, m9, F9.kp, b9, lk_of F9⟩, fun _ _ _ _ h => callN_len (hF := show FT 64 = some ⟨2, 7, T__law_drawn_ties⟩ from rfl) rfl h⟩,
      ⟨⟨_, fd10, k10, m10, F10.kp, b10, lk_of F10⟩, fun _ _ _ _ h => callN_len (hF := show FT 41 = some ⟨1, 2, T_is_name⟩ from rfl) rfl h⟩,
      ⟨⟨_, fd11, k11, m11, F11.kp, b11, lk_of F11⟩, fun _ _ _ _ h => callN_len (hF := show FT 65 = some ⟨2, 3, T_is_face⟩ from rfl) rfl h⟩,
      ⟨⟨_, fd12, k12, m12, F12.kp, b12, lk_of F12⟩, fun _ _ _ _ h => callN_len (hF := show FT 66 = some ⟨1, 2, T_check_family⟩ from rfl) rfl h⟩,
      ⟨⟨_, fd13, k13, m13, F13.kp, b13, lk_of F13⟩, fun _ _ _ _ h => callN_len (hF := show FT 45 = some ⟨3, 3, T_is_integer⟩ from rfl) rfl h⟩,
      ⟨⟨_, fd14, k14, m14, F14.kp, b14, lk_of F14⟩, fun _ _ _ _ h => callN_len (hF := show FT 67 = some ⟨2, 3, T_is_tie⟩ from rfl) rfl h⟩,
      ⟨⟨_, fd15, k15, m15, F15.kp, b15, lk_of F15⟩, fun _ _ _ _ h => callN_len (hF := show FT 68 = some ⟨2, 6, T_linked⟩ from rfl) rfl h⟩,
      ⟨⟨_, fd16, k16, m16, F16.kp, b16, lk_of F16⟩, fun _ _ _ _ h => callN_len (hF := show FT 69 = some ⟨2, 2, T_is_one_tree⟩ from rfl) rfl h⟩,
      ⟨⟨_, fd17, k17, m17, F17.kp, b17, lk_of F17⟩, fun _ _ _ _ h => callN_len (hF := show FT 70 = some ⟨1, 3, T_all_names⟩ from rfl) rfl h⟩,
      ⟨⟨_, fd18, k18, m18, F18.kp, b18, lk_of F18⟩, fun _ _ _ _ h => callN_len (hF := show FT 71 = some ⟨2, 3, T_holders⟩ from rfl) rfl h⟩,
      ⟨⟨_, fd19, k19, m19, F19.kp, b19, lk_of F19⟩, fun _ _ _ _ h => callN_len (hF := show FT 72 = some ⟨4, 9, T_path⟩ from rfl) rfl h⟩,
      ⟨⟨_, fd20, k20, m20, F20.kp, b20, lk_of F20⟩, fun _ _ _ _ h => callN_len (hF := show FT 73 = some ⟨2, 11, T_carried⟩ from rfl) rfl h⟩,
      ⟨⟨_, fd21, k21, m21, F21.kp, b21, lk_of F21⟩, fun _ _ _ _ h => callN_len (hF := show FT 16 = some ⟨2, 4, T__law_same⟩ from rfl) rfl h⟩,
      ⟨⟨_, fd22, k22, m22, F22.kp, b22, lk_of F22⟩, fun _ _ _ _ h => callN_len (hF := show FT 74 = some ⟨1, 3, T__law_union⟩ from rfl) rfl h⟩,
      ⟨⟨_, fd23, k23, m23, F23.kp, b23, lk_of F23⟩, fun _ _ _ _ h => callN_len (hF := show FT 75 = some ⟨2, 3, T__law_holders⟩ from rfl) rfl h⟩,
      ⟨⟨_, fd24, k24, m24, F24.kp, b24, lk_of F24⟩, fun _ _ _ _ h => callN_len (hF := show FT 76 = some ⟨2, 6, T__law_reached⟩ from rfl) rfl h⟩,
      ⟨⟨_, fd25, k25, m25, F25.kp, b25, lk_of F25⟩, fun _ _ _ _ h => callN_len (hF := show FT 77 = some ⟨2, 5, T__law_scattered⟩ from rfl) rfl h⟩,
      ⟨⟨_, fd26, k26, m26, F26.kp, b26, lk_of F26⟩, fun _ _ _ _ h => callN_len (hF := show FT 78 = some ⟨2, 2, T__law_one_tree⟩ from rfl) rfl h⟩,
      ⟨⟨_, fd27, k27, m27, F27.kp, b27, lk_of F27⟩, fun _ _ _ _ h => callN_len (hF := show FT 79 = some ⟨2, 2, T__law_fits⟩ from rfl) rfl h⟩⟩
end
end L_k24
theorem L_k24.law_true (is : List Int) (hl : is.length ≤ 63) : VM.callN L_k24.FT 90 80 [.scr is] [] (fun v _ => v = .bl true) VS.nox := VP.law_true24 is hl _
set_option maxHeartbeats 0
namespace L_k24
open PySem PySem.Spec PyProof.Rows L2 VS
def d_law : DefV := ⟨fun K => He.ga K "law", "law", "law", defArgs s_law, defBody s_law, defScope s_law, []⟩
def d__law_bag : DefV := ⟨fun K => He.ga K "_law_bag", "_law_bag", "_law_bag", defArgs s__law_bag, defBody s__law_bag, defScope s__law_bag, []⟩
def d__law_take : DefV := ⟨fun K => He.ga K "_law_take", "_law_take", "_law_take", defArgs s__law_take, defBody s__law_take, defScope s__law_take, []⟩
def d__law_of : DefV := ⟨fun K => He.ga K "_law_of", "_law_of", "_law_of", defArgs s__law_of, defBody s__law_of, defScope s__law_of, []⟩
def d__law_names : DefV := ⟨fun K => He.ga K "_law_names", "_law_names", "_law_names", defArgs s__law_names, defBody s__law_names, defScope s__law_names, []⟩
def d__law_mixed : DefV := ⟨fun K => He.ga K "_law_mixed", "_law_mixed", "_law_mixed", defArgs s__law_mixed, defBody s__law_mixed, defScope s__law_mixed, []⟩
def d__law_faces : DefV := ⟨fun K => He.ga K "_law_faces", "_law_faces", "_law_faces", defArgs s__law_faces, defBody s__law_faces, defScope s__law_faces, []⟩
def d__law_family : DefV := ⟨fun K => He.ga K "_law_family", "_law_family", "_law_family", defArgs s__law_family, defBody s__law_family, defScope s__law_family, []⟩
def d__law_tuples : DefV := ⟨fun K => He.ga K "_law_tuples", "_law_tuples", "_law_tuples", defArgs s__law_tuples, defBody s__law_tuples, defScope s__law_tuples, []⟩
def d__law_drawn_ties : DefV := ⟨fun K => He.ga K "_law_drawn_ties", "_law_drawn_ties", "_law_drawn_ties", defArgs s__law_drawn_ties, defBody s__law_drawn_ties, defScope s__law_drawn_ties, []⟩
def d_is_name : DefV := ⟨fun K => He.ga K "is_name", "is_name", "is_name", defArgs s_is_name, defBody s_is_name, defScope s_is_name, []⟩
def d_is_face : DefV := ⟨fun K => He.ga K "is_face", "is_face", "is_face", defArgs s_is_face, defBody s_is_face, defScope s_is_face, []⟩
def d_check_family : DefV := ⟨fun K => He.ga K "check_family", "check_family", "check_family", defArgs s_check_family, defBody s_check_family, defScope s_check_family, []⟩
def d_is_integer : DefV := ⟨fun K => He.ga K "is_integer", "is_integer", "is_integer", defArgs s_is_integer, defBody s_is_integer, defScope s_is_integer, []⟩
def d_is_tie : DefV := ⟨fun K => He.ga K "is_tie", "is_tie", "is_tie", defArgs s_is_tie, defBody s_is_tie, defScope s_is_tie, []⟩
def d_linked : DefV := ⟨fun K => He.ga K "linked", "linked", "linked", defArgs s_linked, defBody s_linked, defScope s_linked, []⟩
def d_is_one_tree : DefV := ⟨fun K => He.ga K "is_one_tree", "is_one_tree", "is_one_tree", defArgs s_is_one_tree, defBody s_is_one_tree, defScope s_is_one_tree, []⟩
def d_all_names : DefV := ⟨fun K => He.ga K "all_names", "all_names", "all_names", defArgs s_all_names, defBody s_all_names, defScope s_all_names, []⟩
def d_holders : DefV := ⟨fun K => He.ga K "holders", "holders", "holders", defArgs s_holders, defBody s_holders, defScope s_holders, []⟩
def d_path : DefV := ⟨fun K => He.ga K "path", "path", "path", defArgs s_path, defBody s_path, defScope s_path, []⟩
def d_carried : DefV := ⟨fun K => He.ga K "carried", "carried", "carried", defArgs s_carried, defBody s_carried, defScope s_carried, []⟩
def d__law_same : DefV := ⟨fun K => He.ga K "_law_same", "_law_same", "_law_same", defArgs s__law_same, defBody s__law_same, defScope s__law_same, []⟩
def d__law_union : DefV := ⟨fun K => He.ga K "_law_union", "_law_union", "_law_union", defArgs s__law_union, defBody s__law_union, defScope s__law_union, []⟩
def d__law_holders : DefV := ⟨fun K => He.ga K "_law_holders", "_law_holders", "_law_holders", defArgs s__law_holders, defBody s__law_holders, defScope s__law_holders, []⟩
def d__law_reached : DefV := ⟨fun K => He.ga K "_law_reached", "_law_reached", "_law_reached", defArgs s__law_reached, defBody s__law_reached, defScope s__law_reached, []⟩
def d__law_scattered : DefV := ⟨fun K => He.ga K "_law_scattered", "_law_scattered", "_law_scattered", defArgs s__law_scattered, defBody s__law_scattered, defScope s__law_scattered, []⟩
def d__law_one_tree : DefV := ⟨fun K => He.ga K "_law_one_tree", "_law_one_tree", "_law_one_tree", defArgs s__law_one_tree, defBody s__law_one_tree, defScope s__law_one_tree, []⟩
def d__law_fits : DefV := ⟨fun K => He.ga K "_law_fits", "_law_fits", "_law_fits", defArgs s__law_fits, defBody s__law_fits, defScope s__law_fits, []⟩
def fn : List DefV := [d_law, d__law_bag, d__law_take, d__law_of, d__law_names, d__law_mixed, d__law_faces, d__law_family, d__law_tuples, d__law_drawn_ties, d_is_name, d_is_face, d_check_family, d_is_integer, d_is_tie, d_linked, d_is_one_tree, d_all_names, d_holders, d_path, d_carried, d__law_same, d__law_union, d__law_holders, d__law_reached, d__law_scattered, d__law_one_tree, d__law_fits]
def fa : List He.Fa := [.glo "law", .glo "_law_bag", .glo "_law_take", .glo "_law_of", .glo "_law_names", .glo "_law_mixed", .glo "_law_faces", .glo "_law_family", .glo "_law_tuples", .glo "_law_drawn_ties", .glo "is_name", .glo "is_face", .glo "check_family", .glo "is_integer", .glo "is_tie", .glo "linked", .glo "is_one_tree", .glo "all_names", .glo "holders", .glo "path", .glo "carried", .glo "_law_same", .glo "_law_union", .glo "_law_holders", .glo "_law_reached", .glo "_law_scattered", .glo "_law_one_tree", .glo "_law_fits", .free "all", .free "bool", .free "int", .free "isinstance", .free "len", .free "list", .free "min", .free "range", .free "set", .free "sorted", .free "str", .free "tuple", .free "zip", .str "LETTERS" "abcdefghijklmnopqrstuvwxyz", .int "MOST_FACES" 12, .int "MOST_NAME" 6, .int "MOST_WIDTH" 8]
def ex (K : PySem.W.Frag) : Bool := true
abbrev R : PySem.W.OpenRow := PySem.W.OpenLaw.row PySem.Challenge.rw_whatcrosses_k24_whole_faces_carried
abbrev hk : PySem.W.Hook := hookV 5 fa fn ex
def ob (s : PySem.W.SharedT) : AlV := obsVG 5 fa fn ex (HandSHeadRun.getT s)
theorem ob_eq (s : PySem.W.SharedT) : ob s = hk.obs s.abs := obsVG_eq (HandSHeadRun.getT_eq s)
def names0 : List PySem.Str := ["__name__", "CrossError", "InvalidFace", "InvalidTie", "NoTree", "LETTERS", "MOST_NAME", "is_name", "is_integer", "MOST_FACES", "MOST_WIDTH", "is_face", "check_family", "all_names", "is_tie", "linked"]
def names1 : List PySem.Str := ["is_one_tree", "holders", "path", "carried", "_law_bag", "_law_take", "_law_of", "_law_mixed", "_law_same", "_law_names", "_law_union", "_law_faces", "_law_reached", "_law_holders", "_law_one_tree", "_law_scattered"]
def names2 : List PySem.Str := ["_law_fits", "_law_family", "_law_tuples", "_law_drawn_ties"]
def names : List PySem.Str := names0 ++ names1 ++ names2
theorem run (w : World) : HandSHeadRun.RunEq R (PySem.W.view R.prog [39]) hk ob 40000 names w := by
  intro os
  kernel_rfl
theorem facts {K : PySem.W.Frag} {h : Heap} {mg : Str → Option Value} (X : K.In h) (G : h.Ns mainGlobals mg) (c : SaysV fa fn ex K) : Fs K mg ∧ Zs mg ∧ Gs K mg ∧ Qs K := by
  exact ⟨⟨c.def_ 0 (d := d_law) rfl, He.glo_ok X G (c.fact 0 (f := .glo "law") rfl), c.def_ 1 (d := d__law_bag) rfl, He.glo_ok X G (c.fact 1 (f := .glo "_law_bag") rfl), c.def_ 2 (d := d__law_take) rfl, He.glo_ok X G (c.fact 2 (f := .glo "_law_take") rfl), c.def_ 3 (d := d__law_of) rfl, He.glo_ok X G (c.fact 3 (f := .glo "_law_of") rfl), c.def_ 4 (d := d__law_names) rfl, He.glo_ok X G (c.fact 4 (f := .glo "_law_names") rfl), c.def_ 5 (d := d__law_mixed) rfl, He.glo_ok X G (c.fact 5 (f := .glo "_law_mixed") rfl), c.def_ 6 (d := d__law_faces) rfl, He.glo_ok X G (c.fact 6 (f := .glo "_law_faces") rfl), c.def_ 7 (d := d__law_family) rfl, He.glo_ok X G (c.fact 7 (f := .glo "_law_family") rfl), c.def_ 8 (d := d__law_tuples) rfl, He.glo_ok X G (c.fact 8 (f := .glo "_law_tuples") rfl), c.def_ 9 (d := d__law_drawn_ties) rfl, He.glo_ok X G (c.fact 9 (f := .glo "_law_drawn_ties") rfl), c.def_ 10 (d := d_is_name) rfl, He.glo_ok X G (c.fact 10 (f := .glo "is_name") rfl), c.def_ 11 (d := d_is_face) rfl, He.glo_ok X G (c.fact 11 (f := .glo "is_face") rfl), c.def_ 12 (d := d_check_family) rfl, He.glo_ok X G (c.fact 12 (f := .glo "check_family") rfl), c.def_ 13 (d := d_is_integer) rfl, He.glo_ok X G (c.fact 13 (f := .glo "is_integer") rfl), c.def_ 14 (d := d_is_tie) rfl, He.glo_ok X G (c.fact 14 (f := .glo "is_tie") rfl), c.def_ 15 (d := d_linked) rfl, He.glo_ok X G (c.fact 15 (f := .glo "linked") rfl), c.def_ 16 (d := d_is_one_tree) rfl, He.glo_ok X G (c.fact 16 (f := .glo "is_one_tree") rfl), c.def_ 17 (d := d_all_names) rfl, He.glo_ok X G (c.fact 17 (f := .glo "all_names") rfl), c.def_ 18 (d := d_holders) rfl, He.glo_ok X G (c.fact 18 (f := .glo "holders") rfl), c.def_ 19 (d := d_path) rfl, He.glo_ok X G (c.fact 19 (f := .glo "path") rfl), c.def_ 20 (d := d_carried) rfl, He.glo_ok X G (c.fact 20 (f := .glo "carried") rfl), c.def_ 21 (d := d__law_same) rfl, He.glo_ok X G (c.fact 21 (f := .glo "_law_same") rfl), c.def_ 22 (d := d__law_union) rfl, He.glo_ok X G (c.fact 22 (f := .glo "_law_union") rfl), c.def_ 23 (d := d__law_holders) rfl, He.glo_ok X G (c.fact 23 (f := .glo "_law_holders") rfl), c.def_ 24 (d := d__law_reached) rfl, He.glo_ok X G (c.fact 24 (f := .glo "_law_reached") rfl), c.def_ 25 (d := d__law_scattered) rfl, He.glo_ok X G (c.fact 25 (f := .glo "_law_scattered") rfl), c.def_ 26 (d := d__law_one_tree) rfl, He.glo_ok X G (c.fact 26 (f := .glo "_law_one_tree") rfl), c.def_ 27 (d := d__law_fits) rfl, He.glo_ok X G (c.fact 27 (f := .glo "_law_fits") rfl)⟩, ⟨He.free_ok X G (c.fact 28 (f := .free "all") rfl), He.free_ok X G (c.fact 29 (f := .free "bool") rfl), He.free_ok X G (c.fact 30 (f := .free "int") rfl), He.free_ok X G (c.fact 31 (f := .free "isinstance") rfl), He.free_ok X G (c.fact 32 (f := .free "len") rfl), He.free_ok X G (c.fact 33 (f := .free "list") rfl), He.free_ok X G (c.fact 34 (f := .free "min") rfl), He.free_ok X G (c.fact 35 (f := .free "range") rfl), He.free_ok X G (c.fact 36 (f := .free "set") rfl), He.free_ok X G (c.fact 37 (f := .free "sorted") rfl), He.free_ok X G (c.fact 38 (f := .free "str") rfl), He.free_ok X G (c.fact 39 (f := .free "tuple") rfl), He.free_ok X G (c.fact 40 (f := .free "zip") rfl)⟩, ⟨He.str_ok X G (c.fact 41 (f := .str "LETTERS" "abcdefghijklmnopqrstuvwxyz") rfl), He.int_ok X G (c.fact 42 (f := .int "MOST_FACES" 12) rfl), He.int_ok X G (c.fact 43 (f := .int "MOST_NAME" 6) rfl), He.int_ok X G (c.fact 44 (f := .int "MOST_WIDTH" 8) rfl)⟩, trivial⟩
end L_k24
open PySem PySem.W PySem.Calls PyProof.Rows
theorem PySem.Challenge.cw_whatcrosses_k24_whole_faces_carried_holds : PySem.Challenge.rw_whatcrosses_k24_whole_faces_carried.Holds := by
  w_on; o_law
  refine HandSHeadRun.head_any (r := OpenLaw.row PySem.Challenge.rw_whatcrosses_k24_whole_faces_carried) (q := view (OpenLaw.row PySem.Challenge.rw_whatcrosses_k24_whole_faces_carried).prog [39]) (H := L_k24.hk) (ob := L_k24.ob) (M := 40000) (loose := L_k24.names) (d := HandSHeadRun.topDef (OpenLaw.row PySem.Challenge.rw_whatcrosses_k24_whole_faces_carried).prog 39) (kwd := []) L_k24.ob_eq
    (by kernel_rfl) (fun s => by kernel_rfl) L_k24.run (by kernel_rfl) (by kernel_rfl) (by kernel_rfl) (by rfl) (by first | assumption | decide +kernel) (by decide +kernel) ⟨rfl, rfl, rfl, rfl, rfl, by decide +kernel⟩ ?hw ?hc
  case hw => w_witness2
  case hc =>
    refine VS.walk_ofV (l := PySem.Challenge.rw_whatcrosses_k24_whole_faces_carried) (n := 63) (k := 2 * 90 + 40) (x := "_law_script") rfl (by decide) (by kernel_rfl) ⟨rfl, by decide, by decide⟩ (by kernel_rfl) ?F
    intro w mg fa h Y G hmg0
    obtain ⟨K, KX, c⟩ := Y
    have hmg : mg ("law" : PySem.Str) = some (.ref fa) := by
      have e : (HandSHeadRun.topDef (OpenLaw.row PySem.Challenge.rw_whatcrosses_k24_whole_faces_carried).prog 39).name = ("law" : PySem.Str) := by kernel_rfl
      rw [← e]
      exact hmg0
    obtain ⟨hF, hZ, hG, hQ⟩ := L_k24.facts KX G c
    obtain ⟨fd0, F0⟩ := hF.1
    have m0 := hF.2.1
    have ef : He.ga K "law" = fa := by
      have e := m0.symm.trans hmg
      cases e
      rfl
    have b := L2.FunD.bindsA (ps := ["_law_script"]) F0 fun _ _ _ _ _ _ us hl => match us, hl with | [_], _ => rfl
    refine ⟨K, fd0, KX, c.b.2.2.2, fun s v => b s [v] rfl, VS.spOf K (VM.callN L_k24.FT 90) 80 1, fun H a is hl hS => VS.sp_law hS (L_k24.law_true is hl), fun base hK hN hS => ?_⟩
    obtain ⟨f1, fd1, F1, m1, k1, b1, lk1⟩ := (L_k24.all_ok (P := (PySem.Challenge.rw_whatcrosses_k24_whole_faces_carried).prog) (w := w) (base := base) hF hZ hG hQ hS (by kernel_rfl) 90).1.ok
    have e1 : f1 = fa := by
      have e := m1.symm.trans hmg
      cases e
      rfl
    subst e1
    have e2 : fd1 = fd0 := VS.lk_inj lk1 (by rw [← ef]; exact VS.lk_of F0)
    subst e2
    exact F1
