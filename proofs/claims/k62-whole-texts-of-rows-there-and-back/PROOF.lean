import PyProof.Rows.All
import Wide.All
import OpenK.AllK
import Wide.FinOn
import HandS.ForMost
import HandS.Conv
import HandS.More
import HandS.Walk
import HandS.Zip
import HandS.Rev
import HandS.IsInst
import HandS.Wide
import HandS.TupAny
import HandS.TupMul
import HandS.Deep
import HandS.Flow
import HandS.HeadHook1
import KE.GoesMore
import KE.GoesEnum
import HandS.Defaults
import HandS.Words
import HandS.Ends
import HandS.HeadEnd
import OpenK.KOps
import OpenK.KMeth
import KE.KOpsOwn
import HandS.OwnEq
import HandS.Property
import HandS.Gcd
import PyProof.InstNe
import KE.KFmtOwn
import HandS.Style
import HandS.HeadHook2
import HandS.Head0
import HandS.Head1
import HandS.Head2
import PyProof.SetNew
import PyProof.Rows.SetFrom
import HandS.Strs
import HandS.Text
import HandS.FStr
import KE.KRevSl
import KE.IntTextLaws
import PySem.Challenge.RW_whatcrosses_k62_whole_texts_of_rows_ther
set_option Elab.async false
set_option linter.all false
set_option maxRecDepth 100000
set_option maxHeartbeats 4000000
section
namespace VM
abbrev Sg := List Nat
/-- a value: lists, tuples, dicts and instances that no longer change are trees; one that may change is a reference into the store -/
inductive PV where
  | non | bl (b : Bool) | int (i : Int) | str (s : Sg)
  | tup (xs : List PV) | lst (xs : List PV)
  | dct (ks vs : List PV)
  | dctT (ks vs : List PV)
  | obj (c : Nat) (ks : List Nat) (vs : List PV)
  | scr (is : List Int)
  | ref (i : Nat)
  | ty (n : Nat) | fn (f : Nat) | cls (c : Nat)
  deriving Inhabited
/-- an object of the store -/
inductive SO where
  | dead
  | lst (xs : List PV)
  | dct (ks vs : List PV)
  | dctT (ks vs : List PV)
  | ins (c : Nat) (ks : List Nat) (vs : List PV)
  deriving Inhabited
abbrev Store := List SO
abbrev SZ : Nat := 16777216
abbrev Env := List (Option PV)
abbrev KV := PV → Store → Prop
abbrev TE := Env → Store → KV → KV → Prop
abbrev TT := Env → Store → (Bool → Store → Prop) → KV → Prop
abbrev TA := Env → Store → (List PV → Store → Prop) → KV → Prop
structure Ends where
  nx : Env → Store → Prop
  rt : KV
  bk : Env → Store → Prop
  ct : Env → Store → Prop
  xk : KV
abbrev TS := Ends → Env → Store → Prop
abbrev TG := PV → Env → Store → (Env → Store → Prop) → Prop
abbrev CS := Nat → List PV → Store → KV → KV → Prop

mutual
/-- ==, of data -/
def eqv : PV → PV → Bool
  | .non, y => match y with | .non => true | _ => false
  | .bl a, y => match y with | .bl b => a == b | .int j => (if a then 1 else 0) == j | _ => false
  | .int i, y => match y with | .int j => i == j | .bl b => i == (if b then 1 else 0) | _ => false
  | .str a, y => match y with | .str b => a == b | _ => false
  | .tup xs, y => match y with | .tup ys => eqvL xs ys | _ => false
  | .lst xs, y => match y with | .lst ys => eqvL xs ys | _ => false
  | _, _ => false
def eqvL : List PV → List PV → Bool
  | [], ys => match ys with | [] => true | _ => false
  | x :: xs, ys => match ys with | y :: ys => eqv x y && eqvL xs ys | [] => false
end
mutual
/-- data alone, at most so deep -/
def isD : Nat → PV → Bool
  | _, .non => true
  | _, .bl _ => true
  | _, .int _ => true
  | _, .str _ => true
  | n, .tup xs => match n with | 0 => false | n + 1 => isDL n xs
  | n, .lst xs => match n with | 0 => false | n + 1 => isDL n xs
  | _, _ => false
def isDL : Nat → List PV → Bool
  | _, [] => true
  | n, x :: xs => isD n x && isDL n xs
end
/-- the items of a list, as it stands -/
def asL (st : Store) : PV → Option (List PV)
  | .lst xs => some xs
  | .ref i => match st[i]? with | some (.lst xs) => some xs | _ => none
  | _ => none
def signs (s : Sg) : List PV := s.map fun c => .str [c]
/-- what a for walks -/
def items (st : Store) : PV → Option (List PV)
  | .lst xs => some xs
  | .tup xs => some xs
  | .str s => some (signs s)
  | .dct ks _ => some ks
  | .dctT ks _ => some ks
  | .ref i => match st[i]? with | some (.lst xs) => some xs | some (.dct ks _) => some ks | some (.dctT ks _) => some ks | _ => none
  | _ => none
/-- a mutable thing stands as it stood -/
def stays (st0 : Store) : PV → Store → Prop
  | .ref i, st => st[i]? = st0[i]?
  | _, _ => True
/-- truth, of what has no own __bool__ -/
def truth (st : Store) : PV → Option Bool
  | .non => some false
  | .bl b => some b
  | .int i => some (decide (i ≠ 0))
  | .str s => some (!s.isEmpty)
  | .tup xs => some (!xs.isEmpty)
  | .lst xs => some (!xs.isEmpty)
  | .dct ks _ => some (!ks.isEmpty)
  | .dctT ks _ => some (!ks.isEmpty)
  | .ref i => match st[i]? with | some (.lst xs) => some (!xs.isEmpty) | some (.dct ks _) => some (!ks.isEmpty) | some (.dctT ks _) => some (!ks.isEmpty) | _ => none
  | _ => none
/-- an index of Python's into n items -/
def ix (n : Nat) (i : Int) : Option Nat := if 0 ≤ i then (if i < n then some i.toNat else none) else if -(n : Int) ≤ i then some (i + n).toNat else none

def MulOk (i j : Int) : Prop := i.natAbs.log2 + j.natAbs.log2 < 100000000
def DivOk (_i j : Int) : Prop := j ≠ 0
def PowOk (i j : Int) : Prop := 0 ≤ j ∧ j ≤ 1000000 ∧ i.natAbs < 2 ^ 64

inductive Op where | add | sub | mul | fdiv | mod | pow | band
  deriving DecidableEq
inductive Cm where | eq | ne | lt | le | gt | ge | isN | notN | isin | notin
  deriving DecidableEq
def opAdd (x y : PV) (st : Store) (k : KV) : Prop := match x, y with
  | .int i, .int j => k (.int (i + j)) st
  | .str a, .str b => a.length + b.length ≤ SZ ∧ k (.str (a ++ b)) st
  | .tup a, .tup b => a.length + b.length ≤ SZ ∧ k (.tup (a ++ b)) st
  | x, y => match asL st x, asL st y with
    | some a, some b => a.length + b.length ≤ SZ ∧ k (.lst (a ++ b)) st
    | _, _ => False
def opSub (x y : PV) (st : Store) (k : KV) : Prop := match x, y with
  | .int i, .int j => k (.int (i - j)) st
  | _, _ => False
def opMul (x y : PV) (st : Store) (k : KV) : Prop := match x, y with
  | .int i, .int j => MulOk i j ∧ k (.int (i * j)) st
  | .lst a, .int j => -(2 ^ 63) ≤ j ∧ j < 2 ^ 63 ∧ a.length * j.toNat ≤ SZ ∧ k (.lst (List.replicate j.toNat a).flatten) st
  | .tup a, .int j => a ≠ [] ∧ 2 ≤ j ∧ j ≤ 1000 ∧ a.length ≤ 1000 ∧ k (.tup (List.replicate j.toNat a).flatten) st
  | _, _ => False
def opFdiv (x y : PV) (st : Store) (k : KV) : Prop := match x, y with
  | .int i, .int j => DivOk i j ∧ k (.int (i.fdiv j)) st
  | _, _ => False
def opMod (x y : PV) (st : Store) (k : KV) : Prop := match x, y with
  | .int i, .int j => j ≠ 0 ∧ k (.int (i.fmod j)) st
  | _, _ => False
def opPow (x y : PV) (st : Store) (k : KV) : Prop := match x, y with
  | .int i, .int j => PowOk i j ∧ k (.int (i ^ j.toNat)) st
  | _, _ => False
def opBin : Op → PV → PV → Store → KV → Prop
  | .add => opAdd | .sub => opSub | .mul => opMul | .fdiv => opFdiv | .mod => opMod | .pow => opPow
  | .band => fun _ _ _ _ => False
/-- a sign in a text; a flat value in a list or tuple of such -/
def opIn (x y : PV) (st : Store) (k : Bool → Store → Prop) : Prop := match y with
  | .str s => match x with | .str [c] => k (decide (c ∈ s)) st | _ => False
  | .tup ys => isD 0 x = true ∧ isDL 0 ys = true ∧ k (ys.any fun y => eqv y x) st
  | y => match asL st y with
    | some ys => isD 0 x = true ∧ isDL 0 ys = true ∧ k (ys.any fun y => eqv y x) st
    | none => False
/-- a list of the store as a tree -/
def frz (st : Store) : PV → PV
  | .ref i => match st[i]? with | some (.lst xs) => .lst xs | _ => .ref i
  | x => x
def opEq (x y : PV) (st : Store) (k : Bool → Store → Prop) : Prop := isD 60 (frz st x) = true ∧ isD 60 (frz st y) = true ∧ k (eqv (frz st x) (frz st y)) st
def isNon : PV → Bool
  | .non => true
  | _ => false
def opCm (c : Cm) (x y : PV) (st : Store) (k : Bool → Store → Prop) : Prop := match c with
  | .eq => opEq x y st k
  | .ne => opEq x y st fun b st => k (!b) st
  | .lt => match x, y with | .int i, .int j => k (decide (i < j)) st | _, _ => False
  | .le => match x, y with | .int i, .int j => k (decide (i ≤ j)) st | _, _ => False
  | .gt => match x, y with | .int i, .int j => k (decide (j < i)) st | _, _ => False
  | .ge => match x, y with | .int i, .int j => k (decide (j ≤ i)) st | _, _ => False
  | .isN => isNon y = true ∧ k (isNon x) st
  | .notN => isNon y = true ∧ k (!isNon x) st
  | .isin => opIn x y st k
  | .notin => opIn x y st fun b st => k (!b) st

def eVar (i : Nat) : TE := fun ρ st k _ => match ρ[i]? with | some (some v) => k v st | _ => False
def eC (v : PV) : TE := fun _ st k _ => k v st
def eBin (o : Op) (a b : TE) : TE := fun ρ st k x => a ρ st (fun u st => b ρ st (fun v st => opBin o u v st k) x) x
def eNeg (a : TE) : TE := fun ρ st k x => a ρ st (fun u st => match u with | .int i => k (.int (-i)) st | _ => False) x
def eCmp (c : Cm) (a b : TE) : TE := fun ρ st k x => a ρ st (fun u st => b ρ st (fun v st => opCm c u v st fun r st => k (.bl r) st) x) x
/-- a <= b < c -/
def eChain (c d : Cm) (a b e : TE) : TE := fun ρ st k x => a ρ st (fun u st => b ρ st (fun v st => opCm c u v st fun r st => if r = true then e ρ st (fun w st => opCm d v w st fun r st => k (.bl r) st) x else k (.bl false) st) x) x
/-- an expression as a test -/
def tOf (a : TE) : TT := fun ρ st k x => a ρ st (fun u st => match truth st u with | some b => k b st | none => False) x
def tCmp (c : Cm) (a b : TE) : TT := fun ρ st k x => a ρ st (fun u st => b ρ st (fun v st => opCm c u v st k) x) x
def tChain (c d : Cm) (a b e : TE) : TT := fun ρ st k x => a ρ st (fun u st => b ρ st (fun v st => opCm c u v st fun r st => if r = true then e ρ st (fun w st => opCm d v w st k) x else k false st) x) x
def tAnd (a b : TT) : TT := fun ρ st k x => a ρ st (fun r st => if r = true then b ρ st k x else k false st) x
def tOr (a b : TT) : TT := fun ρ st k x => a ρ st (fun r st => if r = true then k true st else b ρ st k x) x
def tNot (a : TT) : TT := fun ρ st k x => a ρ st (fun r st => k (!r) st) x
/-- a test as a value (its parts are bools) -/
def eTest (a : TT) : TE := fun ρ st k x => a ρ st (fun r st => k (.bl r) st) x
/-- and, or as values -/
def eAnd (a b : TE) : TE := fun ρ st k x => a ρ st (fun u st => match truth st u with | some true => b ρ st k x | some false => k u st | none => False) x
def eOr (a b : TE) : TE := fun ρ st k x => a ρ st (fun u st => match truth st u with | some false => b ρ st k x | some true => k u st | none => False) x
def eNot (a : TE) : TE := fun ρ st k x => a ρ st (fun u st => match truth st u with | some b => k (.bl !b) st | none => False) x
def eIf (t : TT) (a b : TE) : TE := fun ρ st k x => t ρ st (fun r st => if r = true then a ρ st k x else b ρ st k x) x
/-- a test by a test -/
def tIf (t a b : TT) : TT := fun ρ st k x => t ρ st (fun r st => if r = true then a ρ st k x else b ρ st k x) x
def aNil : TA := fun _ st k _ => k [] st
def aCons (a : TE) (r : TA) : TA := fun ρ st k x => a ρ st (fun u st => r ρ st (fun us st => k (u :: us) st) x) x
/-- displays: a list that does not change, one that does, a tuple -/
def eLst (a : TA) : TE := fun ρ st k x => a ρ st (fun us st => us.length ≤ SZ ∧ k (.lst us) st) x
def eLstM (a : TA) : TE := fun ρ st k x => a ρ st (fun us st => us.length ≤ SZ ∧ k (.ref st.length) (st ++ [.lst us])) x
def eTup (a : TA) : TE := fun ρ st k x => a ρ st (fun us st => us.length ≤ SZ ∧ k (.tup us) st) x
/-- a call of a def -/
def eCall (cs : CS) (f : Nat) (a : TA) : TE := fun ρ st k x => a ρ st (fun us st => cs f us st k x) x
/-- s[i] -/
def getIx (u v : PV) (st : Store) (k : KV) : Prop := match v with
  | .int i => match u with
    | .tup xs => match ix xs.length i with | some n => (match xs[n]? with | some y => k y st | none => False) | none => False
    | .str s => match ix s.length i with | some n => (match s[n]? with | some c => k (.str [c]) st | none => False) | none => False
    | u => match asL st u with
      | some xs => match ix xs.length i with | some n => (match xs[n]? with | some y => k y st | none => False) | none => False
      | none => False
  | _ => False
def eIx (a b : TE) : TE := fun ρ st k x => a ρ st (fun u st => b ρ st (fun v st => getIx u v st k) x) x
/-- s[lo:hi] -/
def cutIx (n d : Nat) : Option Int → Nat
  | none => d
  | some v => if v < 0 then (v + (n : Int)).toNat else min v.toNat n
def slc {α : Type} (xs : List α) (lo hi : Option Int) : List α := (xs.drop (cutIx xs.length 0 lo)).take (cutIx xs.length xs.length hi - cutIx xs.length 0 lo)
def getSl (u : PV) (lo hi : Option Int) (st : Store) (k : KV) : Prop := match u with
  | .tup xs => k (.tup (slc xs lo hi)) st
  | .str s => k (.str (slc s lo hi)) st
  | .scr is => k (.lst (slc (is.map PV.int) lo hi)) st
  | u => match asL st u with
    | some xs => k (.lst (slc xs lo hi)) st
    | none => False
def eSl (a : TE) (lo hi : Option TE) : TE := fun ρ st k x => a ρ st (fun u st =>
  (match lo with | none => fun (k : Option Int → Store → Prop) => k none st | some e => fun k => e ρ st (fun v st => match v with | .int i => k (some i) st | _ => False) x) fun lo st =>
  (match hi with | none => fun (k : Option Int → Store → Prop) => k none st | some e => fun k => e ρ st (fun v st => match v with | .int i => k (some i) st | _ => False) x) fun hi st =>
  getSl u lo hi st k) x

def gName (i : Nat) : TG := fun v ρ st k => k (ρ.set i (some v)) st
def gEach : List TG → List PV → Env → Store → (Env → Store → Prop) → Prop
  | [], [], ρ, st, k => k ρ st
  | t :: ts, v :: vs, ρ, st, k => t v ρ st fun ρ st => gEach ts vs ρ st k
  | _, _, _, _, _ => False
def gTup (ts : List TG) : TG := fun v ρ st k => match v with | .tup xs => xs.length = ts.length ∧ gEach ts xs ρ st k | _ => False
/-- what a for walks: the items, and what must stay as it is -/
abbrev TI := Env → Store → (List PV → (Store → Prop) → Store → Prop) → KV → Prop
/-- a list, a tuple, a text -/
def isSeq (st : Store) : PV → Bool
  | .lst _ => true
  | .tup _ => true
  | .str _ => true
  | .ref i => match st[i]? with | some (.lst _) => true | _ => false
  | _ => false
def iE (a : TE) : TI := fun ρ st k x => a ρ st (fun u st => match items st u with | some xs => isSeq st u = true ∧ k xs (stays st u) st | none => False) x
def i62 (i : Int) : Prop := -(2 ^ 62) ≤ i ∧ i < 2 ^ 62
def iRange1 (a : TE) : TI := fun ρ st k x => a ρ st (fun u st => match u with | .int n => i62 n ∧ k ((List.range n.toNat).map fun (i : Nat) => .int (i : Int)) (fun _ => True) st | _ => False) x
def iRange2 (a b : TE) : TI := fun ρ st k x => a ρ st (fun u st => b ρ st (fun v st => match u, v with | .int m, .int n => i62 m ∧ i62 n ∧ k ((List.range (n - m).toNat).map fun (i : Nat) => .int (m + (i : Int))) (fun _ => True) st | _, _ => False) x) x
def sq (st : Store) : PV → Option (List PV)
  | .tup xs => some xs
  | u => asL st u
def iZip (a b : TE) : TI := fun ρ st k x => a ρ st (fun u st => b ρ st (fun v st => match sq st u, sq st v with
  | some xs, some ys => k (List.zipWith (fun x y => .tup [x, y]) xs ys) (fun st' => stays st u st' ∧ stays st v st') st | _, _ => False) x) x
def iRev (a : TE) : TI := fun ρ st k x => a ρ st (fun u st => match asL st u with | some xs => k xs.reverse (stays st u) st | none => False) x
/-- a list comprehension's turns -/
def wipe (ρ : Env) : List Nat → Env
  | [] => ρ
  | v :: vs => (wipe ρ vs).set v none
def compGo (g : TG) (t : TT) (e : TE) (own : List Nat) (stay : Store → Prop) : List PV → List PV → Env → Store → (List PV → Store → Prop) → Prop
  | [], acc, _, st, k => stay st ∧ k acc st
  | v :: r, acc, ρ, st, k => stay st ∧ g v ρ st fun ρ' st => t ρ' st (fun b st => if b = true then e ρ' st (fun y st => acc.length < SZ ∧ compGo g t e own stay r (acc ++ [y]) ρ st k) (fun _ _ => False) else compGo g t e own stay r acc ρ st k) (fun _ _ => False)
def eComp (i : TI) (g : TG) (t : TT) (e : TE) (own : List Nat) : TE := fun ρ st k x => i ρ st (fun xs stay st => compGo g t e own stay xs [] (wipe ρ own) st fun ys st => k (.lst ys) st) x
/-- the same, the list goes on to change -/
def eCompM (i : TI) (g : TG) (t : TT) (e : TE) (own : List Nat) : TE := fun ρ st k x => i ρ st (fun xs stay st => compGo g t e own stay xs [] (wipe ρ own) st fun ys st => k (.ref st.length) (st ++ [.lst ys])) x
def tYes : TT := fun _ st k _ => k true st

def sNil : TS := fun D ρ st => D.nx ρ st
def sCons (a b : TS) : TS := fun D ρ st => a { D with nx := b D } ρ st
def sSet (g : TG) (e : TE) : TS := fun D ρ st => e ρ st (fun v st => g v ρ st D.nx) D.xk
/-- a, b = x, y over plain names -/
def sPar (is : List Nat) (a : TA) : TS := fun D ρ st => a ρ st (fun vs st => gEach (is.map gName) vs ρ st D.nx) D.xk
/-- xs[i] = e, a list of the store -/
def setIx (u v w : PV) (st : Store) (k : Store → Prop) : Prop := match u, v with
  | .ref r, .int i => match st[r]? with
    | some (.lst xs) => match ix xs.length i with | some n => k (st.set r (.lst (xs.set n w))) | none => False
    | _ => False
  | _, _ => False
def sSetIx (a b e : TE) : TS := fun D ρ st => e ρ st (fun w st => a ρ st (fun u st => b ρ st (fun v st => setIx u v w st fun st => D.nx ρ st) D.xk) D.xk) D.xk
def sExpr (e : TE) : TS := fun D ρ st => e ρ st (fun _ st => D.nx ρ st) D.xk
def sRet (e : TE) : TS := fun D ρ st => e ρ st D.rt D.xk
def sRetN : TS := fun D _ st => D.rt .non st
def sIf (t : TT) (a b : TS) : TS := fun D ρ st => t ρ st (fun r st => if r = true then a D ρ st else b D ρ st) D.xk
def sBreak : TS := fun D ρ st => D.bk ρ st
def sCont : TS := fun D ρ st => D.ct ρ st
def sNever : TS := fun _ _ _ => False
def forGo (g : TG) (b : TS) (stay : Store → Prop) : List PV → Ends → Env → Store → Prop
  | [], D, ρ, st => stay st ∧ D.nx ρ st
  | v :: r, D, ρ, st => stay st ∧ g v ρ st fun ρ st => b { D with nx := forGo g b stay r D, ct := forGo g b stay r D, bk := D.nx } ρ st
def sFor (i : TI) (g : TG) (b : TS) : TS := fun D ρ st => i ρ st (fun xs stay st => forGo g b stay xs D ρ st) D.xk
def whileGo (t : TT) (b : TS) : Nat → Ends → Env → Store → Prop
  | 0, _, _, _ => False
  | n + 1, D, ρ, st => t ρ st (fun r st => if r = true then b { D with nx := whileGo t b n D, ct := whileGo t b n D, bk := D.nx } ρ st else D.nx ρ st) D.xk
def sWhile (t : TT) (b : TS) : TS := fun D ρ st => ∃ n, whileGo t b n D ρ st
/-- xs.append(e), xs.insert(i, e), xs.pop() -/
def eAppend (a e : TE) : TE := fun ρ st k x => a ρ st (fun u st => (asL st u).isSome = true ∧ e ρ st (fun v st => match u with
  | .ref r => (match st[r]? with | some (.lst xs) => xs.length < SZ ∧ k .non (st.set r (.lst (xs ++ [v]))) | _ => False)
  | _ => False) x) x
def eInsert (a i e : TE) : TE := fun ρ st k x => a ρ st (fun u st => (asL st u).isSome = true ∧ i ρ st (fun w st => e ρ st (fun v st => match u, w with
  | .ref r, .int n => (match st[r]? with | some (.lst xs) => 0 ≤ n ∧ n < 2 ^ 62 ∧ xs.length < SZ ∧ k .non (st.set r (.lst (xs.take n.toNat ++ [v] ++ xs.drop n.toNat))) | _ => False)
  | _, _ => False) x) x) x

def bLen (u : PV) (st : Store) : Option Nat := match u with
  | .tup xs => some xs.length
  | .str s => some s.length
  | .dct ks _ => some ks.length
  | .dctT ks _ => some ks.length
  | u => match asL st u with
    | some xs => some xs.length
    | none => match u with
      | .ref i => match st[i]? with | some (.dct ks _) => some ks.length | some (.dctT ks _) => some ks.length | _ => none
      | _ => none
/-- f(e), f a built-in of one argument -/
def eB1 (f : PV → Store → KV → Prop) (a : TE) : TE := fun ρ st k x => a ρ st (fun u st => f u st k) x
def fLen (u : PV) (st : Store) (k : KV) : Prop := match bLen u st with | some n => k (.int n) st | none => False
def fAbs (u : PV) (st : Store) (k : KV) : Prop := match u with | .int i => k (.int i.natAbs) st | _ => False
def fInt (u : PV) (st : Store) (k : KV) : Prop := match u with | .int i => k (.int i) st | .bl b => k (.int (if b then 1 else 0)) st | _ => False
def seqOf (st : Store) : PV → Option (List PV)
  | .tup xs => some xs
  | u => asL st u
def fList (u : PV) (st : Store) (k : KV) : Prop := match seqOf st u with | some xs => k (.lst xs) st | none => False
def fListM (u : PV) (st : Store) (k : KV) : Prop := match seqOf st u with | some xs => k (.ref st.length) (st ++ [.lst xs]) | none => False
def fTuple (u : PV) (st : Store) (k : KV) : Prop := match seqOf st u with | some xs => k (.tup xs) st | none => False
def allInt : List PV → Option (List Int)
  | [] => some []
  | .int i :: r => (allInt r).map (i :: ·)
  | _ :: _ => none
def fSum (u : PV) (st : Store) (k : KV) : Prop := match asL st u with | some xs => (match allInt xs with | some is => k (.int is.sum) st | none => False) | none => False
def allBl : List PV → Option (List Bool)
  | [] => some []
  | .bl b :: r => (allBl r).map (b :: ·)
  | _ :: _ => none
def fAll (u : PV) (st : Store) (k : KV) : Prop := match asL st u with | some xs => (match allBl xs with | some bs => k (.bl (bs.all id)) st | none => False) | none => False
def fAny (u : PV) (st : Store) (k : KV) : Prop := match asL st u with | some xs => (match allBl xs with | some bs => k (.bl (bs.any id)) st | none => False) | none => False
/-- max(a, b) of whole numbers -/
def eMax2 (a b : TE) : TE := fun ρ st k x => a ρ st (fun u st => b ρ st (fun v st => match u, v with | .int i, .int j => k (.int (if j > i then j else i)) st | _, _ => False) x) x
/-- the kinds of isinstance -/
inductive Ty where | int | bool | str | list | tuple | dict
  deriving DecidableEq
/-- the kind of a value -/
inductive Kd where | non | bool | int | str | list | tuple | dict | other
  deriving DecidableEq
def kdOf (st : Store) : PV → Kd
  | .non => .non
  | .bl _ => .bool
  | .int _ => .int
  | .str _ => .str
  | .tup _ => .tuple
  | .lst _ => .list
  | .dct _ _ => .dict
  | .dctT _ _ => .dict
  | .ref i => match st[i]? with | some (.lst _) => .list | some (.dct _ _) => .dict | some (.dctT _ _) => .dict | _ => .other
  | _ => .other
def kdIs : Kd → Ty → Bool
  | .bool, .bool => true
  | .bool, .int => true
  | .int, .int => true
  | .str, .str => true
  | .list, .list => true
  | .tuple, .tuple => true
  | .dict, .dict => true
  | _, _ => false
def fIsi (ts : List Ty) (u : PV) (st : Store) (k : KV) : Prop := kdOf st u ≠ .other ∧ k (.bl (ts.any (kdIs (kdOf st u)))) st

structure FD where
  np : Nat
  ns : Nat
  body : CS → TS
def start (F : FD) (vs : List PV) : Env := vs.map some ++ List.replicate (F.ns - F.np) none
/-- a call of a def, at most so deep -/
def callN (FT : Nat → Option FD) : Nat → CS
  | 0 => fun _ _ _ _ _ => False
  | n + 1 => fun f vs st k x => match FT f with
    | some F => vs.length = F.np ∧ F.body (callN FT n) { nx := fun _ st => k .non st, rt := k, bk := fun _ _ => False, ct := fun _ _ => False, xk := x } (start F vs) st
    | none => False
/-- the class of an instance -/
def clsOf (st : Store) : PV → Option Nat
  | .obj c _ _ => some c
  | .ref i => match st[i]? with | some (.ins c _ _) => some c | _ => none
  | _ => none
def fget : List Nat → List PV → Nat → Option PV
  | k :: ks, v :: vs, n => if k = n then some v else fget ks vs n
  | _, _, _ => none
def fkeys : List Nat → Nat → List Nat
  | [], n => [n]
  | k :: ks, n => if k = n then k :: ks else k :: fkeys ks n
def fvals : List Nat → List PV → Nat → PV → List PV
  | k :: ks, v :: vs, n, x => if k = n then x :: vs else v :: fvals ks vs n x
  | _, _, _, x => [x]
/-- an attribute, as it stands -/
def fldOf (st : Store) (u : PV) (n : Nat) : Option PV := match u with
  | .obj _ ks vs => fget ks vs n
  | .ref i => match st[i]? with | some (.ins _ ks vs) => fget ks vs n | _ => none
  | _ => none
/-- class by class: the number of the def -/
abbrev Tab := List (Nat × Nat)
def tget : Tab → Nat → Option Nat
  | [], _ => none
  | (c, f) :: t, n => if c = n then some f else tget t n
/-- o.f: a property, or an attribute -/
def fldRun (cs : CS) (pt : Tab) (ft : List Nat) (n : Nat) (u : PV) (st : Store) (k : KV) (x : KV) : Prop := match clsOf st u with
  | some c => match tget pt c with
    | some f => cs f [u] st k x
    | none => ft.contains c = true ∧ match fldOf st u n with | some v => k v st | none => False
  | none => False
def eFld (cs : CS) (pt : Tab) (ft : List Nat) (n : Nat) (a : TE) : TE := fun ρ st k x => a ρ st (fun u st => fldRun cs pt ft n u st k x) x
/-- o.m(..) -/
def eMeth (cs : CS) (mt : Tab) (n : Nat) (a : TE) (t : TA) : TE := fun ρ st k x => a ρ st (fun u st => match clsOf st u with
  | some c => match tget mt c with
    | some f => fldOf st u n = none ∧ t ρ st (fun us st => cs f (u :: us) st k x) x
    | none => False
  | none => False) x
/-- C(..): the new instance goes on to change, or is frozen -/
def eNewM (cs : CS) (c f : Nat) (t : TA) : TE := fun ρ st k x => t ρ st (fun us st => cs f (.ref st.length :: us) (st ++ [.ins c [] []]) (fun v st' => isNon v = true ∧ k (.ref st.length) st') x) x
def eNew (cs : CS) (c f : Nat) (t : TA) : TE := fun ρ st k x => t ρ st (fun us st => cs f (.ref st.length :: us) (st ++ [.ins c [] []]) (fun v st' => isNon v = true ∧ match st'[st.length]? with
  | some (.ins c' ks vs) => k (.obj c' ks vs) (st'.set st.length .dead)
  | _ => False) x) x
/-- values that stand behind the given ones: defaults -/
def aDfl (t : TA) (ds : List PV) : TA := fun ρ st k x => t ρ st (fun us st => k (us ++ ds) st) x
/-- self.f = e -/
def sSetFld (ft : List Nat) (n : Nat) (a e : TE) : TS := fun D ρ st => e ρ st (fun y st => a ρ st (fun u st => match u with
  | .ref i => match st[i]? with
    | some (.ins c ks vs) => ft.contains c = true ∧ ks.length < 500 ∧ D.nx ρ (st.set i (.ins c (fkeys ks n) (fvals ks vs n y)))
    | _ => False
  | _ => False) D.xk) D.xk
/-- own operators: lt by the class on the left, rt (reflected) by the class on the right of an int -/
def opOwn (cs : CS) (lt rt : Tab) (o : Op) (u v : PV) (st : Store) (k : KV) (x : KV) : Prop := match clsOf st u with
  | some c => match tget lt c with
    | some f => match v with
      | .int _ => cs f [u, v] st k x
      | v => match clsOf st v with
        | some c' => c' = c ∧ cs f [u, v] st k x
        | none => False
    | none => False
  | none => match clsOf st v with
    | some c => match tget rt c, u with
      | some f, .int _ => cs f [v, u] st k x
      | _, _ => False
    | none => opBin o u v st k
def eBinO (cs : CS) (lt rt : Tab) (o : Op) (a b : TE) : TE := fun ρ st k x => a ρ st (fun u st => b ρ st (fun v st => opOwn cs lt rt o u v st k x) x) x
def eNegO (cs : CS) (nt : Tab) (a : TE) : TE := fun ρ st k x => a ρ st (fun u st => match clsOf st u with
  | some c => match tget nt c with | some f => cs f [u] st k x | none => False
  | none => match u with | .int i => k (.int (-i)) st | _ => False) x
/-- flat, not an own instance -/
def isFlat : PV → Bool
  | .non => true
  | .bl _ => true
  | .int _ => true
  | .str _ => true
  | _ => false
/-- == where the left side may be an own instance (its __eq__) -/
def opEqO (cs : CS) (et : Tab) (u v : PV) (st : Store) (k : Bool → Store → Prop) (x : KV) : Prop := match clsOf st u with
  | some c => match tget et c with
    | some f => (isFlat v = true ∨ clsOf st v = some c) ∧ cs f [u, v] st (fun r st => match r with | .bl b => k b st | _ => False) x
    | none => False
  | none => opEq u v st k
def opCmO (cs : CS) (et : Tab) (o : Cm) (u v : PV) (st : Store) (k : Bool → Store → Prop) (x : KV) : Prop := match o with
  | .eq => opEqO cs et u v st k x
  | .ne => opEqO cs et u v st (fun b st => k (!b) st) x
  | o => opCm o u v st k
def eCmpO (cs : CS) (et : Tab) (c : Cm) (a b : TE) : TE := fun ρ st k x => a ρ st (fun u st => b ρ st (fun v st => opCmO cs et c u v st (fun r st => k (.bl r) st) x) x) x
def tCmpO (cs : CS) (et : Tab) (c : Cm) (a b : TE) : TT := fun ρ st k x => a ρ st (fun u st => b ρ st (fun v st => opCmO cs et c u v st k x) x) x
/-- an expression as a test, own __bool__ and __len__ too -/
def truthO (cs : CS) (bt lt : Tab) (u : PV) (st : Store) (k : Bool → Store → Prop) (x : KV) : Prop := match clsOf st u with
  | some c => match tget bt c with
    | some f => cs f [u] st (fun r st => match r with | .bl b => k b st | _ => False) x
    | none => match tget lt c with
      | some f => cs f [u] st (fun r st => match r with | .int n => 0 ≤ n ∧ n < 2 ^ 62 ∧ k (decide (n ≠ 0)) st | _ => False) x
      | none => False
  | none => match truth st u with | some b => k b st | none => False
def tOfO (cs : CS) (bt lt : Tab) (a : TE) : TT := fun ρ st k x => a ρ st (fun u st => truthO cs bt lt u st k x) x
/-- isinstance with an own class: sup, the classes that are it or below it -/
def fIsiO (cl sup : List Nat) (u : PV) (st : Store) (k : KV) : Prop := match clsOf st u with
  | some c => cl.contains c = true ∧ k (.bl (sup.contains c)) st
  | none => kdOf st u ≠ .other ∧ k (.bl false) st
def fStr (u : PV) (st : Store) (k : KV) : Prop := match u with
  | .int i => i.natAbs.log2 < 1920 ∧ (toString i).length ≤ SZ ∧ k (.str ((toString i).toList.map Char.toNat)) st
  | _ => False
def eGcd (a b : TE) : TE := fun ρ st k x => a ρ st (fun u st => b ρ st (fun v st => match u, v with | .int i, .int j => k (.int (Int.gcd i j)) st | _, _ => False) x) x
end VM
end
section
namespace VS
open PySem PySem.Spec PyProof.Rows L2
open VM (PV SO Store)
abbrev VEnv := VM.Env

def cnL : List Str := ["Share", "Lot", "Net", "Post", "Answer", "Never", "Single", "Strided", "Ledger", "Desk", "System"]
def cn (c : Nat) : Str := cnL.getD c ""
/-- where the class of a number stands -/
def cA (K : PySem.W.Frag) (c : Nat) : Addr := He.ga K (cn c)
def anL0 : List Str := ["MOST_FACE", "MOST_HOUSES", "MOST_ROWS", "__init__", "__name__", "accept", "again", "age", "amounts", "anchor", "answer", "answer_letter", "answer_step", "append", "apply", "base", "book", "bottom", "busy", "change", "check_house", "clear", "code", "conclude", "dealing", "draft", "empty_way", "extended", "face", "failed"]
def anL1 : List Str := ["first", "free", "full", "gathered", "get", "give_back", "given", "heads", "history", "holds", "house", "houses", "index", "insert", "is_stale", "is_world", "items", "join", "joint", "label", "last", "last_taken", "last_written", "ledger", "letter_at", "line", "lines", "lose", "lot", "many"]
def anL2 : List Str := ["most", "name", "names", "near", "net", "of_rows", "onto", "over", "own_anchor", "own_bottom", "own_busy", "own_dealing", "own_done", "own_faces", "own_far", "own_houses", "own_ledger", "own_lines", "own_names", "own_net", "own_past", "own_post", "own_steps", "own_taken", "own_ties", "own_top", "own_undone", "own_way", "own_world", "own_written"]
def anL3 : List Str := ["partition", "pop", "post", "put", "put_on_way", "redo", "rest", "reverse", "say", "settle", "settled", "shared", "size", "solve", "split", "startswith", "steps", "stride", "strike", "take", "text", "ties", "told", "top", "tracks", "triples", "twin", "undo", "unknowns", "value"]
def anL4 : List Str := ["walk", "way", "weighed", "weights", "whole", "within", "world", "worlds", "worth", "write", "write_all"]
def anL : List Str := anL0 ++ anL1 ++ anL2 ++ anL3 ++ anL4
def an (n : Nat) : Str := match anL[n]? with
  | some s => s
  | none => ⟨Array.replicate (n + 1000) 0⟩
theorem an_nd : anL.Nodup := by decide +kernel
theorem an_short : ∀ s ∈ anL, s.cps.size < 1000 := by decide +kernel
theorem an_inj {n m : Nat} (h : an n = an m) : n = m := by
  unfold an at h
  cases e1 : anL[n]? with
  | some s =>
    rw [e1] at h
    obtain ⟨h1, h2⟩ := List.getElem?_eq_some_iff.mp e1
    cases e2 : anL[m]? with
    | some s' =>
      rw [e2] at h
      obtain ⟨h3, h4⟩ := List.getElem?_eq_some_iff.mp e2
      exact (List.getElem_inj an_nd).mp (h2.trans (h.trans h4.symm))
    | none =>
      rw [e2] at h
      have := an_short s (List.mem_of_getElem? e1)
      have e : s = ⟨Array.replicate (m + 1000) 0⟩ := h
      rw [e] at this
      simp at this
      omega
  | none =>
    rw [e1] at h
    cases e2 : anL[m]? with
    | some s' =>
      rw [e2] at h
      have := an_short s' (List.mem_of_getElem? e2)
      have e : s' = ⟨Array.replicate (n + 1000) 0⟩ := h.symm
      rw [e] at this
      simp at this
      omega
    | none =>
      rw [e2] at h
      have h : (⟨Array.replicate (n + 1000) 0⟩ : Str) = ⟨Array.replicate (m + 1000) 0⟩ := h
      injection h with h
      have := congrArg Array.size h
      simp at this
      omega
/-- the attributes of an instance, as the heap has them -/
def attrs (ks : List Nat) (vs : List V) : List (Str × V) := (ks.map an).zip vs
def kP : Key → PV
  | .inl i => .int i
  | .inr x => .str x.cps.toList
/-- a text that the machine bears -/
def sOk (s : List Nat) : Prop := s.length ≤ 16777216 ∧ ∀ c ∈ s, c < 1114112
mutual
def Rep (K : PySem.W.Frag) (F : Hp) (μ : List Addr) : PV → V → Prop
  | .non, v => v = .non
  | .bl b, v => v = .bl b
  | .int i, v => v = .int i
  | .str s, v => sOk s ∧ v = .str ⟨s.toArray⟩
  | .tup xs, v => ∃ a vs, v = .ref a ∧ SqT K F a vs ∧ RepL K F μ xs vs
  | .lst xs, v => ∃ a vs, v = .ref a ∧ F a = some (.lst vs) ∧ RepL K F μ xs vs
  | .scr is, v => ∃ a, v = .ref a ∧ SqL K F a (is.map V.int)
  | .dct ks xs, v => ∃ a kvs, v = .ref a ∧ F a = some (.dK kvs) ∧ ks = kvs.map (fun q => kP q.1) ∧ RepL K F μ xs (kvs.map (·.2))
  | .ref i, v => ∃ a, μ[i]? = some a ∧ v = .ref a
  | .obj c ks xs, v => ∃ a dx vs, v = .ref a ∧ F a = some (.ins (cA K c) dx (attrs ks vs)) ∧ ks.length = xs.length ∧ RepL K F μ xs vs
  | _, _ => False
def RepL (K : PySem.W.Frag) (F : Hp) (μ : List Addr) : List PV → List V → Prop
  | [], vs => vs = []
  | x :: xs, vs => ∃ v r, vs = v :: r ∧ Rep K F μ x v ∧ RepL K F μ xs r
end
/-- what a frozen thing keeps: itself; a dict may be locked while it is walked -/
def SameD (F H : Hp) : Prop := ∀ a o, F a = some o → H a = some o
structure Ext (F : Hp) (μ : List Addr) (F' : Hp) (μ' : List Addr) : Prop where
  same : SameD F F'
  pre : ∃ l, μ' = μ ++ l
section
variable {K : PySem.W.Frag} {F F' F2 : Hp} {μ μ' μ2 : List Addr}
theorem Ext.refl : Ext F μ F μ := ⟨fun _ _ h => h, [], by simp⟩
theorem Ext.trans (a : Ext F μ F' μ') (b : Ext F' μ' F2 μ2) : Ext F μ F2 μ2 := by
  obtain ⟨l, rfl⟩ := a.pre
  obtain ⟨m, rfl⟩ := b.pre
  exact ⟨fun c o h => b.same c o (a.same c o h), l ++ m, by simp⟩
theorem Ext.get (e : Ext F μ F' μ') {i : Nat} {a : Addr} (h : μ[i]? = some a) : μ'[i]? = some a := by
  obtain ⟨l, rfl⟩ := e.pre
  rw [List.getElem?_append_left (List.getElem?_eq_some_iff.mp h).1]
  exact h
theorem SameD.seqL {a : Addr} {xs : List V} (e : SameD F F') (h : SqL K F a xs) : SqL K F' a xs := by
  rcases h with (h | ⟨o, h⟩) | h
  · exact .inl (.inl (e _ _ h))
  · exact .inl (.inr ⟨o, e _ _ h⟩)
  · exact .inr h
theorem SameD.seqT {a : Addr} {xs : List V} (e : SameD F F') (h : SqT K F a xs) : SqT K F' a xs := by
  rcases h with (h | ⟨o, h⟩) | h
  · exact .inl (.inl (e _ _ h))
  · exact .inl (.inr ⟨o, e _ _ h⟩)
  · exact .inr h
mutual
theorem Rep.mono (e : Ext F μ F' μ') : ∀ {x : PV} {v : V}, Rep K F μ x v → Rep K F' μ' x v
  | .non, _, h => h
  | .bl _, _, h => h
  | .int _, _, h => h
  | .str _, _, h => h
  | .tup xs, _, h => by
    unfold Rep at h ⊢
    obtain ⟨a, vs, h1, h2, h3⟩ := h
    exact ⟨a, vs, h1, e.same.seqT h2, RepL.mono e h3⟩
  | .lst xs, _, h => by
    unfold Rep at h ⊢
    obtain ⟨a, vs, h1, h2, h3⟩ := h
    exact ⟨a, vs, h1, e.same _ _ h2, RepL.mono e h3⟩
  | .scr is, _, h => by
    unfold Rep at h ⊢
    obtain ⟨a, h1, h2⟩ := h
    exact ⟨a, h1, e.same.seqL h2⟩
  | .dct ks xs, _, h => by
    unfold Rep at h ⊢
    obtain ⟨a, kvs, h1, h2, h3, h4⟩ := h
    exact ⟨a, kvs, h1, e.same _ _ h2, h3, RepL.mono e h4⟩
  | .ref i, _, h => by
    unfold Rep at h ⊢
    obtain ⟨a, h1, h2⟩ := h
    exact ⟨a, e.get h1, h2⟩
  | .dctT _ _, _, h => by unfold Rep at h; exact h.elim
  | .obj c ks xs, _, h => by
    unfold Rep at h ⊢
    obtain ⟨a, dx, vs, h1, h2, h3, h4⟩ := h
    exact ⟨a, dx, vs, h1, e.same _ _ h2, h3, RepL.mono e h4⟩
  | .ty _, _, h => by unfold Rep at h; exact h.elim
  | .fn _, _, h => by unfold Rep at h; exact h.elim
  | .cls _, _, h => by unfold Rep at h; exact h.elim
theorem RepL.mono (e : Ext F μ F' μ') : ∀ {xs : List PV} {vs : List V}, RepL K F μ xs vs → RepL K F' μ' xs vs
  | [], _, h => by
    unfold RepL at h ⊢
    exact h
  | x :: xs, _, h => by
    unfold RepL at h ⊢
    obtain ⟨v, r, h1, h2, h3⟩ := h
    exact ⟨v, r, h1, Rep.mono e h2, RepL.mono e h3⟩
end
theorem repL_nil {vs : List V} : RepL K F μ [] vs ↔ vs = [] := by unfold RepL; exact Iff.rfl
theorem repL_cons {x : PV} {xs : List PV} {vs : List V} : RepL K F μ (x :: xs) vs ↔ ∃ v r, vs = v :: r ∧ Rep K F μ x v ∧ RepL K F μ xs r := by
  constructor
  · intro h
    unfold RepL at h
    exact h
  · intro h
    unfold RepL
    exact h
theorem RepL.length : ∀ {xs : List PV} {vs : List V}, RepL K F μ xs vs → vs.length = xs.length
  | [], _, h => by
    rw [repL_nil.mp h]
    rfl
  | x :: xs, _, h => by
    obtain ⟨v, r, rfl, _, h3⟩ := repL_cons.mp h
    simp [RepL.length h3]
theorem RepL.get : ∀ {xs : List PV} {vs : List V} {i : Nat} {x : PV}, RepL K F μ xs vs → xs[i]? = some x → ∃ v, vs[i]? = some v ∧ Rep K F μ x v
  | [], _, _, _, _, h => by simp at h
  | y :: xs, _, 0, x, h, e => by
    obtain ⟨v, r, rfl, h2, h3⟩ := repL_cons.mp h
    simp at e
    subst e
    exact ⟨v, by simp, h2⟩
  | y :: xs, _, i + 1, x, h, e => by
    obtain ⟨v, r, rfl, h2, h3⟩ := repL_cons.mp h
    obtain ⟨w, h4, h5⟩ := RepL.get (i := i) h3 (by simpa using e)
    exact ⟨w, by simpa using h4, h5⟩
theorem RepL.get' {xs : List PV} {vs : List V} {i : Nat} {v : V} (h : RepL K F μ xs vs) (e : vs[i]? = some v) : ∃ x, xs[i]? = some x ∧ Rep K F μ x v := by
  have hi : i < xs.length := by
    rw [← h.length]
    exact (List.getElem?_eq_some_iff.mp e).1
  have e2 : xs[i]? = some xs[i] := by simp [hi]
  obtain ⟨w, h1, h2⟩ := h.get e2
  rw [e] at h1
  cases h1
  exact ⟨_, e2, h2⟩
theorem RepL.append : ∀ {xs ys : List PV} {vs ws : List V}, RepL K F μ xs vs → RepL K F μ ys ws → RepL K F μ (xs ++ ys) (vs ++ ws)
  | [], ys, vs, ws, h, h' => by
    rw [repL_nil.mp h]
    exact h'
  | x :: xs, ys, vs, ws, h, h' => by
    obtain ⟨v, r, rfl, h2, h3⟩ := repL_cons.mp h
    exact repL_cons.mpr ⟨v, r ++ ws, rfl, h2, RepL.append h3 h'⟩
theorem RepL.take : ∀ {xs : List PV} {vs : List V} (n : Nat), RepL K F μ xs vs → RepL K F μ (xs.take n) (vs.take n)
  | _, _, 0, _ => by simp [RepL]
  | [], vs, n + 1, h => by
    rw [repL_nil.mp h]
    simp [RepL]
  | x :: xs, vs, n + 1, h => by
    obtain ⟨v, r, rfl, h2, h3⟩ := repL_cons.mp h
    exact repL_cons.mpr ⟨v, r.take n, rfl, h2, RepL.take n h3⟩
theorem RepL.drop : ∀ {xs : List PV} {vs : List V} (n : Nat), RepL K F μ xs vs → RepL K F μ (xs.drop n) (vs.drop n)
  | _, _, 0, h => by simpa using h
  | [], vs, n + 1, h => by
    rw [repL_nil.mp h]
    simp [RepL]
  | x :: xs, vs, n + 1, h => by
    obtain ⟨v, r, rfl, h2, h3⟩ := repL_cons.mp h
    simpa using RepL.drop n h3
theorem RepL.set : ∀ {xs : List PV} {vs : List V} (n : Nat) {x : PV} {v : V}, RepL K F μ xs vs → Rep K F μ x v → RepL K F μ (xs.set n x) (vs.set n v)
  | [], vs, n, x, v, h, hx => by
    rw [repL_nil.mp h]
    simp [RepL]
  | y :: xs, vs, 0, x, v, h, hx => by
    obtain ⟨w, r, rfl, h2, h3⟩ := repL_cons.mp h
    exact repL_cons.mpr ⟨v, r, rfl, hx, h3⟩
  | y :: xs, vs, n + 1, x, v, h, hx => by
    obtain ⟨w, r, rfl, h2, h3⟩ := repL_cons.mp h
    exact repL_cons.mpr ⟨w, r.set n v, rfl, h2, RepL.set n h3 hx⟩
theorem RepL.reverse : ∀ {xs : List PV} {vs : List V}, RepL K F μ xs vs → RepL K F μ xs.reverse vs.reverse
  | [], vs, h => by
    rw [repL_nil.mp h]
    simp [RepL]
  | x :: xs, vs, h => by
    obtain ⟨v, r, rfl, h2, h3⟩ := repL_cons.mp h
    rw [List.reverse_cons, List.reverse_cons]
    exact (RepL.reverse h3).append (repL_cons.mpr ⟨v, [], rfl, h2, repL_nil.mpr rfl⟩)
theorem RepL.ofGet : ∀ {xs : List PV} {vs : List V}, vs.length = xs.length → (∀ (i : Nat) x v, xs[i]? = some x → vs[i]? = some v → Rep K F μ x v) → RepL K F μ xs vs
  | [], vs, hl, _ => repL_nil.mpr (List.length_eq_zero_iff.mp (by simpa using hl))
  | x :: xs, [], hl, _ => by simp at hl
  | x :: xs, v :: vs, hl, h => repL_cons.mpr ⟨v, vs, rfl, h 0 x v (by simp) (by simp), RepL.ofGet (by simpa using hl) fun i y w e1 e2 => h (i + 1) y w (by simpa using e1) (by simpa using e2)⟩
end
/-- an object of the store, as it lies -/
def RO (K : PySem.W.Frag) (F : Hp) (μ : List Addr) (H : Hp) (a : Addr) : SO → Prop
  | .dead => True
  | .lst xs => F a = none ∧ ∃ vs, H a = some (.lst vs) ∧ RepL K F μ xs vs
  | .dct ks xs => F a = none ∧ ∃ kvs, H a = some (.dK kvs) ∧ ks = kvs.map (fun q => kP q.1) ∧ RepL K F μ xs (kvs.map (·.2))
  | .ins c ks xs => F a = none ∧ ∃ dx vs, H a = some (.ins (cA K c) dx (attrs ks vs)) ∧ ks.length = xs.length ∧ RepL K F μ xs vs
  | _ => False
structure Lay (K : PySem.W.Frag) (G F : Hp) (μ : List Addr) (st : Store) (H : Hp) : Prop where
  gd : ∀ a o, G a = some o → H a = some o ∧ F a = none ∧ a ∉ μ
  same : SameD F H
  len : μ.length = st.length
  nd : μ.Nodup
  there : ∀ a ∈ μ, ∃ o, H a = some o
  obj : ∀ (i : Nat) (a : Addr) (o : SO), μ[i]? = some a → st[i]? = some o → RO K F μ H a o
def EnvR (K : PySem.W.Frag) (F : Hp) (μ : List Addr) (σ : L2.St) (ρ : VEnv) : Prop := σ.length = ρ.length ∧ ∀ (i : Nat) (x : PV), ρ[i]? = some (some x) → ∃ v, σ[i]? = some (some v) ∧ Rep K F μ x v
section
variable {K : PySem.W.Frag} {G F F' : Hp} {μ μ' : List Addr} {σ : L2.St} {ρ : VEnv} {H : Hp} {st : Store}
theorem EnvR.mono (h : EnvR K F μ σ ρ) (e : Ext F μ F' μ') : EnvR K F' μ' σ ρ := ⟨h.1, fun i x q => by
  obtain ⟨v, h1, h2⟩ := h.2 i x q
  exact ⟨v, h1, h2.mono e⟩⟩
theorem EnvR.set {x : PV} {v : V} (h : EnvR K F μ σ ρ) (i : Nat) (r : Rep K F μ x v) : EnvR K F μ (σ.set i (some v)) (ρ.set i (some x)) := ⟨by simp [h.1], fun j y q => by
  by_cases e : i = j
  · subst e
    by_cases hi : i < ρ.length
    · rw [List.getElem?_set_self hi] at q
      cases q
      exact ⟨v, List.getElem?_set_self (by rw [h.1]; exact hi), r⟩
    · rw [List.getElem?_eq_none (by simpa using hi)] at q
      cases q
  · rw [List.getElem?_set_ne e] at q
    obtain ⟨w, h1, h2⟩ := h.2 j y q
    exact ⟨w, by rw [List.getElem?_set_ne e]; exact h1, h2⟩⟩
theorem EnvR.none (h : EnvR K F μ σ ρ) (i : Nat) : EnvR K F μ (σ.set i none) (ρ.set i none) := ⟨by simp [h.1], fun j y q => by
  by_cases e : i = j
  · subst e
    by_cases hi : i < ρ.length
    · rw [List.getElem?_set_self hi] at q
      cases q
    · rw [List.getElem?_eq_none (by simpa using hi)] at q
      cases q
  · rw [List.getElem?_set_ne e] at q
    obtain ⟨w, h1, h2⟩ := h.2 j y q
    exact ⟨w, by rw [List.getElem?_set_ne e]; exact h1, h2⟩⟩
theorem EnvR.wipe (h : EnvR K F μ σ ρ) : ∀ vs : List Nat, EnvR K F μ (L2.wipe σ vs) (VM.wipe ρ vs)
  | [] => h
  | v :: vs => (EnvR.wipe h vs).none v
theorem Lay.free (l : Lay K G F μ st H) {p : Addr} (h : H p = none) : F p = none := by
  cases e : F p with
  | none => rfl
  | some o =>
    rw [l.same p o e] at h
    cases h
theorem Lay.notin (l : Lay K G F μ st H) {p : Addr} (h : H p = none) : p ∉ μ := fun z => by
  obtain ⟨o, e⟩ := l.there p z
  rw [h] at e
  cases e
theorem ext_upd (l : Lay K G F μ st H) {p : Addr} {o : HO} (h : H p = none) : Ext F μ (upd F p o) μ := ⟨fun a u e => by rw [upd_ne (ne_of_none e (l.free h))]; exact e, [], by simp⟩
theorem RO.mono {a : Addr} {o : SO} (h : RO K F μ H a o) (e : Ext F μ F' μ') {H' : Hp} (hf : F' a = F a) (hh : H' a = H a) : RO K F' μ' H' a o := by
  cases o with
  | dead => trivial
  | lst xs =>
    obtain ⟨h1, vs, h2, h3⟩ := h
    exact ⟨hf.trans h1, vs, hh.trans h2, h3.mono e⟩
  | dct ks xs =>
    obtain ⟨h1, kvs, h2, h3, h4⟩ := h
    exact ⟨hf.trans h1, kvs, hh.trans h2, h3, h4.mono e⟩
  | dctT _ _ => exact h.elim
  | ins c ks xs =>
    obtain ⟨h1, dx, vs, h2, h3, h4⟩ := h
    exact ⟨hf.trans h1, dx, vs, hh.trans h2, h3, h4.mono e⟩
/-- a new thing that is frozen -/
theorem Lay.new (l : Lay K G F μ st H) {p : Addr} {o : HO} (h : H p = none) : Lay K G (upd F p o) μ st (upd H p o) where
  gd := fun a u e => by
    obtain ⟨h1, h2, h3⟩ := l.gd a u e
    have q : a ≠ p := ne_of_none h1 h
    exact ⟨by rw [upd_ne q]; exact h1, by rw [upd_ne q]; exact h2, h3⟩
  same := fun a u e => by
    by_cases q : a = p
    · subst q
      rw [upd_same] at e ⊢
      exact e
    · rw [upd_ne q] at e ⊢
      exact l.same a u e
  len := l.len
  nd := l.nd
  there := fun a ha => by
    by_cases q : a = p
    · exact ⟨o, by rw [q]; exact upd_same⟩
    · rw [upd_ne q]
      exact l.there a ha
  obj := fun i a u h1 h2 => by
    have q : a ≠ p := fun z => l.notin h (z ▸ List.mem_of_getElem? h1)
    exact (l.obj i a u h1 h2).mono (ext_upd l h) (upd_ne q) (upd_ne q)
theorem ext_alloc (p : Addr) : Ext F μ F (μ ++ [p]) := ⟨fun _ _ h => h, [p], rfl⟩
/-- a new object of the store -/
theorem Lay.alloc (l : Lay K G F μ st H) {p : Addr} {o : HO} {u : SO} (h : H p = none) (r : RO K F (μ ++ [p]) (upd H p o) p u) : Lay K G F (μ ++ [p]) (st ++ [u]) (upd H p o) where
  gd := fun a u e => by
    obtain ⟨h1, h2, h3⟩ := l.gd a u e
    have q : a ≠ p := ne_of_none h1 h
    exact ⟨by rw [upd_ne q]; exact h1, h2, fun z => (List.mem_append.mp z).elim h3 fun z => q (by simpa using z)⟩
  same := fun a v e => by rw [upd_ne (ne_of_none (l.same a v e) h)]; exact l.same a v e
  len := by simp [l.len]
  nd := List.nodup_append.mpr ⟨l.nd, by simp, fun a ha b hb => by
    have e : b = p := by simpa using hb
    subst e
    exact fun z => l.notin h (z ▸ ha)⟩
  there := fun a ha => by
    rcases List.mem_append.mp ha with ha | ha
    · by_cases q : a = p
      · exact ⟨o, by rw [q]; exact upd_same⟩
      · rw [upd_ne q]
        exact l.there a ha
    · have e : a = p := by simpa using ha
      exact ⟨o, by rw [e]; exact upd_same⟩
  obj := fun i a v h1 h2 => by
    by_cases hi : i < μ.length
    · rw [List.getElem?_append_left hi] at h1
      rw [List.getElem?_append_left (by rw [← l.len]; exact hi)] at h2
      have q : a ≠ p := fun z => l.notin h (z ▸ List.mem_of_getElem? h1)
      exact (l.obj i a v h1 h2).mono (ext_alloc p) rfl (upd_ne q)
    · have e : i = μ.length := by
        have := (List.getElem?_eq_some_iff.mp h1).1
        simp at this
        omega
      subst e
      rw [List.getElem?_append_right (Nat.le_refl _)] at h1
      rw [l.len, List.getElem?_append_right (Nat.le_refl _)] at h2
      simp at h1 h2
      subst h1 h2
      exact r
/-- an object of the store is changed -/
theorem Lay.put (l : Lay K G F μ st H) {i : Nat} {a : Addr} {o : HO} {u : SO} (hi : μ[i]? = some a) (r : RO K F μ (upd H a o) a u) (hf : F a = none) : Lay K G F μ (st.set i u) (upd H a o) where
  gd := fun b v e => by
    obtain ⟨h1, h2, h3⟩ := l.gd b v e
    exact ⟨by rw [upd_ne (fun z => h3 (by rw [z]; exact List.mem_of_getElem? hi))]; exact h1, h2, h3⟩
  same := fun b v e => by rw [upd_ne (ne_of_none e hf)]; exact l.same b v e
  len := by simp [l.len]
  nd := l.nd
  there := fun b hb => by
    by_cases q : b = a
    · exact ⟨o, by rw [q]; exact upd_same⟩
    · rw [upd_ne q]
      exact l.there b hb
  obj := fun j b v h1 h2 => by
    by_cases e : i = j
    · subst e
      rw [hi] at h1
      cases h1
      rw [List.getElem?_set_self (by rw [← l.len]; exact (List.getElem?_eq_some_iff.mp hi).1)] at h2
      cases h2
      exact r
    · rw [List.getElem?_set_ne e] at h2
      have q : b ≠ a := fun z => by
        subst z
        obtain ⟨hi1, e1⟩ := List.getElem?_eq_some_iff.mp hi
        obtain ⟨hj1, e2⟩ := List.getElem?_eq_some_iff.mp h1
        exact e ((List.getElem_inj l.nd).mp (e1.trans e2.symm))
      exact (l.obj j b v h1 h2).mono Ext.refl rfl (upd_ne q)
end
end VS
end
section
namespace VS
open PySem PySem.Spec PyProof.Rows L2
open VM (PV SO Store)
def nox : VM.KV := fun _ _ => False
def Kon (K : PySem.W.Frag) (G F : Hp) (μ : List Addr) (k : VM.KV) (Q : VK) : Prop := ∀ (v : V) (H' F' : Hp) (μ' : List Addr) (x : PV) (st' : Store), Ext F μ F' μ' → Lay K G F' μ' st' H' → Rep K F' μ' x v → k x st' → Q v H'
def KonB (K : PySem.W.Frag) (G F : Hp) (μ : List Addr) (k : Bool → Store → Prop) (Q : Bool → Hp → Prop) : Prop := ∀ (b : Bool) (H' F' : Hp) (μ' : List Addr) (st' : Store), Ext F μ F' μ' → Lay K G F' μ' st' H' → k b st' → Q b H'
def KonA (K : PySem.W.Frag) (G F : Hp) (μ : List Addr) (k : List PV → Store → Prop) (Q : List V → Hp → Prop) : Prop := ∀ (vs : List V) (H' F' : Hp) (μ' : List Addr) (xs : List PV) (st' : Store), Ext F μ F' μ' → Lay K G F' μ' st' H' → RepL K F' μ' xs vs → k xs st' → Q vs H'
section
variable {K : PySem.W.Frag} {G F F' : Hp} {μ μ' : List Addr}
theorem Kon.mono {k : VM.KV} {Q : VK} (h : Kon K G F μ k Q) (e : Ext F μ F' μ') : Kon K G F' μ' k Q := fun v H' F2 μ2 x st' e2 => h v H' F2 μ2 x st' (e.trans e2)
theorem KonB.mono {k : Bool → Store → Prop} {Q : Bool → Hp → Prop} (h : KonB K G F μ k Q) (e : Ext F μ F' μ') : KonB K G F' μ' k Q := fun v H' F2 μ2 st' e2 => h v H' F2 μ2 st' (e.trans e2)
theorem KonA.mono {k : List PV → Store → Prop} {Q : List V → Hp → Prop} (h : KonA K G F μ k Q) (e : Ext F μ F' μ') : KonA K G F' μ' k Q := fun v H' F2 μ2 x st' e2 => h v H' F2 μ2 x st' (e.trans e2)
end
/-- a tree-level reading, over the heap -/
def rE (K : PySem.W.Frag) (t : VM.TE) : L2.TE := fun σ H Q => ∃ G F μ ρ st k, Lay K G F μ st H ∧ EnvR K F μ σ ρ ∧ t ρ st k nox ∧ Kon K G F μ k Q
def rT (K : PySem.W.Frag) (t : VM.TT) : L2.TT := fun σ H Q => ∃ G F μ ρ st k, Lay K G F μ st H ∧ EnvR K F μ σ ρ ∧ t ρ st k nox ∧ KonB K G F μ k Q
def rA (K : PySem.W.Frag) (t : VM.TA) : L2.TA := fun σ H Q => ∃ G F μ ρ st k, Lay K G F μ st H ∧ EnvR K F μ σ ρ ∧ t ρ st k nox ∧ KonA K G F μ k Q
abbrev VE (X : Cx) (e : Expr) (t : VM.TE) : Prop := PE X e (rE X.K t)
abbrev VT (X : Cx) (e : Expr) (t : VM.TT) : Prop := PT X e (rT X.K t)
abbrev VA (X : Cx) (es : List Expr) (t : VM.TA) : Prop := PA X es (rA X.K t)
theorem pe_imp {X : Cx} {e : Expr} {t t' : L2.TE} (h : PE X e t) (hi : ∀ σ H Q, t' σ H Q → t σ H Q) : PE X e t' := ⟨fun pins s σ H Q I q => h.run pins s σ H Q I (hi σ H Q q)⟩
theorem pt_imp {X : Cx} {e : Expr} {t t' : L2.TT} (h : PT X e t) (hi : ∀ σ H Q, t' σ H Q → t σ H Q) : PT X e t' := ⟨fun pins s σ H Q I q => h.run pins s σ H Q I (hi σ H Q q)⟩
theorem pw_imp {X : Cx} {e : Expr} {t t' : L2.TT} (h : PW X e t) (hi : ∀ σ H Q, t' σ H Q → t σ H Q) : PW X e t' := ⟨fun wh pins s σ H Q I q => h.run wh pins s σ H Q I (hi σ H Q q)⟩
theorem pa_imp {X : Cx} {es : List Expr} {t t' : L2.TA} (h : PA X es t) (hi : ∀ σ H Q, t' σ H Q → t σ H Q) : PA X es t' := ⟨fun pos pins s σ H Q I q => h.run pos pins s σ H Q I (hi σ H Q q)⟩
/-- an operation by values -/
def R2of (K : PySem.W.Frag) (f : PV → PV → Store → VM.KV → Prop) : R2 := fun x y H Q => ∃ G F μ st px py k, Lay K G F μ st H ∧ Rep K F μ px x ∧ Rep K F μ py y ∧ f px py st k ∧ Kon K G F μ k Q
def R1of (K : PySem.W.Frag) (f : PV → Store → VM.KV → Prop) : V → Hp → VK → Prop := fun x H Q => ∃ G F μ st px k, Lay K G F μ st H ∧ Rep K F μ px x ∧ f px st k ∧ Kon K G F μ k Q
section
variable {K : PySem.W.Frag} {G F : Hp} {μ : List Addr} {σ : L2.St} {H : Hp}
/-- e, then f of its value -/
theorem bind1 {ta : VM.TE} {ρ : VM.Env} {st : Store} {k : VM.KV} {W : V → Hp → Prop} (l : Lay K G F μ st H) (r : EnvR K F μ σ ρ) (h : ta ρ st k nox)
    (hG : ∀ v H1 F1 μ1 x st1, Ext F μ F1 μ1 → Lay K G F1 μ1 st1 H1 → EnvR K F1 μ1 σ ρ → Rep K F1 μ1 x v → k x st1 → W v H1) : rE K ta σ H W :=
  ⟨G, F, μ, ρ, st, k, l, r, h, fun v H' F' μ' x st' e l' r' q => hG v H' F' μ' x st' e l' (r.mono e) r' q⟩
theorem bindT {ta : VM.TT} {ρ : VM.Env} {st : Store} {k : Bool → Store → Prop} {W : Bool → Hp → Prop} (l : Lay K G F μ st H) (r : EnvR K F μ σ ρ) (h : ta ρ st k nox)
    (hG : ∀ b H1 F1 μ1 st1, Ext F μ F1 μ1 → Lay K G F1 μ1 st1 H1 → EnvR K F1 μ1 σ ρ → k b st1 → W b H1) : rT K ta σ H W :=
  ⟨G, F, μ, ρ, st, k, l, r, h, fun v H' F' μ' st' e l' q => hG v H' F' μ' st' e l' (r.mono e) q⟩
theorem bindA {ta : VM.TA} {ρ : VM.Env} {st : Store} {k : List PV → Store → Prop} {W : List V → Hp → Prop} (l : Lay K G F μ st H) (r : EnvR K F μ σ ρ) (h : ta ρ st k nox)
    (hG : ∀ vs H1 F1 μ1 xs st1, Ext F μ F1 μ1 → Lay K G F1 μ1 st1 H1 → EnvR K F1 μ1 σ ρ → RepL K F1 μ1 xs vs → k xs st1 → W vs H1) : rA K ta σ H W :=
  ⟨G, F, μ, ρ, st, k, l, r, h, fun v H' F' μ' x st' e l' r' q => hG v H' F' μ' x st' e l' (r.mono e) r' q⟩
theorem bind2 {ta tb : VM.TE} {ρ : VM.Env} {st : Store} {f : PV → PV → Store → VM.KV → Prop} {k : VM.KV} {Q : VK} (l : Lay K G F μ st H) (r : EnvR K F μ σ ρ) (hk : Kon K G F μ k Q)
    (h : ta ρ st (fun u st => tb ρ st (fun v st => f u v st k) nox) nox) : tOp (R2of K f) (rE K ta) (rE K tb) σ H Q :=
  bind1 l r h fun x H1 F1 μ1 px st1 e1 l1 r1 p1 q1 => bind1 l1 r1 q1 fun y H2 F2 μ2 py st2 e2 l2 r2 p2 q2 => ⟨G, F2, μ2, st2, px, py, k, l2, p1.mono e2, p2, q2, hk.mono (e1.trans e2)⟩
/-- a list, as it stands -/
theorem asL_rep {st : Store} {px : PV} {x : V} {xs : List PV} (l : Lay K G F μ st H) (r : Rep K F μ px x) (h : VM.asL st px = some xs) : ∃ a vs, x = .ref a ∧ H a = some (.lst vs) ∧ RepL K F μ xs vs := by
  unfold VM.asL at h
  split at h
  · cases h
    unfold Rep at r
    obtain ⟨a, vs, h1, h2, h3⟩ := r
    exact ⟨a, vs, h1, l.same a _ h2, h3⟩
  · rename_i i
    split at h
    · rename_i ys e
      cases h
      unfold Rep at r
      obtain ⟨a, h1, h2⟩ := r
      obtain ⟨_, vs, h3, h4⟩ := l.obj i a _ h1 e
      exact ⟨a, vs, h2, h3, h4⟩
    · cases h
  · cases h
theorem rep_non {v : V} : Rep K F μ .non v ↔ v = .non := by unfold Rep; exact Iff.rfl
theorem rep_bl {b : Bool} {v : V} : Rep K F μ (.bl b) v ↔ v = .bl b := by unfold Rep; exact Iff.rfl
theorem rep_int {i : Int} {v : V} : Rep K F μ (.int i) v ↔ v = .int i := by unfold Rep; exact Iff.rfl
theorem rep_str {s : List Nat} {v : V} : Rep K F μ (.str s) v ↔ sOk s ∧ v = .str ⟨s.toArray⟩ := by unfold Rep; exact Iff.rfl
theorem rep_tup {xs : List PV} {v : V} : Rep K F μ (.tup xs) v ↔ ∃ a vs, v = .ref a ∧ SqT K F a vs ∧ RepL K F μ xs vs := by
  constructor
  · intro h
    unfold Rep at h
    exact h
  · intro h
    unfold Rep
    exact h
theorem rep_lst {xs : List PV} {v : V} : Rep K F μ (.lst xs) v ↔ ∃ a vs, v = .ref a ∧ F a = some (.lst vs) ∧ RepL K F μ xs vs := by
  constructor
  · intro h
    unfold Rep at h
    exact h
  · intro h
    unfold Rep
    exact h
theorem rep_scr {is : List Int} {v : V} : Rep K F μ (.scr is) v ↔ ∃ a, v = .ref a ∧ SqL K F a (is.map V.int) := by
  constructor
  · intro h
    unfold Rep at h
    exact h
  · intro h
    unfold Rep
    exact h
theorem rep_ref {i : Nat} {v : V} : Rep K F μ (.ref i) v ↔ ∃ a, μ[i]? = some a ∧ v = .ref a := by
  constructor
  · intro h
    unfold Rep at h
    exact h
  · intro h
    unfold Rep
    exact h
/-- a new frozen list, tuple -/
theorem Kon.lst {st : Store} {k : VM.KV} {Q : VK} {xs : List PV} {vs : List V} (hk : Kon K G F μ k Q) (l : Lay K G F μ st H) (r : RepL K F μ xs vs) (q : k (.lst xs) st) (p : Addr) (hp : H p = none) : Q (.ref p) (upd H p (.lst vs)) :=
  hk (.ref p) _ (upd F p (.lst vs)) μ (.lst xs) st (ext_upd l hp) (l.new hp) (rep_lst.mpr ⟨p, vs, rfl, upd_same, r.mono (ext_upd l hp)⟩) q
theorem Kon.tup {st : Store} {k : VM.KV} {Q : VK} {xs : List PV} {vs : List V} (hk : Kon K G F μ k Q) (l : Lay K G F μ st H) (r : RepL K F μ xs vs) (q : k (.tup xs) st) (p : Addr) (hp : H p = none) : Q (.ref p) (upd H p (.tup vs)) :=
  hk (.ref p) _ (upd F p (.tup vs)) μ (.tup xs) st (ext_upd l hp) (l.new hp) (rep_tup.mpr ⟨p, vs, rfl, .inl (.inl upd_same), r.mono (ext_upd l hp)⟩) q
/-- a new list of the store -/
theorem Kon.lstM {st : Store} {k : VM.KV} {Q : VK} {xs : List PV} {vs : List V} (hk : Kon K G F μ k Q) (l : Lay K G F μ st H) (r : RepL K F μ xs vs) (q : k (.ref st.length) (st ++ [.lst xs])) (p : Addr) (hp : H p = none) : Q (.ref p) (upd H p (.lst vs)) := by
  refine hk (.ref p) _ F (μ ++ [p]) (.ref st.length) (st ++ [.lst xs]) (ext_alloc p) (l.alloc (u := SO.lst xs) hp ⟨l.free hp, vs, upd_same, r.mono (ext_alloc p)⟩) (rep_ref.mpr ⟨p, ?_, rfl⟩) q
  rw [← l.len, List.getElem?_append_right (Nat.le_refl _)]
  simp
theorem Kon.same {st : Store} {k : VM.KV} {Q : VK} {x : PV} {v : V} (hk : Kon K G F μ k Q) (l : Lay K G F μ st H) (r : Rep K F μ x v) (q : k x st) : Q v H := hk v H F μ x st Ext.refl l r q
end
section
variable {X : Cx} {a b c : Expr} {ta tb tc : VM.TE} {pos : Pos}
theorem ve_var (i : Nat) {x : Str} (hN : X.N[i]? = some x := by rfl) (hv : Vis X.env.scope x := by first | exact Or.inl rfl | exact Or.inr (Or.inl rfl) | exact Or.inr (Or.inr rfl)) (hd : (x == ("__debug__" : Str)) = false := by decide)
    (hcd : (x == ("__classdict__" : Str)) = false := by decide) : VE X (.Name x pos) (VM.eVar i) := pe_imp (pe_var hN hv hd hcd) fun σ H Q h => by
  obtain ⟨G, F, μ, ρ, st, k, l, r, d, hk⟩ := h
  unfold VM.eVar at d
  split at d
  · rename_i v e
    obtain ⟨w, h1, h2⟩ := r.2 i v e
    exact ⟨w, h1, hk.same l h2 d⟩
  · exact d.elim
theorem ve_c {e : Expr} {v : V} {x : PV} (h : PE X e (tC v)) (hr : ∀ F μ, Rep X.K F μ x v) : VE X e (VM.eC x) := pe_imp h fun σ H Q h => by
  obtain ⟨G, F, μ, ρ, st, k, l, r, d, hk⟩ := h
  exact hk.same l (hr F μ) d
theorem ve_int {i : Int} {j : Nat} : VE X (.Constant (.int i) j pos) (VM.eC (.int i)) := ve_c pe_int fun _ _ => rep_int.mpr rfl
theorem ve_bl {i : Bool} {j : Nat} : VE X (.Constant (.bool i) j pos) (VM.eC (.bl i)) := ve_c pe_bl fun _ _ => rep_bl.mpr rfl
theorem ve_non {j : Nat} : VE X (.Constant .none j pos) (VM.eC .non) := ve_c pe_non fun _ _ => rep_non.mpr rfl
theorem sOk_of {s : List Nat} (h : (Nat.ble s.length 16777216 && s.all fun c => Nat.blt c 1114112) = true) : sOk s := by
  rw [Bool.and_eq_true] at h
  exact ⟨Nat.le_of_ble_eq_true h.1, fun c hc => Nat.le_of_ble_eq_true (List.all_eq_true.mp h.2 c hc)⟩
theorem ve_str {z : Str} {s : List Nat} {j : Nat} (hz : z = ⟨s.toArray⟩ := by rfl) (hs : (Nat.ble s.length 16777216 && s.all fun c => Nat.blt c 1114112) = true := by rfl) : VE X (.Constant (.str z) j pos) (VM.eC (.str s)) := by
  subst hz
  exact ve_c pe_str fun _ _ => rep_str.mpr ⟨sOk_of hs, rfl⟩

/-- what a division of any size asks -/
structure Dv (base : Heap) (P : Program) (stack : List PySem.Env) (A : Around) : Prop where
  seer : base.NoSeer
  tree : P.given.tree = none
  top : ∃ env l, stack = env :: l ∧ env.scope.isGenerator = false ∧ env.scope.isCoroutine = false ∧ env.builtins = builtinsNs ∧ env.globals = mainGlobals
  dep : A.depth + Builtin.pylongFrames < recursionLimit
theorem dv_room {pins : List (Addr × Obj)} {σ : L2.St} {H : Hp} {s : Shared} (hd : Dv X.base X.prog X.stack X.A) (I : Inv X pins σ H s) : PylongRoom (model X.prog X.w) X.A s := by
  obtain ⟨env, l, e, h1, h2, h3, h4⟩ := hd.top
  exact PylongRoom.of I.nolimit hd.dep (SeerAt.of (env := env) (l := l) (hd.seer.keeps I.bk) hd.tree (I.ok.frames.trans (by rw [e])) h1 h2 h3 h4)
theorem mulOk {i j : Int} (h : VM.MulOk i j) : IntMulOk i j := by
  have b : ∀ x : Int, Builtin.Int.intBits x ≤ x.natAbs.log2 + 1 := fun x => by
    unfold Builtin.Int.intBits
    split <;> omega
  have h1 := b i
  have h2 := b j
  have h3 : i.natAbs.log2 + j.natAbs.log2 < 100000000 := h
  have e : bitsLine = 134217728 := by decide
  unfold IntMulOk
  intro z
  rw [Bool.and_eq_true] at z
  have z2 := z.2
  unfold Builtin.Int.intTooBig at z2
  have z3 := of_decide_eq_true z2
  rw [e] at z3
  omega
theorem op_mulG : OpR X (binaryOp .Mult) (rI VM.MulOk fun i j => .int (i * j)) := opI fun _ _ _ _ _ _ _ hc q => mul_int q (mulOk hc)
theorem strA (a b : List Nat) : ((⟨a.toArray⟩ : Str) ++ (⟨b.toArray⟩ : Str)) = ⟨(a ++ b).toArray⟩ := by
  show (⟨a.toArray ++ b.toArray⟩ : Str) = _
  simp
theorem o_add : OpR X (binaryOp .Add) (R2of X.K VM.opAdd) := by
  intro pins s σ H x y v u Q I rx ry h
  obtain ⟨G, F, μ, st, px, py, k, l, p1, p2, d, hk⟩ := h
  unfold VM.opAdd at d
  split at d
  · rename_i i j
    obtain rfl := rep_int.mp p1
    obtain rfl := rep_int.mp p2
    exact op_add pins s σ H _ _ v u Q I rx ry ⟨i, j, rfl, rfl, hk.same l (rep_int.mpr rfl) d⟩
  · rename_i a b
    obtain ⟨o1, rfl⟩ := rep_str.mp p1
    obtain ⟨o2, rfl⟩ := rep_str.mp p2
    refine op_add_str pins s σ H _ _ v u Q I rx ry ⟨_, _, rfl, rfl, by rw [sizeLine_eq]; simpa [Str.length] using d.1, ?_⟩
    rw [strA]
    exact hk.same l (rep_str.mpr ⟨⟨by simpa using d.1, fun c hc => (List.mem_append.mp hc).elim (o1.2 c) (o2.2 c)⟩, rfl⟩) d.2
  · rename_i xs ys
    obtain ⟨p, vs, rfl, e1, r1⟩ := rep_tup.mp p1
    obtain ⟨q, ws, rfl, e2, r2⟩ := rep_tup.mp p2
    have h1 := r1.length
    have h2 := r2.length
    refine op_catA pins s σ H _ _ v u Q I rx ry ⟨p, q, vs, ws, rfl, rfl, l.same.seqT e1, l.same.seqT e2, by rw [sizeLine_eq]; have z : VM.SZ = 16777216 := rfl; have := d.1; omega, fun z => ?_, fun _ z => ?_, fun _ _ => hk.tup l (r1.append r2) d.2⟩
    · subst z
      cases xs with
      | nil => exact hk.same l (rep_tup.mpr ⟨q, ws, rfl, e2, r2⟩) d.2
      | cons _ _ => simp at h1
    · subst z
      cases ys with
      | nil =>
        have d2 := d.2
        rw [List.append_nil] at d2
        exact hk.same l (rep_tup.mpr ⟨p, vs, rfl, e1, r1⟩) d2
      | cons _ _ => simp at h2
  · split at d
    · rename_i xs ys ea eb
      obtain ⟨p, vs, rfl, e1, r1⟩ := asL_rep l p1 ea
      obtain ⟨q, ws, rfl, e2, r2⟩ := asL_rep l p2 eb
      have h1 := r1.length
      have h2 := r2.length
      exact op_cat pins s σ H _ _ v u Q I rx ry ⟨p, q, vs, ws, rfl, rfl, e1, e2, by rw [sizeLine_eq]; have z : VM.SZ = 16777216 := rfl; have := d.1; omega, hk.lst l (r1.append r2) d.2⟩
    · exact d.elim
theorem o_sub : OpR X (binaryOp .Sub) (R2of X.K VM.opSub) := by
  intro pins s σ H x y v u Q I rx ry h
  obtain ⟨G, F, μ, st, px, py, k, l, p1, p2, d, hk⟩ := h
  unfold VM.opSub at d
  split at d
  · rename_i i j
    obtain rfl := rep_int.mp p1
    obtain rfl := rep_int.mp p2
    exact op_sub pins s σ H _ _ v u Q I rx ry ⟨i, j, rfl, rfl, hk.same l (rep_int.mpr rfl) d⟩
  · exact d.elim
theorem o_fdiv (hd : Dv X.base X.prog X.stack X.A) : OpR X (binaryOp .FloorDiv) (R2of X.K VM.opFdiv) := by
  intro pins s σ H x y v u Q I rx ry h
  obtain ⟨G, F, μ, st, px, py, k, l, p1, p2, d, hk⟩ := h
  unfold VM.opFdiv at d
  split at d
  · rename_i i j
    obtain rfl := rep_int.mp p1
    obtain rfl := rep_int.mp p2
    obtain ⟨t, rfl⟩ := rx
    obtain ⟨t', rfl⟩ := ry
    exact floordiv_int d.1 ⟨.int (i.fdiv j), H, I.tok _, ⟨_, rfl⟩, hk.same l (rep_int.mpr rfl) d.2⟩ (.inr (dv_room hd I))
  · exact d.elim
theorem o_mod : OpR X (binaryOp .Mod) (R2of X.K VM.opMod) := by
  intro pins s σ H x y v u Q I rx ry h
  obtain ⟨G, F, μ, st, px, py, k, l, p1, p2, d, hk⟩ := h
  unfold VM.opMod at d
  split at d
  · rename_i i j
    obtain rfl := rep_int.mp p1
    obtain rfl := rep_int.mp p2
    exact op_modN pins s σ H _ _ v u Q I rx ry ⟨i, j, rfl, rfl, d.1, hk.same l (rep_int.mpr rfl) d.2⟩
  · exact d.elim
theorem o_pow : OpR X (binaryOp .Pow) (R2of X.K VM.opPow) := by
  intro pins s σ H x y v u Q I rx ry h
  obtain ⟨G, F, μ, st, px, py, k, l, p1, p2, d, hk⟩ := h
  unfold VM.opPow at d
  split at d
  · rename_i i j
    obtain rfl := rep_int.mp p1
    obtain rfl := rep_int.mp p2
    exact op_pow pins s σ H _ _ v u Q I rx ry ⟨i, j, rfl, rfl, d.1, hk.same l (rep_int.mpr rfl) d.2⟩
  · exact d.elim
theorem RepL.rep {K : PySem.W.Frag} {F : Hp} {μ : List Addr} {xs : List PV} {vs : List V} (r : RepL K F μ xs vs) : ∀ n : Nat, RepL K F μ (List.replicate n xs).flatten (List.replicate n vs).flatten
  | 0 => repL_nil.mpr rfl
  | n + 1 => by
    rw [List.replicate_succ, List.replicate_succ, List.flatten_cons, List.flatten_cons]
    exact r.append (RepL.rep r n)
theorem o_mul : OpR X (binaryOp .Mult) (R2of X.K VM.opMul) := by
  intro pins s σ H x y v u Q I rx ry h
  obtain ⟨G, F, μ, st, px, py, k, l, p1, p2, d, hk⟩ := h
  unfold VM.opMul at d
  split at d
  · rename_i i j
    obtain rfl := rep_int.mp p1
    obtain rfl := rep_int.mp p2
    exact op_mulG pins s σ H _ _ v u Q I rx ry ⟨i, j, rfl, rfl, d.1, hk.same l (rep_int.mpr rfl) d.2⟩
  · rename_i xs j
    obtain ⟨p, vs, rfl, e1, r1⟩ := rep_lst.mp p1
    obtain rfl := rep_int.mp p2
    obtain ⟨h1, h2, h3, d⟩ := d
    have hl := r1.length
    exact op_rep pins s σ H _ _ v u Q I rx ry ⟨p, j, vs, rfl, rfl, l.same _ _ e1, h1, h2, by rw [sizeLine_eq, hl]; exact h3, hk.lst l (r1.rep _) d⟩
  · rename_i xs j
    obtain ⟨p, vs, rfl, e1, r1⟩ := rep_tup.mp p1
    obtain rfl := rep_int.mp p2
    obtain ⟨h0, h1, h2, h3, d⟩ := d
    have hl := r1.length
    exact op_repT pins s σ H _ _ v u Q I rx ry ⟨p, j, vs, rfl, rfl, l.same.seqT e1, fun z => by
      subst z
      exact h0 (List.length_eq_zero_iff.mp hl.symm), h1, h2, by rw [hl]; exact h3, hk.tup l (r1.rep _) d⟩
  · exact d.elim
theorem ve_bin {op : Operator} {o : VM.Op} (ho : OpR X (binaryOp op) (R2of X.K (VM.opBin o))) (ha : VE X a ta) (hb : VE X b tb) : VE X (.BinOp a op b pos) (VM.eBin o ta tb) := pe_imp (pe_op ho ha hb) fun σ H Q h => by
  obtain ⟨G, F, μ, ρ, st, k, l, r, d, hk⟩ := h
  exact bind2 l r hk d
theorem ve_neg (ha : VE X a ta) : VE X (.UnaryOp .USub a pos) (VM.eNeg ta) := pe_imp (pe_un un_neg ha) fun σ H Q h => by
  obtain ⟨G, F, μ, ρ, st, k, l, r, d, hk⟩ := h
  refine bind1 l r d fun x H1 F1 μ1 px st1 e1 l1 r1 p1 q1 => ?_
  split at q1
  · rename_i i
    obtain rfl := rep_int.mp p1
    exact ⟨i, rfl, (hk.mono e1).same l1 (rep_int.mpr rfl) q1⟩
  · exact q1.elim
end
end VS
end
section
namespace VS
open PySem PySem.Spec PyProof.Rows L2
open VM (PV SO Store)
mutual
def toD : PV → PyData
  | .non => .none
  | .bl b => .bool b
  | .int i => .int i
  | .str s => .str ⟨s.toArray⟩
  | .tup xs => .tuple (toDL xs)
  | .lst xs => .list (toDL xs)
  | _ => .none
def toDL : List PV → List PyData
  | [] => []
  | x :: xs => toD x :: toDL xs
end
section
variable {K : PySem.W.Frag} {G F : Hp} {μ : List Addr} {H : Hp}
mutual
theorem dp_of (hs : SameD F H) : ∀ (n : Nat) (x : PV) (v : V), VM.isD n x = true → Rep K F μ x v → Dp K H v (toD x)
  | _, .non, v, _, r => by
    obtain rfl := rep_non.mp r
    unfold toD
    exact .non
  | _, .bl b, v, _, r => by
    obtain rfl := rep_bl.mp r
    unfold toD
    exact .bl b
  | _, .int i, v, _, r => by
    obtain rfl := rep_int.mp r
    unfold toD
    exact .int i
  | _, .str s, v, _, r => by
    obtain ⟨_, rfl⟩ := rep_str.mp r
    unfold toD
    exact .str _
  | 0, .tup xs, v, h, r => by simp [VM.isD] at h
  | n + 1, .tup xs, v, h, r => by
    obtain ⟨a, vs, rfl, e, q⟩ := rep_tup.mp r
    unfold toD
    exact .tup (hs.seqT e) (dpL_of hs n xs vs (by simpa [VM.isD] using h) q)
  | 0, .lst xs, v, h, r => by simp [VM.isD] at h
  | n + 1, .lst xs, v, h, r => by
    obtain ⟨a, vs, rfl, e, q⟩ := rep_lst.mp r
    unfold toD
    exact .lst (.inl (.inl (hs _ _ e))) (dpL_of hs n xs vs (by simpa [VM.isD] using h) q)
  | n, .dct _ _, v, h, r => by simp [VM.isD] at h
  | n, .dctT _ _, v, h, r => by simp [VM.isD] at h
  | n, .obj _ _ _, v, h, r => by simp [VM.isD] at h
  | n, .scr _, v, h, r => by simp [VM.isD] at h
  | n, .ref _, v, h, r => by simp [VM.isD] at h
  | n, .ty _, v, h, r => by simp [VM.isD] at h
  | n, .fn _, v, h, r => by simp [VM.isD] at h
  | n, .cls _, v, h, r => by simp [VM.isD] at h
theorem dpL_of (hs : SameD F H) : ∀ (n : Nat) (xs : List PV) (vs : List V), VM.isDL n xs = true → RepL K F μ xs vs → DpAll K H vs (toDL xs)
  | _, [], vs, _, r => by
    rw [repL_nil.mp r]
    unfold toDL
    exact .nil
  | n, x :: xs, vs, h, r => by
    obtain ⟨v, w, rfl, r1, r2⟩ := repL_cons.mp r
    have h' : VM.isD n x = true ∧ VM.isDL n xs = true := by simpa [VM.isDL] using h
    unfold toDL
    exact .cons (dp_of hs n x v h'.1 r1) (dpL_of hs n xs w h'.2 r2)
end
mutual
theorem lay_of : ∀ (n : Nat) (x : PV) (v : V), VM.isD n x = true → Rep K F μ x v → (toD x).canLay0 = true ∧ (toD x).depth ≤ n
  | _, .non, v, _, r => by simp [toD, PyData.canLay0, PyData.depth]
  | _, .bl b, v, _, r => by simp [toD, PyData.canLay0, PyData.depth]
  | _, .int i, v, _, r => by simp [toD, PyData.canLay0, PyData.depth]
  | _, .str s, v, _, r => by
    obtain ⟨o, rfl⟩ := rep_str.mp r
    refine ⟨?_, by simp [toD, PyData.depth]⟩
    simp only [toD, PyData.canLay0, PyData.strOk]
    simp only [List.all_toArray, List.all_eq_true, decide_eq_true_eq]
    exact fun c hc => o.2 c hc
  | 0, .tup xs, v, h, r => by simp [VM.isD] at h
  | n + 1, .tup xs, v, h, r => by
    obtain ⟨a, vs, rfl, e, q⟩ := rep_tup.mp r
    have z := layL_of n xs vs (by simpa [VM.isD] using h) q
    simp only [toD, PyData.canLay0, PyData.depth]
    exact ⟨z.1, by omega⟩
  | 0, .lst xs, v, h, r => by simp [VM.isD] at h
  | n + 1, .lst xs, v, h, r => by
    obtain ⟨a, vs, rfl, e, q⟩ := rep_lst.mp r
    have z := layL_of n xs vs (by simpa [VM.isD] using h) q
    simp only [toD, PyData.canLay0, PyData.depth]
    exact ⟨z.1, by omega⟩
  | n, .dct _ _, v, h, r => by simp [VM.isD] at h
  | n, .dctT _ _, v, h, r => by simp [VM.isD] at h
  | n, .obj _ _ _, v, h, r => by simp [VM.isD] at h
  | n, .scr _, v, h, r => by simp [VM.isD] at h
  | n, .ref _, v, h, r => by simp [VM.isD] at h
  | n, .ty _, v, h, r => by simp [VM.isD] at h
  | n, .fn _, v, h, r => by simp [VM.isD] at h
  | n, .cls _, v, h, r => by simp [VM.isD] at h
theorem layL_of : ∀ (n : Nat) (xs : List PV) (vs : List V), VM.isDL n xs = true → RepL K F μ xs vs → PyData.canLayAll0 (toDL xs) = true ∧ PyData.depthAll (toDL xs) ≤ n
  | n, [], vs, _, r => by simp [toDL, PyData.canLayAll0, PyData.depthAll]
  | n, x :: xs, vs, h, r => by
    obtain ⟨v, w, rfl, r1, r2⟩ := repL_cons.mp r
    have h' : VM.isD n x = true ∧ VM.isDL n xs = true := by simpa [VM.isDL] using h
    have a := lay_of n x v h'.1 r1
    have b := layL_of n xs w h'.2 r2
    simp only [toDL, PyData.canLayAll0, PyData.depthAll]
    rw [Bool.and_eq_true]
    exact ⟨⟨a.1, b.1⟩, by omega⟩
end
theorem shaped_of {n : Nat} {x : PV} {v : V} (hn : n ≤ 64) (h : VM.isD n x = true) (r : Rep K F μ x v) : SeqAt.shaped (toD x) = true := by
  have z := lay_of n x v h r
  show ((toD x).canLay0 && decide ((toD x).depth ≤ 64)) = true
  rw [Bool.and_eq_true]
  exact ⟨z.1, decide_eq_true (by omega)⟩
theorem str_beq (a b : List Nat) : ((⟨a.toArray⟩ : Str) == ⟨b.toArray⟩) = (a == b) := by
  rw [Bool.eq_iff_iff]
  simp
mutual
theorem eqv_of : ∀ (n m : Nat) (x y : PV), VM.isD n x = true → VM.isD m y = true → PyData.eqv (toD x) (toD y) = VM.eqv x y
  | n, m, .non, y, h, h' => by
    cases y <;> first | (simp [VM.isD] at h'; done) | simp [toD, PyData.eqv, VM.eqv]
  | n, m, .bl b, y, h, h' => by
    cases y <;> first | (simp [VM.isD] at h'; done) | simp [toD, PyData.eqv, VM.eqv]
  | n, m, .int i, y, h, h' => by
    cases y <;> first | (simp [VM.isD] at h'; done) | simp [toD, PyData.eqv, VM.eqv]
  | n, m, .str s, y, h, h' => by
    cases y <;> first | (simp [VM.isD] at h'; done) | (simp only [toD, PyData.eqv, VM.eqv, str_beq])
  | 0, m, .tup xs, y, h, h' => by simp [VM.isD] at h
  | n + 1, m, .tup xs, y, h, h' => by
    cases y with
    | tup ys =>
      cases m with
      | zero => simp [VM.isD] at h'
      | succ m =>
        simp only [toD, PyData.eqv, VM.eqv]
        exact eqvL_of n m xs ys (by simpa [VM.isD] using h) (by simpa [VM.isD] using h')
    | _ => first | (simp [VM.isD] at h'; done) | simp [toD, PyData.eqv, VM.eqv]
  | 0, m, .lst xs, y, h, h' => by simp [VM.isD] at h
  | n + 1, m, .lst xs, y, h, h' => by
    cases y with
    | lst ys =>
      cases m with
      | zero => simp [VM.isD] at h'
      | succ m =>
        simp only [toD, PyData.eqv, VM.eqv]
        exact eqvL_of n m xs ys (by simpa [VM.isD] using h) (by simpa [VM.isD] using h')
    | _ => first | (simp [VM.isD] at h'; done) | simp [toD, PyData.eqv, VM.eqv]
  | n, m, .dct _ _, y, h, h' => by simp [VM.isD] at h
  | n, m, .dctT _ _, y, h, h' => by simp [VM.isD] at h
  | n, m, .obj _ _ _, y, h, h' => by simp [VM.isD] at h
  | n, m, .scr _, y, h, h' => by simp [VM.isD] at h
  | n, m, .ref _, y, h, h' => by simp [VM.isD] at h
  | n, m, .ty _, y, h, h' => by simp [VM.isD] at h
  | n, m, .fn _, y, h, h' => by simp [VM.isD] at h
  | n, m, .cls _, y, h, h' => by simp [VM.isD] at h
theorem eqvL_of : ∀ (n m : Nat) (xs ys : List PV), VM.isDL n xs = true → VM.isDL m ys = true → PyData.eqvAll (toDL xs) (toDL ys) = VM.eqvL xs ys
  | n, m, [], ys, h, h' => by
    cases ys <;> simp [toDL, PyData.eqvAll, VM.eqvL]
  | n, m, x :: xs, ys, h, h' => by
    cases ys with
    | nil => simp [toDL, PyData.eqvAll, VM.eqvL]
    | cons y ys =>
      have a : VM.isD n x = true ∧ VM.isDL n xs = true := by simpa [VM.isDL] using h
      have b : VM.isD m y = true ∧ VM.isDL m ys = true := by simpa [VM.isDL] using h'
      simp only [toDL, PyData.eqvAll, VM.eqvL]
      rw [eqv_of n m x y a.1 b.1, eqvL_of n m xs ys a.2 b.2]
end
/-- a list of the store, as data -/
theorem frz_dp {st : Store} {n : Nat} {x : PV} {v : V} (l : Lay K G F μ st H) (h : VM.isD n (VM.frz st x) = true) (hn : n ≤ 64) (r : Rep K F μ x v) : Dp K H v (toD (VM.frz st x)) ∧ SeqAt.shaped (toD (VM.frz st x)) = true := by
  by_cases hx : ∃ i, x = .ref i
  · obtain ⟨i, rfl⟩ := hx
    obtain ⟨a, h1, rfl⟩ := rep_ref.mp r
    unfold VM.frz at h ⊢
    dsimp only at h ⊢
    split at h
    · rename_i xs e
      obtain ⟨hf, vs, h3, h4⟩ := l.obj i a _ h1 e
      cases n with
      | zero => simp [VM.isD] at h
      | succ n =>
        have hd : VM.isDL n xs = true := by simpa [VM.isD] using h
        have z := layL_of n xs vs hd h4
        refine ⟨?_, ?_⟩
        · unfold toD
          exact .lst (.inl (.inl h3)) (dpL_of l.same n xs vs hd h4)
        · show ((toD (.lst xs)).canLay0 && decide ((toD (.lst xs)).depth ≤ 64)) = true
          rw [Bool.and_eq_true]
          simp only [toD, PyData.canLay0, PyData.depth]
          exact ⟨z.1, decide_eq_true (by omega)⟩
    · simp [VM.isD] at h
  · have e : VM.frz st x = x := by
      unfold VM.frz
      split
      · exact absurd ⟨_, rfl⟩ hx
      · rfl
    rw [e] at h ⊢
    exact ⟨dp_of l.same n x v h r, shaped_of hn h r⟩
end
def R2B (K : PySem.W.Frag) (f : PV → PV → Store → (Bool → Store → Prop) → Prop) : R2 := fun x y H Q => ∃ G F μ st px py k, Lay K G F μ st H ∧ Rep K F μ px x ∧ Rep K F μ py y ∧ f px py st k ∧ KonB K G F μ k fun b H' => Q (.bl b) H'
section
variable {K : PySem.W.Frag} {G F : Hp} {μ : List Addr} {H : Hp} {st : Store}
theorem KonB.same {k : Bool → Store → Prop} {Q : Bool → Hp → Prop} {b : Bool} (hk : KonB K G F μ k Q) (l : Lay K G F μ st H) (q : k b st) : Q b H := hk b H F μ st Ext.refl l q
end
section
variable {X : Cx}
theorem c_eq (hu : X.A.units + 64 < cLine) : OpR X (compareOp .Eq) (R2B X.K VM.opEq) := by
  intro pins s σ H x y v u Q I rx ry h
  obtain ⟨G, F, μ, st, px, py, k, l, p1, p2, ⟨d1, d2, d⟩, hk⟩ := h
  obtain ⟨a1, a2⟩ := frz_dp l d1 (by decide) p1
  obtain ⟨b1, b2⟩ := frz_dp l d2 (by decide) p2
  exact op_eqD hu pins s σ H x y v u Q I rx ry ⟨_, _, a1, b1, a2, b2, by rw [eqv_of 60 60 _ _ d1 d2]; exact hk.same l d⟩
theorem c_ne (hu : X.A.units + 64 < cLine) : OpR X (compareOp .NotEq) (R2B X.K fun x y st k => VM.opEq x y st fun b st => k (!b) st) := by
  intro pins s σ H x y v u Q I rx ry h
  obtain ⟨G, F, μ, st, px, py, k, l, p1, p2, ⟨d1, d2, d⟩, hk⟩ := h
  obtain ⟨a1, a2⟩ := frz_dp l d1 (by decide) p1
  obtain ⟨b1, b2⟩ := frz_dp l d2 (by decide) p2
  exact op_neD hu pins s σ H x y v u Q I rx ry ⟨_, _, a1, b1, a2, b2, by rw [eqv_of 60 60 _ _ d1 d2]; exact hk.same l d⟩
theorem c_lt : OpR X (compareOp .Lt) (R2B X.K (VM.opCm .lt)) := by
  intro pins s σ H x y v u Q I rx ry h
  obtain ⟨G, F, μ, st, px, py, k, l, p1, p2, d, hk⟩ := h
  simp only [VM.opCm] at d
  split at d
  · obtain rfl := rep_int.mp p1
    obtain rfl := rep_int.mp p2
    exact op_lt pins s σ H _ _ v u Q I rx ry ⟨_, _, rfl, rfl, hk.same l d⟩
  · exact d.elim
theorem c_le : OpR X (compareOp .LtE) (R2B X.K (VM.opCm .le)) := by
  intro pins s σ H x y v u Q I rx ry h
  obtain ⟨G, F, μ, st, px, py, k, l, p1, p2, d, hk⟩ := h
  simp only [VM.opCm] at d
  split at d
  · obtain rfl := rep_int.mp p1
    obtain rfl := rep_int.mp p2
    exact op_le pins s σ H _ _ v u Q I rx ry ⟨_, _, rfl, rfl, hk.same l d⟩
  · exact d.elim
theorem c_gt : OpR X (compareOp .Gt) (R2B X.K (VM.opCm .gt)) := by
  intro pins s σ H x y v u Q I rx ry h
  obtain ⟨G, F, μ, st, px, py, k, l, p1, p2, d, hk⟩ := h
  simp only [VM.opCm] at d
  split at d
  · obtain rfl := rep_int.mp p1
    obtain rfl := rep_int.mp p2
    exact op_gt pins s σ H _ _ v u Q I rx ry ⟨_, _, rfl, rfl, hk.same l d⟩
  · exact d.elim
theorem c_ge : OpR X (compareOp .GtE) (R2B X.K (VM.opCm .ge)) := by
  intro pins s σ H x y v u Q I rx ry h
  obtain ⟨G, F, μ, st, px, py, k, l, p1, p2, d, hk⟩ := h
  simp only [VM.opCm] at d
  split at d
  · obtain rfl := rep_int.mp p1
    obtain rfl := rep_int.mp p2
    exact op_ge pins s σ H _ _ v u Q I rx ry ⟨_, _, rfl, rfl, hk.same l d⟩
  · exact d.elim
theorem rep_noniff {K : PySem.W.Frag} {F : Hp} {μ : List Addr} {x : PV} {v : V} (r : Rep K F μ x v) : decide (v = .non) = VM.isNon x := by
  cases x <;> unfold Rep at r
  case non => rw [r]; rfl
  case bl => rw [r]; rfl
  case int => rw [r]; rfl
  case str => rw [r.2]; rfl
  case tup => obtain ⟨a, vs, rfl, _⟩ := r; rfl
  case lst => obtain ⟨a, vs, rfl, _⟩ := r; rfl
  case dct => obtain ⟨a, vs, rfl, _⟩ := r; rfl
  case scr => obtain ⟨a, rfl, _⟩ := r; rfl
  case ref => obtain ⟨a, _, rfl⟩ := r; rfl
  case obj => obtain ⟨a, dx, vs, rfl, _⟩ := r; rfl
  all_goals exact r.elim
theorem c_isN : OpR X (compareOp .Is) (R2B X.K (VM.opCm .isN)) := by
  intro pins s σ H x y v u Q I rx ry h
  obtain ⟨G, F, μ, st, px, py, k, l, p1, p2, ⟨hy, d⟩, hk⟩ := h
  obtain rfl : py = .non := by cases py <;> first | rfl | cases hy
  obtain rfl := rep_non.mp p2
  refine op_isN pins s σ H _ _ v u Q I rx ry ⟨rfl, ?_⟩
  rw [rep_noniff p1]
  exact hk.same l d
theorem c_notN : OpR X (compareOp .IsNot) (R2B X.K (VM.opCm .notN)) := by
  intro pins s σ H x y v u Q I rx ry h
  obtain ⟨G, F, μ, st, px, py, k, l, p1, p2, ⟨hy, d⟩, hk⟩ := h
  obtain rfl : py = .non := by cases py <;> first | rfl | cases hy
  obtain rfl := rep_non.mp p2
  refine op_notN pins s σ H _ _ v u Q I rx ry ⟨rfl, ?_⟩
  rw [rep_noniff p1]
  exact hk.same l d
theorem flat_of {K : PySem.W.Frag} {F : Hp} {μ : List Addr} {x : PV} {v : V} (h : VM.isD 0 x = true) (r : Rep K F μ x v) : flatV v = true := by
  cases x <;> first | (simp [VM.isD] at h; done) | skip
  case non => rw [rep_non.mp r]; rfl
  case bl => rw [rep_bl.mp r]; rfl
  case int => rw [rep_int.mp r]; rfl
  case str => rw [(rep_str.mp r).2]; rfl
theorem flatL_of {K : PySem.W.Frag} {F : Hp} {μ : List Addr} : ∀ {xs : List PV} {vs : List V}, VM.isDL 0 xs = true → RepL K F μ xs vs → vs.all flatV = true
  | [], vs, _, r => by
    rw [repL_nil.mp r]
    rfl
  | x :: xs, vs, h, r => by
    obtain ⟨v, w, rfl, r1, r2⟩ := repL_cons.mp r
    have a : VM.isD 0 x = true ∧ VM.isDL 0 xs = true := by simpa [VM.isDL] using h
    rw [List.all_cons, flat_of a.1 r1, flatL_of a.2 r2]
    rfl
theorem eqV_of {K : PySem.W.Frag} {F : Hp} {μ : List Addr} {x y : PV} {v w : V} (h : VM.isD 0 x = true) (h' : VM.isD 0 y = true) (r : Rep K F μ x v) (r' : Rep K F μ y w) : eqV v w = VM.eqv x y := by
  cases x <;> first | (simp [VM.isD] at h; done) | skip
  all_goals cases y <;> first | (simp [VM.isD] at h'; done) | skip
  all_goals first
    | (obtain rfl := rep_non.mp r)
    | (obtain rfl := rep_bl.mp r)
    | (obtain rfl := rep_int.mp r)
    | (obtain ⟨_, rfl⟩ := rep_str.mp r)
  all_goals first
    | (obtain rfl := rep_non.mp r')
    | (obtain rfl := rep_bl.mp r')
    | (obtain rfl := rep_int.mp r')
    | (obtain ⟨_, rfl⟩ := rep_str.mp r')
  all_goals first
    | (simp [eqV, VM.eqv]; done)
    | simp only [eqV, VM.eqv, str_beq]
theorem inV_of {K : PySem.W.Frag} {F : Hp} {μ : List Addr} {x : PV} {v : V} (h : VM.isD 0 x = true) (r : Rep K F μ x v) : ∀ {ys : List PV} {ws : List V}, VM.isDL 0 ys = true → RepL K F μ ys ws → inV v ws = ys.any fun y => VM.eqv y x
  | [], ws, _, q => by
    rw [repL_nil.mp q]
    rfl
  | y :: ys, ws, h', q => by
    obtain ⟨w, w', rfl, r1, r2⟩ := repL_cons.mp q
    have a : VM.isD 0 y = true ∧ VM.isDL 0 ys = true := by simpa [VM.isDL] using h'
    have ih := inV_of h r a.2 r2
    unfold inV at ih ⊢
    rw [List.any_cons, List.any_cons, eqV_of a.1 h r1 r, ih]
theorem c_in_gen {neg : Bool} {op : CmpOp} (h1 : OpR X (compareOp op) (rIn X.K neg)) (h2 : OpR X (compareOp op) (fun x y H Q => ∃ (c : Nat) (z : Str), x = .str ⟨#[c]⟩ ∧ y = .str z ∧ Q (.bl (if neg then !decide (c ∈ z.cps.toList) else decide (c ∈ z.cps.toList))) H)) :
    OpR X (compareOp op) (R2B X.K fun x y st k => VM.opIn x y st fun b st => k (if neg then !b else b) st) := by
  intro pins s σ H x y v u Q I rx ry h
  obtain ⟨G, F, μ, st, px, py, k, l, p1, p2, d, hk⟩ := h
  unfold VM.opIn at d
  split at d
  · split at d
    · rename_i z c
      obtain ⟨_, rfl⟩ := rep_str.mp p1
      obtain ⟨_, rfl⟩ := rep_str.mp p2
      exact h2 pins s σ H _ _ v u Q I rx ry ⟨c, _, rfl, rfl, hk.same l (by simpa using d)⟩
    · exact d.elim
  · rename_i ys
    obtain ⟨d1, d2, d⟩ := d
    obtain ⟨a, ws, rfl, e, q⟩ := rep_tup.mp p2
    exact h1 pins s σ H _ _ v u Q I rx ry ⟨a, ws, rfl, .inr (l.same.seqT e), flat_of d1 p1, flatL_of d2 q, by rw [inV_of d1 p1 d2 q]; exact hk.same l d⟩
  · split at d
    · rename_i ys ea
      obtain ⟨d1, d2, d⟩ := d
      obtain ⟨a, ws, rfl, e, q⟩ := asL_rep l p2 ea
      exact h1 pins s σ H _ _ v u Q I rx ry ⟨a, ws, rfl, .inl (.inl (.inl e)), flat_of d1 p1, flatL_of d2 q, by rw [inV_of d1 p1 d2 q]; exact hk.same l d⟩
    · exact d.elim
theorem c_in : OpR X (compareOp .In) (R2B X.K (VM.opCm .isin)) := by
  have h := c_in_gen (X := X) (neg := false) (op := .In) op_in_seq op_in_sign
  intro pins s σ H x y v u Q I rx ry q
  exact h pins s σ H x y v u Q I rx ry q
theorem c_notin : OpR X (compareOp .NotIn) (R2B X.K (VM.opCm .notin)) := by
  have h := c_in_gen (X := X) (neg := true) (op := .NotIn) op_notIn_seq op_notIn_sign
  intro pins s σ H x y v u Q I rx ry q
  exact h pins s σ H x y v u Q I rx ry q
end
end VS
end
section
namespace VS
open PySem PySem.Spec PyProof.Rows L2
open VM (PV SO Store)
section
variable {X : Cx} {a b c e : Expr} {ta tb tc te : VM.TE} {t1 t2 : VM.TT} {pos : Pos} {es rest : List Expr} {tas : VM.TA}
theorem bind2B {K : PySem.W.Frag} {G F : Hp} {μ : List Addr} {σ : L2.St} {H : Hp} {ρ : VM.Env} {st : Store} {f : PV → PV → Store → (Bool → Store → Prop) → Prop} {k : Bool → Store → Prop} {Q : VK} (l : Lay K G F μ st H) (r : EnvR K F μ σ ρ) (hk : KonB K G F μ k fun b H' => Q (.bl b) H')
    (h : ta ρ st (fun u st => tb ρ st (fun v st => f u v st k) nox) nox) : tOp (R2B K f) (rE K ta) (rE K tb) σ H Q :=
  bind1 l r h fun x H1 F1 μ1 px st1 e1 l1 r1 p1 q1 => bind1 l1 r1 q1 fun y H2 F2 μ2 py st2 e2 l2 r2 p2 q2 => ⟨G, F2, μ2, st2, px, py, k, l2, p1.mono e2, p2, q2, hk.mono (e1.trans e2)⟩
theorem kon_b {K : PySem.W.Frag} {G F : Hp} {μ : List Addr} {k : VM.KV} {Q : VK} (hk : Kon K G F μ k Q) : KonB K G F μ (fun r st => k (.bl r) st) fun b H' => Q (.bl b) H' := fun b H' F' μ' st' e l q => hk (.bl b) H' F' μ' (.bl b) st' e l (rep_bl.mpr rfl) q
theorem ve_cmp {op : CmpOp} {o : VM.Cm} (ho : OpR X (compareOp op) (R2B X.K (VM.opCm o))) (ha : VE X a ta) (hb : VE X b tb) (hm : behindInMarks op b = false) : VE X (.Compare a [op] [b] pos) (VM.eCmp o ta tb) := pe_imp (pe_cmpR ho ha hb hm) fun σ H Q h => by
  obtain ⟨G, F, μ, ρ, st, k, l, r, d, hk⟩ := h
  exact bind2B l r (kon_b hk) d
theorem vt_cmp {op : CmpOp} {o : VM.Cm} (ho : OpR X (compareOp op) (R2B X.K (VM.opCm o))) (ha : VE X a ta) (hb : VE X b tb) (hm : behindInMarks op b = false) : VT X (.Compare a [op] [b] pos) (VM.tCmp o ta tb) := pt_imp (pt_cmpR ho ha hb hm) fun σ H Q h => by
  obtain ⟨G, F, μ, ρ, st, k, l, r, d, hk⟩ := h
  exact bind2B (Q := fun x H' => ∃ k, x = .bl k ∧ Q k H') l r (fun b H' F' μ' st' e l q => ⟨b, rfl, hk b H' F' μ' st' e l q⟩) d
theorem chain_aux {K : PySem.W.Frag} {G F : Hp} {μ : List Addr} {σ : L2.St} {H : Hp} {ρ : VM.Env} {st : Store} {o o' : VM.Cm} {k : Bool → Store → Prop} {Q : VK} (l : Lay K G F μ st H) (r : EnvR K F μ σ ρ) (hk : KonB K G F μ k fun b H' => Q (.bl b) H')
    (h : VM.tChain o o' ta tb tc ρ st k nox) : tChain (R2B K (VM.opCm o)) (R2B K (VM.opCm o')) (rE K ta) (rE K tb) (rE K tc) σ H Q :=
  bind1 l r h fun x H1 F1 μ1 px st1 e1 l1 r1 p1 q1 => bind1 l1 r1 q1 fun y H2 F2 μ2 py st2 e2 l2 r2 p2 q2 =>
    ⟨G, F2, μ2, st2, px, py, _, l2, p1.mono e2, p2, q2, fun b H3 F3 μ3 st3 e3 l3 q3 => ⟨b, rfl, by
      cases b with
      | true =>
        rw [if_pos rfl] at q3 ⊢
        exact bind1 l3 (r2.mono e3) q3 fun z H4 F4 μ4 pz st4 e4 l4 r4 p4 q4 => ⟨G, F4, μ4, st4, py, pz, k, l4, p2.mono (e3.trans e4), p4, q4, hk.mono (e1.trans (e2.trans (e3.trans e4)))⟩
      | false =>
        rw [if_neg Bool.false_ne_true] at q3 ⊢
        exact (hk.mono (e1.trans (e2.trans e3))).same l3 q3⟩⟩
theorem ve_chain {op op' : CmpOp} {o o' : VM.Cm} (ho : OpR X (compareOp op) (R2B X.K (VM.opCm o))) (ho' : OpR X (compareOp op') (R2B X.K (VM.opCm o'))) (ha : VE X a ta) (hb : VE X b tb) (hc : VE X c tc) (hm : lastMarks [op, op'] [b, c] = false) :
    VE X (.Compare a [op, op'] [b, c] pos) (VM.eChain o o' ta tb tc) := pe_imp (pe_chain ho ho' ha hb hc hm) fun σ H Q h => by
  obtain ⟨G, F, μ, ρ, st, k, l, r, d, hk⟩ := h
  exact chain_aux l r (kon_b hk) d
theorem vt_chain {op op' : CmpOp} {o o' : VM.Cm} (ho : OpR X (compareOp op) (R2B X.K (VM.opCm o))) (ho' : OpR X (compareOp op') (R2B X.K (VM.opCm o'))) (ha : VE X a ta) (hb : VE X b tb) (hc : VE X c tc) (hm : lastMarks [op, op'] [b, c] = false) :
    VT X (.Compare a [op, op'] [b, c] pos) (VM.tChain o o' ta tb tc) := pt_imp (pt_chain ho ho' ha hb hc hm) fun σ H Q h => by
  obtain ⟨G, F, μ, ρ, st, k, l, r, d, hk⟩ := h
  exact chain_aux (Q := fun x H' => ∃ k, x = .bl k ∧ Q k H') l r (fun b H' F' μ' st' e l q => ⟨b, rfl, hk b H' F' μ' st' e l q⟩) d

theorem truth_rep {K : PySem.W.Frag} {G F : Hp} {μ : List Addr} {H : Hp} {st : Store} {x : PV} {v : V} {b : Bool} (l : Lay K G F μ st H) (r : Rep K F μ x v) (h : VM.truth st x = some b) : TruV K v H b := by
  cases x <;> simp only [VM.truth] at h
  case non => cases h; rw [rep_non.mp r]; exact rfl
  case bl => cases h; rw [rep_bl.mp r]; exact rfl
  case int i =>
    cases h
    rw [rep_int.mp r]
    show decide (i ≠ 0) = (i != 0)
    rw [Bool.eq_iff_iff]
    simp
  case str s =>
    cases h
    obtain ⟨o, rfl⟩ := rep_str.mp r
    refine ⟨by rw [sizeLine_eq]; simpa [Str.length] using o.1, ?_⟩
    cases s with
    | nil => rfl
    | cons c s =>
      simp only [Str.length, List.isEmpty_cons, Bool.not_false]
      symm
      rw [bne_iff_ne]
      simp
      omega
  case tup xs =>
    cases h
    obtain ⟨a, vs, rfl, e, q⟩ := rep_tup.mp r
    refine .inr (.inl ⟨vs, l.same.seqT e, ?_⟩)
    have := q.length
    cases xs <;> cases vs <;> first | rfl | simp at this
  case lst xs =>
    cases h
    obtain ⟨a, vs, rfl, e, q⟩ := rep_lst.mp r
    refine .inl ⟨vs, .inl (.inl (l.same _ _ e)), ?_⟩
    have := q.length
    cases xs <;> cases vs <;> first | rfl | simp at this
  case dct ks xs =>
    cases h
    unfold Rep at r
    obtain ⟨a, kvs, rfl, e, rfl, _⟩ := r
    refine .inr (.inr ⟨kvs, l.same _ _ e, ?_⟩)
    cases kvs <;> rfl
  case dctT => unfold Rep at r; exact r.elim
  case ref i =>
    obtain ⟨a, h1, rfl⟩ := rep_ref.mp r
    split at h
    · rename_i xs e
      cases h
      obtain ⟨_, vs, h2, q⟩ := l.obj i a _ h1 e
      refine .inl ⟨vs, .inl (.inl h2), ?_⟩
      have := q.length
      cases xs <;> cases vs <;> first | rfl | simp at this
    · rename_i ks xs e
      cases h
      obtain ⟨_, kvs, h2, rfl, q⟩ := l.obj i a _ h1 e
      refine .inr (.inr ⟨kvs, h2, ?_⟩)
      cases kvs <;> rfl
    · rename_i ks xs e
      exact (l.obj i a _ h1 e).elim
    · cases h
  all_goals cases h
theorem vt_of (ha : VE X a ta) (he : ∀ whole, isTrue a X.env whole = (do let v ← whole; standAt a.pos; holding [v] (truthy v)) := by intro _; rfl) : VT X a (VM.tOf ta) := pt_imp (pt_truth ha he) fun σ H Q h => by
  obtain ⟨G, F, μ, ρ, st, k, l, r, d, hk⟩ := h
  refine bind1 l r d fun x H1 F1 μ1 px st1 e1 l1 r1 p1 q1 => ?_
  split at q1
  · rename_i b eb
    exact ⟨b, truth_rep l1 p1 eb, (hk.mono e1).same l1 q1⟩
  · exact q1.elim
abbrev VW (X : Cx) (e : Expr) (t : VM.TT) : Prop := PW X e (rT X.K t)
theorem vw_and1 (ha : VT X a t1) : VW X (.BoolOp .And [a] pos) t1 := pw_and1 ha
theorem vw_or1 (ha : VT X a t1) : VW X (.BoolOp .Or [a] pos) t1 := pw_or1 ha
theorem vw_and (ha : VT X a t1) (hb : VW X (.BoolOp .And (b :: rest) pos) t2) : VW X (.BoolOp .And (a :: b :: rest) pos) (VM.tAnd t1 t2) := pw_imp (pw_and ha hb) fun σ H Q h => by
  obtain ⟨G, F, μ, ρ, st, k, l, r, d, hk⟩ := h
  refine bindT l r d fun b H1 F1 μ1 st1 e1 l1 r1 q1 => ?_
  cases b with
  | true =>
    rw [if_pos rfl] at q1 ⊢
    exact bindT l1 r1 q1 fun b H2 F2 μ2 st2 e2 l2 r2 q2 => (hk.mono (e1.trans e2)).same l2 q2
  | false =>
    rw [if_neg Bool.false_ne_true] at q1 ⊢
    exact (hk.mono e1).same l1 q1
theorem vw_or (ha : VT X a t1) (hb : VW X (.BoolOp .Or (b :: rest) pos) t2) : VW X (.BoolOp .Or (a :: b :: rest) pos) (VM.tOr t1 t2) := pw_imp (pw_or ha hb) fun σ H Q h => by
  obtain ⟨G, F, μ, ρ, st, k, l, r, d, hk⟩ := h
  refine bindT l r d fun b H1 F1 μ1 st1 e1 l1 r1 q1 => ?_
  cases b with
  | true =>
    rw [if_pos rfl] at q1 ⊢
    exact (hk.mono e1).same l1 q1
  | false =>
    rw [if_neg Bool.false_ne_true] at q1 ⊢
    exact bindT l1 r1 q1 fun b H2 F2 μ2 st2 e2 l2 r2 q2 => (hk.mono (e1.trans e2)).same l2 q2
theorem vt_w (h : VW X e t1) : VT X e t1 := h.pt
theorem vt_not (ha : VT X a t1) : VT X (.UnaryOp .Not a pos) (VM.tNot t1) := pt_imp (pt_not ha) fun σ H Q h => by
  obtain ⟨G, F, μ, ρ, st, k, l, r, d, hk⟩ := h
  exact bindT l r d fun b H1 F1 μ1 st1 e1 l1 r1 q1 => (hk.mono e1).same l1 q1
theorem ve_one {op : PySem.BoolOp} (h : VE X a ta) : VE X (.BoolOp op [a] pos) ta := pe_one h
theorem ve_and (ha : VE X a ta) (hb : VE X (.BoolOp .And (b :: rest) pos) tb) : VE X (.BoolOp .And (a :: b :: rest) pos) (VM.eAnd ta tb) := pe_imp (pe_andT ha hb) fun σ H Q h => by
  obtain ⟨G, F, μ, ρ, st, k, l, r, d, hk⟩ := h
  refine bind1 l r d fun x H1 F1 μ1 px st1 e1 l1 r1 p1 q1 => ?_
  split at q1
  · rename_i eb
    refine ⟨true, truth_rep l1 p1 eb, ?_⟩
    rw [if_pos rfl]
    exact bind1 l1 r1 q1 fun y H2 F2 μ2 py st2 e2 l2 r2 p2 q2 => (hk.mono (e1.trans e2)).same l2 p2 q2
  · rename_i eb
    refine ⟨false, truth_rep l1 p1 eb, ?_⟩
    rw [if_neg Bool.false_ne_true]
    exact (hk.mono e1).same l1 p1 q1
  · exact q1.elim
theorem ve_or (ha : VE X a ta) (hb : VE X (.BoolOp .Or (b :: rest) pos) tb) : VE X (.BoolOp .Or (a :: b :: rest) pos) (VM.eOr ta tb) := pe_imp (pe_orT ha hb) fun σ H Q h => by
  obtain ⟨G, F, μ, ρ, st, k, l, r, d, hk⟩ := h
  refine bind1 l r d fun x H1 F1 μ1 px st1 e1 l1 r1 p1 q1 => ?_
  split at q1
  · rename_i eb
    refine ⟨false, truth_rep l1 p1 eb, ?_⟩
    rw [if_neg Bool.false_ne_true]
    exact bind1 l1 r1 q1 fun y H2 F2 μ2 py st2 e2 l2 r2 p2 q2 => (hk.mono (e1.trans e2)).same l2 p2 q2
  · rename_i eb
    refine ⟨true, truth_rep l1 p1 eb, ?_⟩
    rw [if_pos rfl]
    exact (hk.mono e1).same l1 p1 q1
  · exact q1.elim
theorem ve_not (ha : VE X a ta) : VE X (.UnaryOp .Not a pos) (VM.eNot ta) := pe_imp (pe_notT ha) fun σ H Q h => by
  obtain ⟨G, F, μ, ρ, st, k, l, r, d, hk⟩ := h
  refine bind1 l r d fun x H1 F1 μ1 px st1 e1 l1 r1 p1 q1 => ?_
  split at q1
  · rename_i b eb
    exact ⟨b, truth_rep l1 p1 eb, (hk.mono e1).same l1 (rep_bl.mpr rfl) q1⟩
  · exact q1.elim
theorem ve_if (hc : VT X c t1) (ha : VE X a ta) (hb : VE X b tb) : VE X (.IfExp c a b pos) (VM.eIf t1 ta tb) := pe_imp (pe_ifExp hc ha hb) fun σ H Q h => by
  obtain ⟨G, F, μ, ρ, st, k, l, r, d, hk⟩ := h
  refine bindT l r d fun b H1 F1 μ1 st1 e1 l1 r1 q1 => ?_
  cases b with
  | true =>
    rw [if_pos rfl] at q1 ⊢
    exact bind1 l1 r1 q1 fun y H2 F2 μ2 py st2 e2 l2 r2 p2 q2 => (hk.mono (e1.trans e2)).same l2 p2 q2
  | false =>
    rw [if_neg Bool.false_ne_true] at q1 ⊢
    exact bind1 l1 r1 q1 fun y H2 F2 μ2 py st2 e2 l2 r2 p2 q2 => (hk.mono (e1.trans e2)).same l2 p2 q2

theorem va_nil : VA X [] VM.aNil := pa_imp pa_nil fun σ H Q h => by
  obtain ⟨G, F, μ, ρ, st, k, l, r, d, hk⟩ := h
  exact hk [] H F μ [] st Ext.refl l (repL_nil.mpr rfl) d
theorem va_cons (ha : VE X a ta) (hr : VA X es tas) (hs : starEach (a :: es) X.env = (false, eval a X.env) :: starEach es X.env := by rfl) : VA X (a :: es) (VM.aCons ta tas) := pa_imp (pa_cons ha hr hs) fun σ H Q h => by
  obtain ⟨G, F, μ, ρ, st, k, l, r, d, hk⟩ := h
  exact bind1 l r d fun x H1 F1 μ1 px st1 e1 l1 r1 p1 q1 => bindA l1 r1 q1 fun xs H2 F2 μ2 pxs st2 e2 l2 r2 p2 q2 =>
    hk (x :: xs) H2 F2 μ2 (px :: pxs) st2 (e1.trans e2) l2 (repL_cons.mpr ⟨x, xs, rfl, p1.mono e2, p2⟩) q2
theorem ve_lst (h : VA X es tas) : VE X (.List es pos) (VM.eLst tas) := pe_imp (pe_lst h) fun σ H Q h => by
  obtain ⟨G, F, μ, ρ, st, k, l, r, d, hk⟩ := h
  exact bindA l r d fun xs H1 F1 μ1 pxs st1 e1 l1 r1 p1 q1 => ⟨by rw [sizeLine_eq, p1.length]; exact q1.1, (hk.mono e1).lst l1 p1 q1.2⟩
theorem ve_lstM (h : VA X es tas) : VE X (.List es pos) (VM.eLstM tas) := pe_imp (pe_lst h) fun σ H Q h => by
  obtain ⟨G, F, μ, ρ, st, k, l, r, d, hk⟩ := h
  exact bindA l r d fun xs H1 F1 μ1 pxs st1 e1 l1 r1 p1 q1 => ⟨by rw [sizeLine_eq, p1.length]; exact q1.1, (hk.mono e1).lstM l1 p1 q1.2⟩
theorem ve_tup {kt : Nat} (h : VA X es tas) : VE X (.Tuple es kt pos) (VM.eTup tas) := pe_imp (pe_tup h) fun σ H Q h => by
  obtain ⟨G, F, μ, ρ, st, k, l, r, d, hk⟩ := h
  exact bindA l r d fun xs H1 F1 μ1 pxs st1 e1 l1 r1 p1 q1 => ⟨by rw [sizeLine_eq, p1.length]; exact q1.1, (hk.mono e1).tup l1 p1 q1.2⟩

theorem ix_ixN (n : Nat) (i : Int) : VM.ix n i = ixN n i := rfl
theorem atI_of {K : PySem.W.Frag} {F : Hp} {μ : List Addr} {xs : List PV} {vs : List V} {i : Int} {n : Nat} {y : PV} (r : RepL K F μ xs vs) (h : VM.ix xs.length i = some n) (hy : xs[n]? = some y) : ∃ v, atI vs i = some v ∧ Rep K F μ y v := by
  obtain ⟨v, h1, h2⟩ := r.get hy
  refine ⟨v, ?_, h2⟩
  unfold atI
  rw [r.length, ← ix_ixN, h]
  exact h1
theorem ix_dyn : IxR X (R2of X.K VM.getIx) := by
  intro value slice pins s σ H x y v u Q I rx ry h hs
  obtain ⟨G, F, μ, st, px, py, k, l, p1, p2, d, hk⟩ := h
  unfold VM.getIx at d
  split at d
  · rename_i i
    obtain rfl := rep_int.mp p2
    split at d
    · rename_i xs
      obtain ⟨a, vs, rfl, e, q⟩ := rep_tup.mp p1
      split at d
      · rename_i n en
        split at d
        · rename_i z ez
          obtain ⟨w, h1, h2⟩ := atI_of q en ez
          exact ix_tup value slice pins s σ H _ _ v u Q I rx ry ⟨a, vs, i, w, rfl, rfl, l.same.seqT e, h1, hk.same l h2 d⟩ hs
        · exact d.elim
      · exact d.elim
    · rename_i z
      obtain ⟨o, rfl⟩ := rep_str.mp p1
      split at d
      · rename_i n en
        split at d
        · rename_i c ez
          refine ix_str value slice pins s σ H _ _ v u Q I rx ry ⟨_, i, c, rfl, rfl, by rw [sizeLine_eq]; simpa [Str.length] using o.1, ?_, ?_⟩ hs
          · unfold atI
            rw [← ix_ixN, en]
            exact ez
          · exact hk.same l (rep_str.mpr ⟨⟨by simp, fun c' hc => by
              have e' : c' = c := by simpa using hc
              rw [e']
              exact o.2 c (List.mem_of_getElem? ez)⟩, rfl⟩) d
        · exact d.elim
      · exact d.elim
    · split at d
      · rename_i xs ea
        obtain ⟨a, vs, rfl, e, q⟩ := asL_rep l p1 ea
        split at d
        · rename_i n en
          split at d
          · rename_i z ez
            obtain ⟨w, h1, h2⟩ := atI_of q en ez
            exact ix_list value slice pins s σ H _ _ v u Q I rx ry ⟨a, vs, i, w, rfl, rfl, .inl (.inl e), h1, hk.same l h2 d⟩ hs
          · exact d.elim
        · exact d.elim
      · exact d.elim
  · exact d.elim
theorem ve_ix (ha : VE X a ta) (hb : VE X b tb) (hs : PlainIx b := by exact fun _ _ => rfl) : VE X (.Subscript a b pos) (VM.eIx ta tb) := pe_imp (pe_ix ix_dyn ha hb hs) fun σ H Q h => by
  obtain ⟨G, F, μ, ρ, st, k, l, r, d, hk⟩ := h
  exact bind2 l r hk d
theorem repL_ints {K : PySem.W.Frag} {F : Hp} {μ : List Addr} : ∀ is : List Int, RepL K F μ (is.map PV.int) (is.map V.int)
  | [] => repL_nil.mpr rfl
  | i :: is => repL_cons.mpr ⟨_, _, rfl, rep_int.mpr rfl, repL_ints is⟩
theorem cutIx_eq (n d : Nat) (o : Option Int) : VM.cutIx n d o = HT.sIx n d o := by cases o <;> rfl
theorem RepL.slc {K : PySem.W.Frag} {F : Hp} {μ : List Addr} {xs : List PV} {vs : List V} (r : RepL K F μ xs vs) (lo hi : Option Int) : RepL K F μ (VM.slc xs lo hi) (cutV vs lo hi) := by
  unfold VM.slc cutV
  rw [cutIx_eq, cutIx_eq, r.length]
  exact (r.drop _).take _
def SlOf (K : PySem.W.Frag) : V → Option Int → Option Int → Hp → VK → Prop := fun x lo hi H Q => ∃ G F μ st px k, Lay K G F μ st H ∧ Rep K F μ px x ∧ VM.getSl px lo hi st k ∧ Kon K G F μ k Q
theorem sl_dyn : SlR X (SlOf X.K) := by
  intro pins s σ H x v vl vu lo hi sl Q I rx hs pl pu h
  obtain ⟨G, F, μ, st, px, k, l, p1, d, hk⟩ := h
  unfold VM.getSl at d
  split at d
  · rename_i xs
    obtain ⟨a, vs, rfl, e, q⟩ := rep_tup.mp p1
    refine sl_tupA pins s σ H _ v vl vu lo hi sl Q I rx hs pl pu ⟨a, vs, rfl, l.same.seqT e, fun z => ?_, fun _ => hk.tup l (q.slc lo hi) d⟩
    have e2 : VM.slc xs lo hi = xs := by
      unfold VM.slc
      rw [cutIx_eq, cutIx_eq, ← q.length, z.1, z.2, List.drop_zero, q.length]
      simp
    rw [e2] at d
    exact hk.same l (rep_tup.mpr ⟨a, vs, rfl, e, q⟩) d
  · rename_i z
    obtain ⟨o, rfl⟩ := rep_str.mp p1
    refine sl_str pins s σ H _ v vl vu lo hi sl Q I rx hs pl pu ⟨_, rfl, by rw [sizeLine_eq]; simpa [Str.length] using o.1, ?_⟩
    have e : cutS ⟨z.toArray⟩ lo hi = ⟨(VM.slc z lo hi).toArray⟩ := by
      unfold cutS VM.slc
      rw [cutIx_eq, cutIx_eq]
      simp [Str.length]
    rw [e]
    refine hk.same l (rep_str.mpr ⟨⟨?_, fun c hc => o.2 c (List.mem_of_mem_drop (List.mem_of_mem_take hc))⟩, rfl⟩) d
    have := o.1
    rw [List.length_take, List.length_drop]
    omega
  · rename_i is
    obtain ⟨a, rfl, e⟩ := rep_scr.mp p1
    refine sl_list pins s σ H _ v vl vu lo hi sl Q I rx hs pl pu ⟨a, _, rfl, l.same.seqL e, hk.lst l (RepL.slc (repL_ints is) lo hi) d⟩
  · split at d
    · rename_i xs ea
      obtain ⟨a, vs, rfl, e, q⟩ := asL_rep l p1 ea
      exact sl_list pins s σ H _ v vl vu lo hi sl Q I rx hs pl pu ⟨a, vs, rfl, .inl (.inl e), hk.lst l (q.slc lo hi) d⟩
    · exact d.elim
end
end VS
end
section
namespace VS
open PySem PySem.Spec PyProof.Rows L2
open VM (PV SO Store)
section
variable {X : Cx} {a b c e : Expr} {ta tb tc te : VM.TE} {t1 t2 : VM.TT} {pos p2 p : Pos} {es rest : List Expr} {tas : VM.TA} {x : Str}
def KonO (K : PySem.W.Frag) (G F : Hp) (μ : List Addr) (k : Option Int → Store → Prop) (Q : Option Int → Hp → Prop) : Prop := ∀ (o : Option Int) (H' F' : Hp) (μ' : List Addr) (st' : Store), Ext F μ F' μ' → Lay K G F' μ' st' H' → k o st' → Q o H'
abbrev VTO := VM.Env → Store → (Option Int → Store → Prop) → VM.KV → Prop
def partOf : Option VM.TE → VTO
  | none => fun ρ st k x => k none st
  | some e => fun ρ st k x => e ρ st (fun v st => match v with | .int i => k (some i) st | _ => False) x
def rO (K : PySem.W.Frag) (t : VTO) : TO := fun σ H Q => ∃ G F μ ρ st k, Lay K G F μ st H ∧ EnvR K F μ σ ρ ∧ t ρ st k nox ∧ KonO K G F μ k Q
theorem vo_none : PO X none (rO X.K (partOf none)) := ⟨fun pins s σ H Q I h => po_none.run pins s σ H Q I (by
  obtain ⟨G, F, μ, ρ, st, k, l, r, d, hk⟩ := h
  exact hk none H F μ st Ext.refl l d)⟩
theorem vo_some (h : VE X e te) : PO X (some e) (rO X.K (partOf (some te))) := ⟨fun pins s σ H Q I q => (po_some h).run pins s σ H Q I (by
  obtain ⟨G, F, μ, ρ, st, k, l, r, d, hk⟩ := q
  refine bind1 l r d fun x H1 F1 μ1 px st1 e1 l1 r1 p1 q1 => ?_
  split at q1
  · obtain rfl := rep_int.mp p1
    exact ⟨_, rfl, hk _ H1 F1 μ1 st1 e1 l1 q1⟩
  · exact q1.elim)⟩
theorem ve_sl {lo hi : Option Expr} {tl th : Option VM.TE} (he : VE X e te) (hl : PO X lo (rO X.K (partOf tl))) (hh : PO X hi (rO X.K (partOf th))) : VE X (.Subscript e (.Slice lo hi none p2) pos) (VM.eSl te tl th) := pe_imp (pe_slice sl_dyn he hl hh) fun σ H Q h => by
  obtain ⟨G, F, μ, ρ, st, k, l, r, d, hk⟩ := h
  refine bind1 l r d fun x H1 F1 μ1 px st1 e1 l1 r1 p1 q1 => ?_
  refine ⟨G, F1, μ1, ρ, st1, fun lo st2 => partOf th ρ st2 (fun hi st3 => VM.getSl px lo hi st3 k) nox, l1, r1, ?_, ?_⟩
  · cases tl <;> cases th <;> exact q1
  · intro lo' H2 F2 μ2 st2 e2 l2 q2
    refine ⟨G, F2, μ2, ρ, st2, _, l2, r1.mono e2, q2, ?_⟩
    intro hi' H3 F3 μ3 st3 e3 l3 q3
    exact ⟨G, F3, μ3, st3, px, k, l3, p1.mono (e2.trans e3), q3, hk.mono (e1.trans (e2.trans e3))⟩

theorem ve_b1 {id : String} {r : List V → Hp → VK → Prop} {f : PV → Store → VM.KV → Prop} (hc : CallR X (.builtin id) r)
    (hf : ∀ G F μ st H px v k Q, Lay X.K G F μ st H → Rep X.K F μ px v → f px st k → Kon X.K G F μ k Q → r [v] H Q)
    (ha : VE X a ta) (hg : Gl X x) (hm : X.mg x = none) (hv : bootBuiltins x = some (.builtin id)) (hn : x ≠ "__name__" := by decide) (hdb : (x == ("__debug__" : Str)) = false := by decide)
    (he : starEach [a] X.env = (false, eval a X.env) :: starEach [] X.env := by rfl) : VE X (.Call (.Name x p) [a] [] pos) (VM.eB1 f ta) :=
  pe_imp (pe_callB hc hg hm hv (pa_cons ha pa_nil he) hn hdb he rfl) fun σ H Q h => by
    obtain ⟨G, F, μ, ρ, st, k, l, r, d, hk⟩ := h
    exact bind1 l r d fun x H1 F1 μ1 px st1 e1 l1 r1 p1 q1 => hf G F1 μ1 st1 H1 px x k Q l1 p1 q1 (hk.mono e1)
theorem ve_t1 {T : String} {r : List V → Hp → VK → Prop} {f : PV → Store → VM.KV → Prop} (hc : CallR X (.type T) r)
    (hf : ∀ G F μ st H px v k Q, Lay X.K G F μ st H → Rep X.K F μ px v → f px st k → Kon X.K G F μ k Q → r [v] H Q)
    (ha : VE X a ta) (hg : Gl X x) (hm : X.mg x = none) (hv : bootBuiltins x = some (.type T)) (hn : x ≠ "__name__" := by decide) (hdb : (x == ("__debug__" : Str)) = false := by decide)
    (he : starEach [a] X.env = (false, eval a X.env) :: starEach [] X.env := by rfl) : VE X (.Call (.Name x p) [a] [] pos) (VM.eB1 f ta) :=
  pe_imp (pe_callTy hc hg hm hv (pa_cons ha pa_nil he) hn hdb he rfl) fun σ H Q h => by
    obtain ⟨G, F, μ, ρ, st, k, l, r, d, hk⟩ := h
    exact bind1 l r d fun x H1 F1 μ1 px st1 e1 l1 r1 p1 q1 => hf G F1 μ1 st1 H1 px x k Q l1 p1 q1 (hk.mono e1)
theorem seqOf_rep {K : PySem.W.Frag} {G F : Hp} {μ : List Addr} {H : Hp} {st : Store} {px : PV} {v : V} {xs : List PV} (l : Lay K G F μ st H) (r : Rep K F μ px v) (h : VM.seqOf st px = some xs) : ∃ a vs, v = .ref a ∧ RepL K F μ xs vs ∧ ((∃ ys, px = .tup ys ∧ SqT K F a vs) ∨ ((¬ ∃ ys, px = .tup ys) ∧ H a = some (.lst vs))) := by
  by_cases hx : ∃ ys, px = .tup ys
  · obtain ⟨ys, rfl⟩ := hx
    cases h
    obtain ⟨a, vs, rfl, e, q⟩ := rep_tup.mp r
    exact ⟨a, vs, rfl, q, .inl ⟨_, rfl, e⟩⟩
  · have h' : VM.asL st px = some xs := by
      unfold VM.seqOf at h
      split at h
      · exact absurd ⟨_, rfl⟩ hx
      · exact h
    obtain ⟨a, vs, rfl, e, q⟩ := asL_rep l r h'
    exact ⟨a, vs, rfl, q, .inr ⟨hx, e⟩⟩
theorem f_len {G F : Hp} {μ : List Addr} {st : Store} {H : Hp} {px : PV} {v : V} {k : VM.KV} {Q : VK} (l : Lay X.K G F μ st H) (r : Rep X.K F μ px v) (d : VM.fLen px st k) (hk : Kon X.K G F μ k Q) :
    (fun xs H Q => (∃ x n, xs = [x] ∧ LenV X.K x H n ∧ Q (.int n) H) ∨ (∃ a kvs, xs = [V.ref a] ∧ H a = some (.dK kvs) ∧ Q (.int kvs.length) H)) [v] H Q := by
  unfold VM.fLen at d
  split at d
  · rename_i n en
    have fin : ∀ {m : Nat}, m = n → Q (.int m) H := fun e => hk.same l (rep_int.mpr (by rw [e])) d
    cases px <;> simp only [VM.bLen, VM.asL] at en <;> try (cases en; done)
    case str s =>
      cases en
      obtain ⟨o, rfl⟩ := rep_str.mp r
      exact .inl ⟨_, _, rfl, ⟨by rw [sizeLine_eq]; simpa [Str.length] using o.1, rfl⟩, fin (by simp [Str.length])⟩
    case tup xs =>
      cases en
      obtain ⟨a, vs, rfl, e, q⟩ := rep_tup.mp r
      exact .inl ⟨_, _, rfl, .inr ⟨vs, l.same.seqT e, rfl⟩, fin q.length⟩
    case lst xs =>
      cases en
      obtain ⟨a, vs, rfl, e, q⟩ := rep_lst.mp r
      exact .inl ⟨_, _, rfl, .inl ⟨vs, .inl (.inl (l.same _ _ e)), rfl⟩, fin q.length⟩
    case dct ks xs =>
      cases en
      unfold Rep at r
      obtain ⟨a, kvs, rfl, e, rfl, _⟩ := r
      exact .inr ⟨a, kvs, rfl, l.same _ _ e, fin (by simp)⟩
    case dctT => unfold Rep at r; exact r.elim
    case ref i =>
      obtain ⟨a, h1, rfl⟩ := rep_ref.mp r
      cases eo : st[i]? with
      | none => simp [eo] at en
      | some o =>
        rw [eo] at en
        have ho := l.obj i a o h1 eo
        cases o with
        | lst xs =>
          cases en
          obtain ⟨_, vs, h2, q⟩ := ho
          exact .inl ⟨_, _, rfl, .inl ⟨vs, .inl (.inl h2), rfl⟩, fin q.length⟩
        | dct ks xs =>
          cases en
          obtain ⟨_, kvs, h2, rfl, q⟩ := ho
          exact .inr ⟨a, kvs, rfl, h2, fin (by simp)⟩
        | dctT => exact ho.elim
        | ins => simp at en
        | dead => simp at en
  · exact d.elim
theorem ve_len (ha : VE X a ta) (hg : Gl X "len") (hm : X.mg "len" = none) (he : starEach [a] X.env = (false, eval a X.env) :: starEach [] X.env := by rfl) : VE X (.Call (.Name "len" p) [a] [] pos) (VM.eB1 VM.fLen ta) :=
  ve_b1 (call_len.or call_lenD) (fun G F μ st H px v k Q l r d hk => f_len l r d hk) ha hg hm PySem.boot_len (he := he)
theorem ve_abs (ha : VE X a ta) (hg : Gl X "abs") (hm : X.mg "abs" = none) (he : starEach [a] X.env = (false, eval a X.env) :: starEach [] X.env := by rfl) : VE X (.Call (.Name "abs" p) [a] [] pos) (VM.eB1 VM.fAbs ta) :=
  ve_b1 call_abs (fun G F μ st H px v k Q l r d hk => by
    unfold VM.fAbs at d
    split at d
    · rename_i i
      obtain rfl := rep_int.mp r
      refine ⟨i, rfl, hk.same l (rep_int.mpr ?_) d⟩
      congr 1
      split <;> omega
    · exact d.elim) ha hg hm boot_abs (he := he)
theorem ve_int_ (ha : VE X a ta) (hg : Gl X "int") (hm : X.mg "int" = none) (he : starEach [a] X.env = (false, eval a X.env) :: starEach [] X.env := by rfl) : VE X (.Call (.Name "int" p) [a] [] pos) (VM.eB1 VM.fInt ta) :=
  ve_t1 call_int1 (fun G F μ st H px v k Q l r d hk => by
    unfold VM.fInt at d
    split at d
    · rename_i i
      obtain rfl := rep_int.mp r
      exact .inl ⟨i, rfl, hk.same l (rep_int.mpr rfl) d⟩
    · rename_i i
      obtain rfl := rep_bl.mp r
      exact .inr ⟨i, rfl, hk.same l (rep_int.mpr rfl) d⟩
    · exact d.elim) ha hg hm boot_int (he := he)
theorem ve_list (ha : VE X a ta) (hg : Gl X "list") (hm : X.mg "list" = none) (he : starEach [a] X.env = (false, eval a X.env) :: starEach [] X.env := by rfl) : VE X (.Call (.Name "list" p) [a] [] pos) (VM.eB1 VM.fList ta) :=
  ve_t1 call_list_of (fun G F μ st H px v k Q l r d hk => by
    unfold VM.fList at d
    split at d
    · rename_i xs ex
      obtain ⟨a, vs, rfl, q, h⟩ := seqOf_rep l r ex
      refine ⟨a, vs, rfl, ?_, hk.lst l q d⟩
      rcases h with ⟨_, _, h⟩ | ⟨_, h⟩
      · exact .inr (l.same.seqT h)
      · exact .inl (.inl (.inl h))
    · exact d.elim) ha hg hm boot_list (he := he)
theorem ve_listM (ha : VE X a ta) (hg : Gl X "list") (hm : X.mg "list" = none) (he : starEach [a] X.env = (false, eval a X.env) :: starEach [] X.env := by rfl) : VE X (.Call (.Name "list" p) [a] [] pos) (VM.eB1 VM.fListM ta) :=
  ve_t1 call_list_of (fun G F μ st H px v k Q l r d hk => by
    unfold VM.fListM at d
    split at d
    · rename_i xs ex
      obtain ⟨a, vs, rfl, q, h⟩ := seqOf_rep l r ex
      refine ⟨a, vs, rfl, ?_, hk.lstM l q d⟩
      rcases h with ⟨_, _, h⟩ | ⟨_, h⟩
      · exact .inr (l.same.seqT h)
      · exact .inl (.inl (.inl h))
    · exact d.elim) ha hg hm boot_list (he := he)
theorem ve_tuple (ha : VE X a ta) (hg : Gl X "tuple") (hm : X.mg "tuple" = none) (he : starEach [a] X.env = (false, eval a X.env) :: starEach [] X.env := by rfl) : VE X (.Call (.Name "tuple" p) [a] [] pos) (VM.eB1 VM.fTuple ta) :=
  ve_t1 call_tuple_of (fun G F μ st H px v k Q l r d hk => by
    unfold VM.fTuple at d
    split at d
    · rename_i xs ex
      obtain ⟨a, vs, rfl, q, h⟩ := seqOf_rep l r ex
      rcases h with ⟨ys, rfl, h⟩ | ⟨_, h⟩
      · cases ex
        exact ⟨a, vs, rfl, .inr ⟨l.same.seqT h, hk.same l (rep_tup.mpr ⟨a, vs, rfl, h, q⟩) d⟩⟩
      · exact ⟨a, vs, rfl, .inl ⟨.inl (.inl h), hk.tup l q d⟩⟩
    · exact d.elim) ha hg hm boot_tuple (he := he)
theorem allInt_rep {K : PySem.W.Frag} {F : Hp} {μ : List Addr} : ∀ {xs : List PV} {is : List Int} {vs : List V}, VM.allInt xs = some is → RepL K F μ xs vs → vs = is.map V.int
  | [], is, vs, h, r => by
    cases h
    rw [repL_nil.mp r]
    rfl
  | x :: xs, is, vs, h, r => by
    obtain ⟨v, w, rfl, r1, r2⟩ := repL_cons.mp r
    cases x <;> simp only [VM.allInt] at h <;> try (cases h; done)
    rename_i i
    rw [Option.map_eq_some_iff] at h
    obtain ⟨js, h1, rfl⟩ := h
    rw [rep_int.mp r1, allInt_rep h1 r2]
    rfl
theorem allBl_rep {K : PySem.W.Frag} {F : Hp} {μ : List Addr} : ∀ {xs : List PV} {is : List Bool} {vs : List V}, VM.allBl xs = some is → RepL K F μ xs vs → vs = is.map V.bl
  | [], is, vs, h, r => by
    cases h
    rw [repL_nil.mp r]
    rfl
  | x :: xs, is, vs, h, r => by
    obtain ⟨v, w, rfl, r1, r2⟩ := repL_cons.mp r
    cases x <;> simp only [VM.allBl] at h <;> try (cases h; done)
    rename_i i
    rw [Option.map_eq_some_iff] at h
    obtain ⟨js, h1, rfl⟩ := h
    rw [rep_bl.mp r1, allBl_rep h1 r2]
    rfl
theorem boot_sum' : bootBuiltins "sum" = some (.builtin "sum") := by decide +kernel
theorem boot_all' : bootBuiltins "all" = some (.builtin "all") := by decide +kernel
theorem boot_any' : bootBuiltins "any" = some (.builtin "any") := by decide +kernel
theorem ve_sum (hc : X.calm = true) (ha : VE X a ta) (hg : Gl X "sum") (hm : X.mg "sum" = none) (he : starEach [a] X.env = (false, eval a X.env) :: starEach [] X.env := by rfl) : VE X (.Call (.Name "sum" p) [a] [] pos) (VM.eB1 VM.fSum ta) :=
  ve_b1 (cr_sum hc) (fun G F μ st H px v k Q l r d hk => by
    unfold VM.fSum at d
    split at d
    · rename_i xs ex
      split at d
      · rename_i is ei
        obtain ⟨a, vs, rfl, e, q⟩ := asL_rep l r ex
        rw [allInt_rep ei q] at e
        exact ⟨a, is, rfl, .inl (.inl e), hk.same l (rep_int.mpr rfl) d⟩
      · exact d.elim
    · exact d.elim) ha hg hm boot_sum' (he := he)
theorem ve_all (hc : X.calm = true) (ha : VE X a ta) (hg : Gl X "all") (hm : X.mg "all" = none) (he : starEach [a] X.env = (false, eval a X.env) :: starEach [] X.env := by rfl) : VE X (.Call (.Name "all" p) [a] [] pos) (VM.eB1 VM.fAll ta) :=
  ve_b1 (cr_all hc) (fun G F μ st H px v k Q l r d hk => by
    unfold VM.fAll at d
    split at d
    · rename_i xs ex
      split at d
      · rename_i is ei
        obtain ⟨a, vs, rfl, e, q⟩ := asL_rep l r ex
        rw [allBl_rep ei q] at e
        exact ⟨a, is, rfl, .inl (.inl e), hk.same l (rep_bl.mpr rfl) d⟩
      · exact d.elim
    · exact d.elim) ha hg hm boot_all' (he := he)
theorem ve_any (hc : X.calm = true) (ha : VE X a ta) (hg : Gl X "any") (hm : X.mg "any" = none) (he : starEach [a] X.env = (false, eval a X.env) :: starEach [] X.env := by rfl) : VE X (.Call (.Name "any" p) [a] [] pos) (VM.eB1 VM.fAny ta) :=
  ve_b1 (cr_any hc) (fun G F μ st H px v k Q l r d hk => by
    unfold VM.fAny at d
    split at d
    · rename_i xs ex
      split at d
      · rename_i is ei
        obtain ⟨a, vs, rfl, e, q⟩ := asL_rep l r ex
        rw [allBl_rep ei q] at e
        exact ⟨a, is, rfl, .inl (.inl e), hk.same l (rep_bl.mpr rfl) d⟩
      · exact d.elim
    · exact d.elim) ha hg hm boot_any' (he := he)

def kdS : VM.Kd → String
  | .non => "NoneType" | .bool => "bool" | .int => "int" | .str => "str" | .list => "list" | .tuple => "tuple" | .dict => "dict" | .other => ""
def tyS : VM.Ty → String
  | .int => "int" | .bool => "bool" | .str => "str" | .list => "list" | .tuple => "tuple" | .dict => "dict"
theorem kit_all : ([.non, .bool, .int, .str, .list, .tuple, .dict] : List VM.Kd).all (fun k => ([.int, .bool, .str, .list, .tuple, .dict] : List VM.Ty).all fun t => decide (kitB (kdS k) (tyS t) = some (VM.kdIs k t))) = true := by decide +kernel
theorem kit_is {K : PySem.W.Frag} (k : VM.Kd) (t : VM.Ty) (h : k ≠ .other) : PySem.W.kitOne K (.type (kdS k)) (.type (tyS t)) = some (VM.kdIs k t) := by
  refine kit_ty ?_
  have q := kit_all
  rw [List.all_eq_true] at q
  have q1 := q k (by cases k <;> first | exact absurd rfl h | simp)
  rw [List.all_eq_true] at q1
  exact of_decide_eq_true (q1 t (by cases t <;> simp))
theorem kd_rep {K : PySem.W.Frag} {G F : Hp} {μ : List Addr} {H : Hp} {st : Store} {px : PV} {v : V} (l : Lay K G F μ st H) (r : Rep K F μ px v) (h : VM.kdOf st px ≠ .other) : TyX K H v (.type (kdS (VM.kdOf st px))) := by
  cases px <;> simp only [VM.kdOf] at h ⊢ <;> try (exact absurd rfl h)
  case non => rw [rep_non.mp r]; exact .base .non
  case bl => rw [rep_bl.mp r]; exact .base (.bl _)
  case int => rw [rep_int.mp r]; exact .base (.int _)
  case str => rw [(rep_str.mp r).2]; exact .base (.str _)
  case tup =>
    obtain ⟨a, vs, rfl, e, q⟩ := rep_tup.mp r
    rcases l.same.seqT e with (e | ⟨o, e⟩) | ⟨o, its, n, e, c, _⟩
    · exact .base (.tup e)
    · exact .fTuple e
    · exact .kTuple e c
  case lst =>
    obtain ⟨a, vs, rfl, e, q⟩ := rep_lst.mp r
    exact .base (.lst (l.same _ _ e))
  case dct =>
    unfold Rep at r
    obtain ⟨a, kvs, rfl, e, rfl, _⟩ := r
    exact .base (.dK (l.same _ _ e))
  case dctT => unfold Rep at r; exact r.elim
  case ref i =>
    obtain ⟨a, h1, rfl⟩ := rep_ref.mp r
    cases eo : st[i]? with
    | none => rw [eo] at h; exact absurd rfl h
    | some o =>
      rw [eo] at h
      have ho := l.obj i a o h1 eo
      cases o with
      | lst xs =>
        obtain ⟨_, vs, h2, q⟩ := ho
        exact .base (.lst h2)
      | dct ks xs =>
        obtain ⟨_, kvs, h2, rfl, q⟩ := ho
        exact .base (.dK h2)
      | dctT => exact ho.elim
      | ins => exact absurd rfl h
      | dead => exact absurd rfl h
/-- the name of a built-in type -/
theorem ve_ty {T : String} (hg : Gl X x) (hm : X.mg x = none) (hv : bootBuiltins x = some (.type T)) (hn : x ≠ "__name__" := by decide) (hd : (x == ("__debug__" : Str)) = false := by decide) : PE X (.Name x pos) (tC (.ty T)) := pe_bltn hg hm hv rfl hn hd
theorem boot_bool' : bootBuiltins "bool" = some (.type "bool") := boot_bool
theorem ve_isi {T : VM.Ty} {cx : Expr} (ha : VE X a ta) (hc : PE X cx (tC (.ty (tyS T)))) (hg : Gl X "isinstance") (hm : X.mg "isinstance" = none)
    (he : starEach [a, cx] X.env = (false, eval a X.env) :: starEach [cx] X.env := by rfl) (he2 : starEach [cx] X.env = (false, eval cx X.env) :: starEach [] X.env := by rfl) (hpl : (backTo pos (starEach [cx] X.env)).any (·.1) = false := by rfl) :
    VE X (.Call (.Name "isinstance" p) [a, cx] [] pos) (VM.eB1 (VM.fIsi [T]) ta) :=
  pe_imp (pe_callB call_isi hg hm boot_isinstance (pa_cons ha (pa_cons hc pa_nil he2) he) (he := he) (hpl := hpl)) fun σ H Q h => by
    obtain ⟨G, F, μ, ρ, st, k, l, r, d, hk⟩ := h
    refine bind1 l r d fun v H1 F1 μ1 px st1 e1 l1 r1 p1 q1 => ?_
    obtain ⟨h1, q1⟩ := q1
    refine ⟨v, _, _, _, _, rfl, .ty _, kd_rep l1 p1 h1, kit_is _ _ h1, ?_⟩
    refine (hk.mono e1).same l1 (rep_bl.mpr rfl) ?_
    simpa using q1
/-- the names of built-in types in a tuple -/
inductive TyEs (X : Cx) : List Expr → List VM.Ty → Prop where
  | nil : TyEs X [] []
  | cons {c : Expr} {cs : List Expr} {T : VM.Ty} {Ts : List VM.Ty} (h : PE X c (tC (.ty (tyS T)))) (t : TyEs X cs Ts) (hs : starEach (c :: cs) X.env = (false, eval c X.env) :: starEach cs X.env) : TyEs X (c :: cs) (T :: Ts)
theorem TyEs.pa {cs : List Expr} {Ts : List VM.Ty} (h : TyEs X cs Ts) : PA X cs (fun _ H Q => Q (Ts.map fun T => V.ty (tyS T)) H) := by
  induction h with
  | nil => exact pa_imp pa_nil fun _ _ _ q => q
  | cons h t hs ih => exact pa_imp (pa_cons h ih hs) fun _ _ _ q => q
theorem kit_any {K : PySem.W.Frag} (k : VM.Kd) (h : k ≠ .other) : ∀ Ts : List VM.Ty, PySem.W.kitAny K (.type (kdS k)) (Ts.map fun T => Value.type (tyS T)) = some (Ts.any (VM.kdIs k))
  | [] => rfl
  | T :: Ts => kitAny_cons (kit_is k T h) (fun e => by rw [List.any_cons, e, Bool.false_or]; exact kit_any k h Ts) (fun e => by rw [List.any_cons, e, Bool.true_or])
theorem clsV_all : ∀ Ts : List VM.Ty, Paired ClsV (Ts.map fun T => V.ty (tyS T)) (Ts.map fun T => Value.type (tyS T))
  | [] => .nil
  | T :: Ts => .cons (.ty _) (clsV_all Ts)
theorem ve_isiT {Ts : List VM.Ty} {cs : List Expr} {kt : Nat} {pt : Pos} (ha : VE X a ta) (hc : TyEs X cs Ts) (hl : Ts.length ≤ 100) (hg : Gl X "isinstance") (hm : X.mg "isinstance" = none)
    (he : starEach [a, .Tuple cs kt pt] X.env = (false, eval a X.env) :: starEach [.Tuple cs kt pt] X.env := by rfl) :
    VE X (.Call (.Name "isinstance" p) [a, .Tuple cs kt pt] [] pos) (VM.eB1 (VM.fIsi Ts) ta) :=
  pe_imp (pe_callB call_isiT hg hm boot_isinstance (pa_cons ha (pa_cons (pe_tup hc.pa) pa_nil) he) (he := he) (hpl := rfl)) fun σ H Q h => by
    obtain ⟨G, F, μ, ρ, st, k, l, r, d, hk⟩ := h
    refine bind1 l r d fun v H1 F1 μ1 px st1 e1 l1 r1 p1 q1 => ?_
    obtain ⟨h1, q1⟩ := q1
    refine ⟨by rw [sizeLine_eq, List.length_map]; omega, fun q hq => ?_⟩
    have l2 := l1.new (p := q) (o := .tup (Ts.map fun T => V.ty (tyS T))) hq
    have e2 := ext_upd (o := .tup (Ts.map fun T => V.ty (tyS T))) l1 hq
    refine ⟨v, q, _, _, _, _, rfl, upd_same, clsV_all Ts, kd_rep l2 (p1.mono e2) h1, kit_any _ h1 Ts, ?_⟩
    exact (hk.mono (e1.trans e2)).same l2 (rep_bl.mpr rfl) q1
end
end VS
end
section
namespace VS
open PySem PySem.Spec PyProof.Rows L2
def SqB (b : Bool) (K : PySem.W.Frag) (H : Hp) (a : Addr) (xs : List V) : Prop := match b with
  | true => SqL K H a xs
  | false => SqT K H a xs
def ItB (b : Bool) (h : Heap) (it a : Addr) (i : Nat) : Prop := match b with
  | true => h.IsListIter it a i
  | false => h.IsTupleIter it a i
def StB (b : Bool) (its : Array Value) (it a : Addr) (i : Nat) (h : Heap) : Prop := match b with
  | true => h.IsListIter it a i ∧ h.IsList a its
  | false => h.IsTupleIter it a i ∧ h.IsTuple a its
theorem ItB.at {b : Bool} {h h' : Heap} {it a : Addr} {i : Nat} (x : ItB b h it a i) (k : ∀ o, h.get? it = some o → h'.get? it = some o) : ItB b h' it a i := by
  cases b with
  | true => exact Heap.IsListIter.at x k
  | false => exact Heap.IsTupleIter.at x k
theorem ItB.ob {b : Bool} {h : Heap} {it a : Addr} {i : Nat} (x : ItB b h it a i) : ∃ o, h.get? it = some o ∧ ∀ v, o.data ≠ .cell v := by
  cases b with
  | true =>
    obtain ⟨o, e, _, d⟩ := x
    exact ⟨o, e, fun v q => by rw [d] at q; cases q⟩
  | false =>
    obtain ⟨o, e, _, d⟩ := x
    exact ⟨o, e, fun v q => by rw [d] at q; cases q⟩
theorem drawsB (b : Bool) {prog : Program} {w : World} {A : Around} (hh : A.handled = none) (it a : Addr) (hne : a ≠ it) (its : Array Value) : Draws prog w A it [it, a] its.size (fun i v => its[i]? = some v) (StB b its it a) := by
  cases b with
  | true => exact Draws.list hh it a hne its
  | false => exact Draws.tuple hh it a hne its
def obB (b : Bool) (a : Addr) : Obj := match b with
  | true => { cls := .type "list_iterator", data := .fields #[.ref a, .int 0 0] }
  | false => { cls := .type "tuple_iterator", data := .fields #[.ref a, .int 0 0] }
def hpB (b : Bool) (a : Addr) (its : Array Value) (h : Heap) : Prop := match b with
  | true => h.IsList a its
  | false => h.IsTuple a its
theorem seqB {X : Cx} {pins : List (Addr × Obj)} {σ : L2.St} {H : Hp} {s : Shared} {b : Bool} {a : Addr} {xs : List V} (I : Inv X pins σ H s) (h : SqB b X.K H a xs) :
    ∃ its : List Value, Vals xs its ∧ (∀ it i, ItB b s.heap it a i → StB b its.toArray it a i s.heap) ∧ a < s.heap.objs.size ∧ hpB b a its.toArray s.heap := by
  cases b with
  | true =>
    obtain ⟨its, r, p, _⟩ := I.list h
    exact ⟨its, r, fun it i q => ⟨q, p.isList⟩, p.lt, p.isList⟩
  | false =>
    obtain ⟨its, r, p, _⟩ := I.tuple h
    exact ⟨its, r, fun it i q => ⟨q, p⟩, p.lt, p⟩
theorem seqB_inj {X : Cx} {pins : List (Addr × Obj)} {σ : L2.St} {H : Hp} {s : Shared} {b : Bool} {a : Addr} {xs ys : List V} (I : Inv X pins σ H s) (h : SqB b X.K H a xs) (h' : SqB b X.K H a ys) : xs = ys := by
  cases b with
  | true => exact I.list_inj h h'
  | false => exact I.tuple_inj h h'
theorem StB.it {b : Bool} {its : Array Value} {it a : Addr} {i : Nat} {h : Heap} (x : StB b its it a i h) : ItB b h it a i := by
  cases b with
  | true => exact x.1
  | false => exact x.1
def ItzB (b1 b2 : Bool) (K : PySem.W.Frag) (a b : Addr) : It :=
  ⟨fun i H => ∃ (xs ys : List V) (x y : V), SqB b1 K H a xs ∧ SqB b2 K H b ys ∧ xs[i]? = some x ∧ ys[i]? = some y,
    fun i H v H' => ∃ T x y, v = .ref T ∧ H T = none ∧ H' = upd H T (.tup [x, y]) ∧ (∀ xs, SqB b1 K H a xs → xs[i]? = some x) ∧ ∀ ys, SqB b2 K H b ys → ys[i]? = some y,
    fun i H => ∃ xs ys : List V, SqB b1 K H a xs ∧ SqB b2 K H b ys ∧ i = min xs.length ys.length⟩
theorem turn_zipB {P : Program} {w : World} {K : PySem.W.Frag} {elts : List Expr} {kk : Nat} {tpos : Pos} {b1 b2 : Bool} {a b z TI TO i1 i2 : Addr} (D : ZipSep2 z TI TO i1 i2 [i1, a] [i2, b]) (hfree : a ≠ i1) (hfree2 : b ≠ i2) :
    Turn P w K (.Tuple elts kk tpos) (ItzB b1 b2 K a b) [z, TI, TO, i1, i2] z (fun i h => IsZip h z TI TO .none ∧ IsTupOf2 h TI (.ref i1) (.ref i2) ∧ (∃ x y, IsTupOf2 h TO x y) ∧ ItB b1 h i1 a i ∧ ItB b2 h i2 b i) where
  mem := by simp
  obj := fun i h st c hc => by
    obtain ⟨hz, hTI, ⟨x, y, hTO⟩, h1, h2⟩ := st
    have e' : c = z ∨ c = TI ∨ c = TO ∨ c = i1 ∨ c = i2 := by simpa using hc
    rcases e' with q | q | q | q | q
    · rw [q]; exact ⟨_, hz, fun v q => nomatch q⟩
    · rw [q]; exact ⟨_, hTI, fun v q => nomatch q⟩
    · rw [q]; exact ⟨_, hTO, fun v q => nomatch q⟩
    · rw [q]; exact h1.ob
    · rw [q]; exact h2.ob
  keep := fun i h h' st k => by
    obtain ⟨hz, hTI, ⟨x, y, hTO⟩, h1, h2⟩ := st
    exact ⟨k z (by simp) _ hz, k TI (by simp) _ hTI, ⟨x, y, k TO (by simp) _ hTO⟩, h1.at fun o q => k i1 (by simp) o q, h2.at fun o q => k i2 (by simp) o q⟩
  item := by
    intro X hP hw hK hc i pins s σ H E I hf st hg
    subst hP hw hK
    obtain ⟨hz, hTI, ⟨x0, y0, hTO⟩, h1, h2⟩ := st
    obtain ⟨xs, ys, x, y, hqx, hqy, hx, hy⟩ := hg
    obtain ⟨its, rv, p, _⟩ := seqB I hqx
    obtain ⟨its2, rv2, p2, _⟩ := seqB I hqy
    obtain ⟨u, hu, ru⟩ := rv.get hx
    obtain ⟨u2, hu2, ru2⟩ := rv2.get hy
    have hzl : z < s.heap.objs.size := Heap.lt_size hz
    have hh : X.A.in1.handled = none := I.ok.hd hc
    have hi1 : i < its.toArray.size := by simpa using (List.getElem?_eq_some_iff.mp hu).1
    have hi2 : i < its2.toArray.size := by simpa using (List.getElem?_eq_some_iff.mp hu2).1
    refine wpAny_pyNext_zipD2_item D (drawsB b1 hh i1 a hfree its.toArray) (drawsB b2 hh i2 b hfree2 its2.toArray) hz hTI hTO (p i1 i h1) (p2 i2 i h2) hi1 hi2 fun w1 w2 h' tk y1 y2 z' TO' h1' h2' hT hsz hk => ?_
    obtain rfl : w1 = u := by
      have q : its[i]? = some w1 := by simpa using y1
      rw [hu] at q
      exact (Option.some.inj q).symm
    obtain rfl : w2 = u2 := by
      have q : its2[i]? = some w2 := by simpa using y2
      rw [hu2] at q
      exact (Option.some.inj q).symm
    refine ⟨_, rfl, wpAny_letOwnedTupleGo_zip (s := { s with heap := h', toks := tk }) z' fun h'' z'' sb => ?_⟩
    have hT2 : h''.get? s.heap.objs.size = some { cls := .type "tuple", data := .seq #[w1, w2] } := (sb.2 _ (Nat.ne_of_gt hzl)).trans hT
    have new : ObjOk X.prog X.w (upd H s.heap.objs.size (.tup [x, y])) h'' s.heap.objs.size (.tup [x, y]) :=
      ⟨by show 2 ≤ sizeLine; decide, [w1, w2], .cons ru (.cons ru2 .nil), ⟨_, hT2, rfl, _, rfl⟩⟩
    have I1 : Inv X pins σ (upd H s.heap.objs.size (.tup [x, y])) { s with heap := h'', toks := tk } :=
      I.turnedNew (t' := tk) (ch := [z, TI, TO, i1, i2]) (fun c o hb q => (sb.2 c (fun q' => hb (by simp [q']))).trans (hk c o (fun q' => hb (by simp [q'])) (fun q' => hb (by simp [q'])) (fun q' => hb (by simp [q'])) (fun q' => hb (by simp [q'])) q)) hf (Nat.le_refl _) new
    refine ⟨.ref s.heap.objs.size, _, I1, rfl, ⟨_, x, y, rfl, I.hok.fresh (Nat.le_refl _), rfl, fun l hl => by rw [seqB_inj I hl hqx]; exact hx, fun l hl => by rw [seqB_inj I hl hqy]; exact hy⟩, ⟨z'', ?_, ⟨w1, w2, ?_⟩, ?_, ?_⟩, fun c hcm => ?_⟩
    · exact (sb.2 _ D.TIz).trans (hk _ _ D.TIz D.TITO D.TIi1 D.TIi2 hTI)
    · exact (sb.2 _ D.TOz).trans TO'
    · exact h1'.it.at fun o q => (sb.2 _ (Ne.symm D.zi1)).trans q
    · exact h2'.it.at fun o q => (sb.2 _ (Ne.symm D.zi2)).trans q
    · have hlt : c < s.heap.objs.size := by
        have e' : c = z ∨ c = TI ∨ c = TO ∨ c = i1 ∨ c = i2 := by simpa using hcm
        rcases e' with q | q | q | q | q
        · rw [q]; exact hzl
        · rw [q]; exact Heap.lt_size hTI
        · rw [q]; exact Heap.lt_size hTO
        · rw [q]; obtain ⟨_, e1, _⟩ := h1.ob; exact Heap.lt_size e1
        · rw [q]; obtain ⟨_, e2, _⟩ := h2.ob; exact Heap.lt_size e2
      rw [upd_ne (Nat.ne_of_lt hlt)]
      exact (hf c hcm).1
  done := by
    intro X hP hw hK hc i pins s σ H E I hf st hg
    subst hP hw hK
    obtain ⟨hz, hTI, ⟨x0, y0, hTO⟩, h1, h2⟩ := st
    obtain ⟨xs, ys, hqx, hqy, hend⟩ := hg
    obtain ⟨its, rv, p, _⟩ := seqB I hqx
    obtain ⟨its2, rv2, p2, _⟩ := seqB I hqy
    have l1 := rv.length
    have l2 := rv2.length
    have hh : X.A.in1.handled = none := I.ok.hd hc
    exact wpAny_pyNext_zipD2_end D (drawsB b1 hh i1 a hfree its.toArray) (drawsB b2 hh i2 b hfree2 its2.toArray) hz hTI hTO (p i1 i h1) (p2 i2 i h2) (by simp; omega) (by simp; omega) (by simp; omega) fun h' tk hk => ⟨rfl, I.turnedL (t' := tk) (ch := [z, TI, TO, i1, i2]) (fun c o hb q =>
      hk c o (fun q' => hb (by simp [q'])) (fun q' => hb (by simp [q'])) (fun q' => hb (by simp [q'])) (fun q' => hb (by simp [q'])) q) hf⟩
  self := fun A i s Q E st h => wpAny_pyIter_zip st.1 h
theorem beginsB (b : Bool) (a : Addr) (its : Array Value) : Begins (.ref a) (obB b a) (hpB b a its) := by
  cases b with
  | true => exact begins_list a its
  | false => exact begins_tuple a its
theorem itB_of {b : Bool} {h : Heap} {it a : Addr} (e : h.get? it = some (obB b a)) : ItB b h it a 0 := by
  cases b with
  | true => exact ⟨_, e, rfl, rfl⟩
  | false => exact ⟨_, e, rfl, rfl⟩
def iZipB (K : PySem.W.Frag) (ta : TA) : TI := fun σ H R => ta σ H fun vs H1 => ∃ a b xs ys b1 b2, vs = [.ref a, .ref b] ∧ SqB b1 K H1 a xs ∧ SqB b2 K H1 b ys ∧ R (ItzB b1 b2 K a b) H1
theorem pi_zipB {X : Cx} {e e2 : Expr} {ta : TA} {p pos tpos : Pos} {elts : List Expr} {kk : Nat} (hg : Gl X "zip") (hm : X.mg "zip" = none) (ha : PA X [e, e2] ta)
    (hs : starEach [e, e2] X.env = (false, eval e X.env) :: starEach [e2] X.env := by rfl) (hpl : (backTo pos (starEach [e2] X.env)).any (·.1) = false := by rfl) :
    PI X (.Tuple elts kk tpos) (.Call (.Name "zip" p) [e, e2] [] pos) (iZipB X.K ta) := by
  refine ⟨fun pins s σ H R I h => ?_⟩
  refine Call_ (ld_blt I hg hm PyProof.Rows.boot_zip (PyProof.Rows.callWith_type1 (thn (ha.run pos pins s σ H _ I h) fun us s1 ⟨vs, H1, I1, r1, q1⟩ => ?_) hs hpl))
  obtain ⟨a, b, xs, ys, b1, b2, ex, hqx, hqy, q⟩ := q1
  subst ex
  cases r1 with
  | cons r rr =>
    cases rr with
    | cons r' rr =>
      cases rr
      cases r
      cases r'
      obtain ⟨its, rv, p1, la, g1⟩ := seqB I1 hqx
      obtain ⟨its2, rv2, p2, lb, g2⟩ := seqB I1 hqy
      refine zip_begins2 (beginsB b1 a its.toArray) (beginsB b2 b its2.toArray) g1 g2 fun h' hz hTI hTO h1 h2 hsz hk => wpAny_pyIter_zip hz ?_
      have I2 : Inv X pins σ H1 { s1 with heap := h' } := I1.kept (t' := s1.toks) hk
      have S := zip_sep2 (N := s1.heap.objs.size) (fp1 := [a]) (fp2 := [b]) (fun c hc => (List.mem_singleton.mp hc) ▸ la) (fun c hc => (List.mem_singleton.mp hc) ▸ lb)
      refine ⟨s1.heap.objs.size + 4, [s1.heap.objs.size + 4, s1.heap.objs.size + 2, s1.heap.objs.size + 3, s1.heap.objs.size, s1.heap.objs.size + 1], _, _, H1, rfl, I2, turn_zipB S (Nat.ne_of_lt la) (Nat.ne_of_lt (Nat.lt_succ_of_lt lb)), ⟨hz, hTI, ⟨_, _, hTO⟩, itB_of h1, itB_of h2⟩, fun c hcm => ?_, q⟩
      have e' : c = s1.heap.objs.size + 4 ∨ c = s1.heap.objs.size + 2 ∨ c = s1.heap.objs.size + 3 ∨ c = s1.heap.objs.size ∨ c = s1.heap.objs.size + 1 := by simpa using hcm
      have hle : s1.heap.objs.size ≤ c := by
        rcases e' with z | z | z | z | z
        · rw [z]; exact Nat.le_add_right _ _
        · rw [z]; exact Nat.le_add_right _ _
        · rw [z]; exact Nat.le_add_right _ _
        · rw [z]; exact Nat.le_refl _
        · rw [z]; exact Nat.le_add_right _ _
      exact I1.fpOk hle (I1.hok.fresh hle)
end VS
end
section
namespace VS
open PySem PySem.Spec PyProof.Rows L2
open VM (PV SO Store)
/-- an iterator gives these items, while what must stay stays -/
structure Wlk (K : PySem.W.Frag) (J : It) (F : Hp) (μ : List Addr) (xs : List PV) (stay : Store → Prop) : Prop where
  goes : ∀ (G H F' : Hp) (μ' : List Addr) (st : Store) (i : Nat), Ext F μ F' μ' → Lay K G F' μ' st H → stay st → i < xs.length → J.go i H
  stops : ∀ (G H F' : Hp) (μ' : List Addr) (st : Store), Ext F μ F' μ' → Lay K G F' μ' st H → stay st → J.stop xs.length H
  yields : ∀ (G H F' : Hp) (μ' : List Addr) (st : Store) (i : Nat) (x : PV) (v : V) (H2 : Hp), Ext F μ F' μ' → Lay K G F' μ' st H → stay st → xs[i]? = some x → J.yld i H v H2 →
    ∃ F2, Ext F' μ' F2 μ' ∧ Lay K G F2 μ' st H2 ∧ Rep K F2 μ' x v
def KonI (K : PySem.W.Frag) (G F : Hp) (μ : List Addr) (k : List PV → (Store → Prop) → Store → Prop) (R : It → Hp → Prop) : Prop :=
  ∀ (J : It) (H' F' : Hp) (μ' : List Addr) (xs : List PV) (stay : Store → Prop) (st' : Store), Ext F μ F' μ' → Lay K G F' μ' st' H' → Wlk K J F' μ' xs stay → k xs stay st' → R J H'
def rI (K : PySem.W.Frag) (t : VM.TI) : L2.TI := fun σ H R => ∃ G F μ ρ st k, Lay K G F μ st H ∧ EnvR K F μ σ ρ ∧ t ρ st k nox ∧ KonI K G F μ k R
abbrev VI (X : Cx) (tg e : Expr) (t : VM.TI) : Prop := PI X tg e (rI X.K t)
theorem pi_imp {X : Cx} {tg e : Expr} {t t' : L2.TI} (h : PI X tg e t) (hi : ∀ σ H Q, t' σ H Q → t σ H Q) : PI X tg e t' := ⟨fun pins s σ H Q I q => h.run pins s σ H Q I (hi σ H Q q)⟩
section
variable {K : PySem.W.Frag} {G F : Hp} {μ : List Addr} {H : Hp} {st : Store}
theorem stays_self (x : PV) (st : Store) : VM.stays st x st := by cases x <;> exact (by first | trivial | rfl)
theorem wlk_list {a : Addr} {vs : List V} {xs : List PV} (e : F a = some (.lst vs)) (q : RepL K F μ xs vs) : Wlk K (Itl K a) F μ xs (fun _ => True) where
  goes := fun G H F' μ' st i x l _ hi => ⟨vs, vs[i]'(by rw [q.length]; exact hi), .inl (.inl (l.same _ _ (x.same _ _ e))), by simp [q.length, hi]⟩
  stops := fun G H F' μ' st x l _ => ⟨vs, .inl (.inl (l.same _ _ (x.same _ _ e))), by rw [q.length]; exact Nat.le_refl _⟩
  yields := fun G H F' μ' st i y v H2 x l _ hy hv => by
    obtain ⟨rfl, h2⟩ := hv
    obtain ⟨w, h3, h4⟩ := q.get hy
    have h5 := h2 vs (.inl (.inl (l.same _ _ (x.same _ _ e))))
    rw [h3] at h5
    cases h5
    exact ⟨F', Ext.refl, l, h4.mono x⟩
theorem wlk_listM {i0 : Nat} {a : Addr} {xs : List PV} (e : μ[i0]? = some a) (hx : st[i0]? = some (.lst xs)) : Wlk K (Itl K a) F μ xs (VM.stays st (.ref i0)) where
  goes := fun G H F' μ' st' i x l hs hi => by
    have hs' : st'[i0]? = st[i0]? := hs
    obtain ⟨_, vs, h2, q⟩ := l.obj i0 a _ (x.get e) (hs'.trans hx)
    exact ⟨vs, vs[i]'(by rw [q.length]; exact hi), .inl (.inl h2), by simp [q.length, hi]⟩
  stops := fun G H F' μ' st' x l hs => by
    have hs' : st'[i0]? = st[i0]? := hs
    obtain ⟨_, vs, h2, q⟩ := l.obj i0 a _ (x.get e) (hs'.trans hx)
    exact ⟨vs, .inl (.inl h2), by rw [q.length]; exact Nat.le_refl _⟩
  yields := fun G H F' μ' st' i y v H2 x l hs hy hv => by
    have hs' : st'[i0]? = st[i0]? := hs
    obtain ⟨_, vs, h2, q⟩ := l.obj i0 a _ (x.get e) (hs'.trans hx)
    obtain ⟨rfl, h3⟩ := hv
    obtain ⟨w, h4, h5⟩ := q.get hy
    have h6 := h3 vs (.inl (.inl h2))
    rw [h4] at h6
    cases h6
    exact ⟨F', Ext.refl, l, h5⟩
theorem wlk_tup {a : Addr} {vs : List V} {xs : List PV} (e : SqT K F a vs) (q : RepL K F μ xs vs) : Wlk K (Itt K a) F μ xs (fun _ => True) where
  goes := fun G H F' μ' st i x l _ hi => ⟨vs, vs[i]'(by rw [q.length]; exact hi), l.same.seqT (x.same.seqT e), by simp [q.length, hi]⟩
  stops := fun G H F' μ' st x l _ => ⟨vs, l.same.seqT (x.same.seqT e), by rw [q.length]; exact Nat.le_refl _⟩
  yields := fun G H F' μ' st i y v H2 x l _ hy hv => by
    obtain ⟨rfl, h2⟩ := hv
    obtain ⟨w, h3, h4⟩ := q.get hy
    have h5 := h2 vs (l.same.seqT (x.same.seqT e))
    rw [h3] at h5
    cases h5
    exact ⟨F', Ext.refl, l, h4.mono x⟩
theorem Wlk.imp {J : It} {xs : List PV} {stay stay' : Store → Prop} (w : Wlk K J F μ xs stay) (h : ∀ st, stay' st → stay st) : Wlk K J F μ xs stay' where
  goes := fun G H F' μ' st i x l hs => w.goes G H F' μ' st i x l (h st hs)
  stops := fun G H F' μ' st x l hs => w.stops G H F' μ' st x l (h st hs)
  yields := fun G H F' μ' st i y v H2 x l hs => w.yields G H F' μ' st i y v H2 x l (h st hs)
theorem wlk_str {s : List Nat} (o : sOk s) : Wlk K (Its ⟨s.toArray⟩) F μ (VM.signs s) (fun _ => True) where
  goes := fun G H F' μ' st i x l _ hi => by
    show i < s.toArray.size
    simpa [VM.signs] using hi
  stops := fun G H F' μ' st x l _ => by
    show s.toArray.size ≤ _
    simp [VM.signs]
  yields := fun G H F' μ' st i y v H2 x l _ hy hv => by
    obtain ⟨rfl, c, h1, rfl⟩ := hv
    have h2 : s[i]? = some c := by simpa using h1
    have h3 : y = .str [c] := by
      unfold VM.signs at hy
      rw [List.getElem?_map, h2] at hy
      exact (Option.some.inj hy).symm
    subst h3
    exact ⟨F', Ext.refl, l, rep_str.mpr ⟨⟨by simp, fun c' hc => by
      have e : c' = c := by simpa using hc
      rw [e]
      exact o.2 c (List.mem_of_getElem? h2)⟩, rfl⟩⟩
theorem wlk_range {lo : Int} {n : Nat} : Wlk K (Itr lo n) F μ ((List.range n).map fun (i : Nat) => .int (lo + (i : Int))) (fun _ => True) where
  goes := fun G H F' μ' st i x l _ hi => by
    show i < n
    simpa using hi
  stops := fun G H F' μ' st x l _ => by
    show n ≤ _
    simp
  yields := fun G H F' μ' st i y v H2 x l _ hy hv => by
    obtain ⟨rfl, rfl⟩ := hv
    have h3 : y = .int (lo + (i : Int)) := by
      rw [List.getElem?_map] at hy
      cases e : (List.range n)[i]? with
      | none => rw [e] at hy; cases hy
      | some j =>
        rw [e] at hy
        have hj : j = i := by
          rw [List.getElem?_eq_some_iff] at e
          obtain ⟨_, e⟩ := e
          simpa using e.symm
        subst hj
        exact (Option.some.inj hy).symm
    subst h3
    exact ⟨F', Ext.refl, l, rep_int.mpr rfl⟩
theorem items_cases {px : PV} {v : V} {xs : List PV} (l : Lay K G F μ st H) (r : Rep K F μ px v) (h : VM.items st px = some xs) :
    (∃ a vs, v = .ref a ∧ SqL K H a vs ∧ Wlk K (Itl K a) F μ xs (VM.stays st px)) ∨ (∃ a vs, v = .ref a ∧ SqT K H a vs ∧ Wlk K (Itt K a) F μ xs (VM.stays st px)) ∨ (∃ z, v = .str z ∧ Wlk K (Its z) F μ xs (VM.stays st px)) ∨ (∃ ks ys, px = .dct ks ys) ∨ (∃ ks ys, px = .dctT ks ys) ∨ (∃ i ks ys, px = .ref i ∧ (st[i]? = some (.dct ks ys) ∨ st[i]? = some (.dctT ks ys))) := by
  cases px <;> simp only [VM.items] at h <;> try (cases h; done)
  case str s =>
    cases h
    obtain ⟨o, rfl⟩ := rep_str.mp r
    exact .inr (.inr (.inl ⟨_, rfl, (wlk_str o).imp fun _ _ => trivial⟩))
  case tup =>
    cases h
    obtain ⟨a, vs, rfl, e, q⟩ := rep_tup.mp r
    exact .inr (.inl ⟨a, vs, rfl, l.same.seqT e, (wlk_tup e q).imp fun _ _ => trivial⟩)
  case lst =>
    cases h
    obtain ⟨a, vs, rfl, e, q⟩ := rep_lst.mp r
    exact .inl ⟨a, vs, rfl, .inl (.inl (l.same _ _ e)), (wlk_list e q).imp fun _ _ => trivial⟩
  case dct => exact .inr (.inr (.inr (.inl ⟨_, _, rfl⟩)))
  case dctT => exact .inr (.inr (.inr (.inr (.inl ⟨_, _, rfl⟩))))
  case ref i =>
    obtain ⟨a, h1, rfl⟩ := rep_ref.mp r
    split at h
    · rename_i ys e
      cases h
      obtain ⟨_, vs, h2, q⟩ := l.obj i a _ h1 e
      exact .inl ⟨a, vs, rfl, .inl (.inl h2), wlk_listM h1 e⟩
    · rename_i e
      exact .inr (.inr (.inr (.inr (.inr ⟨_, _, _, rfl, .inl e⟩))))
    · rename_i e
      exact .inr (.inr (.inr (.inr (.inr ⟨_, _, _, rfl, .inr e⟩))))
    · cases h
end
section
variable {X : Cx} {a b c e : Expr} {ta tb tc te : VM.TE} {t1 t2 : VM.TT} {pos p2 p : Pos} {es rest : List Expr} {tas : VM.TA} {x : Str} {tg : Expr}
theorem pi_any {tl : L2.TE} (hl : PE X e tl) : PI X tg e (fun σ H R => tl σ H fun x H1 => (∃ a xs, x = .ref a ∧ SqL X.K H1 a xs ∧ R (Itl X.K a) H1) ∨ (∃ a xs, x = .ref a ∧ SqT X.K H1 a xs ∧ R (Itt X.K a) H1) ∨ (∃ z, x = .str z ∧ R (Its z) H1)) := by
  refine ⟨fun pins s σ H R I h => ?_⟩
  refine thn (hl.run pins s σ H _ I h) fun v s1 ⟨x, H1, I1, r1, q1⟩ => ?_
  rcases q1 with ⟨a, xs, rfl, hq, q⟩ | ⟨a, xs, rfl, hq, q⟩ | ⟨z, rfl, q⟩
  · cases r1
    obtain ⟨its, rv, p, hz⟩ := I1.list hq
    refine wpAny_pyIter_list p.isList ?_
    refine ⟨s1.heap.objs.size, [s1.heap.objs.size], _, _, H1, rfl, I1.kept (t' := s1.toks) fun b o e => Heap.get?_push_of_some _ e, turn_list a _, ⟨_, Heap.get?_push_size _ rfl, rfl, rfl⟩, fun b hb => ?_, q⟩
    have e : b = s1.heap.objs.size := by simpa using hb
    subst e
    exact I1.fpOk (Nat.le_refl _) (I1.hok.fresh (Nat.le_refl _))
  · cases r1
    obtain ⟨its, rv, p, hz⟩ := I1.tuple hq
    refine wpAny_pyIter_tuple (show s1.heap.IsTuple a its.toArray from p) ?_
    refine ⟨s1.heap.objs.size, [s1.heap.objs.size], _, _, H1, rfl, I1.kept (t' := s1.toks) fun b o e => Heap.get?_push_of_some _ e, turn_tuple a _, ⟨_, Heap.get?_push_size _ rfl, rfl, rfl⟩, fun b hb => ?_, q⟩
    have e : b = s1.heap.objs.size := by simpa using hb
    subst e
    exact I1.fpOk (Nat.le_refl _) (I1.hok.fresh (Nat.le_refl _))
  · obtain ⟨t, rfl⟩ := r1
    cases ha : z.cps.all (· < 128)
    · exact wpAny_pyIter_wide ha (pi_one (tk := s1.toks) I1 _ (turn_str _ z t "str_iterator" (.inr rfl)) ⟨_, Heap.get?_push_size _ rfl, rfl, rfl⟩ q)
    · exact wpAny_pyIter_ascii ha (pi_one (tk := s1.toks) I1 _ (turn_str _ z t "str_ascii_iterator" (.inl rfl)) ⟨_, Heap.get?_push_size _ rfl, rfl, rfl⟩ q)
/-- not a dict (these have a rule of their own) -/
def noDict (st : Store) : PV → Prop
  | .dct _ _ => False
  | .dctT _ _ => False
  | .ref i => ∃ xs, st[i]? = some (.lst xs)
  | _ => True
theorem vi_e (ha : VE X a ta) : VI X tg a (VM.iE ta) := pi_imp (pi_any ha) fun σ H R h => by
  obtain ⟨G, F, μ, ρ, st, k, l, r, d, hk⟩ := h
  refine bind1 l r d fun x H1 F1 μ1 px st1 e1 l1 r1 p1 q1 => ?_
  split at q1
  · rename_i xs ex
    obtain ⟨q1, q2⟩ := q1
    rcases items_cases l1 p1 ex with ⟨a, vs, rfl, h1, w⟩ | ⟨a, vs, rfl, h1, w⟩ | ⟨z, rfl, w⟩ | ⟨ks, ys, rfl⟩ | ⟨ks, ys, rfl⟩ | ⟨i, ks, ys, rfl, h1 | h1⟩
    · exact .inl ⟨a, vs, rfl, h1, hk _ H1 F1 μ1 xs _ st1 e1 l1 w q2⟩
    · exact .inr (.inl ⟨a, vs, rfl, h1, hk _ H1 F1 μ1 xs _ st1 e1 l1 w q2⟩)
    · exact .inr (.inr ⟨z, rfl, hk _ H1 F1 μ1 xs _ st1 e1 l1 w q2⟩)
    · exact (show False by simpa [VM.isSeq] using q1).elim
    · exact (show False by simpa [VM.isSeq] using q1).elim
    · exact (show False by simpa [VM.isSeq, h1] using q1).elim
    · exact (show False by simpa [VM.isSeq, h1] using q1).elim
  · exact q1.elim
theorem vi_range1 (hg : Gl X "range") (hm : X.mg "range" = none) (ha : VE X a ta) (hs : starEach [a] X.env = [(false, eval a X.env)] := by rfl) : VI X tg (.Call (.Name "range" p) [a] [] pos) (VM.iRange1 ta) :=
  pi_imp (pi_range1 hg hm (pa_cons ha pa_nil hs) hs) fun σ H R h => by
    obtain ⟨G, F, μ, ρ, st, k, l, r, d, hk⟩ := h
    refine bind1 l r d fun x H1 F1 μ1 px st1 e1 l1 r1 p1 q1 => ?_
    split at q1
    · rename_i n
      obtain rfl := rep_int.mp p1
      obtain ⟨h1, q1⟩ := q1
      refine ⟨n, rfl, h1.1, h1.2, hk _ H1 F1 μ1 _ _ st1 e1 l1 ?_ q1⟩
      have w := wlk_range (K := X.K) (F := F1) (μ := μ1) (lo := 0) (n := n.toNat)
      simpa using w
    · exact q1.elim
theorem vi_range2 (hg : Gl X "range") (hm : X.mg "range" = none) (ha : VE X a ta) (hb : VE X b tb) (hs : starEach [a, b] X.env = [(false, eval a X.env), (false, eval b X.env)] := by rfl) (hs2 : starEach [b] X.env = [(false, eval b X.env)] := by rfl) :
    VI X tg (.Call (.Name "range" p) [a, b] [] pos) (VM.iRange2 ta tb) :=
  pi_imp (pi_range2 hg hm (pa_cons ha (pa_cons hb pa_nil hs2) (by rw [hs, hs2])) hs hs2) fun σ H R h => by
    obtain ⟨G, F, μ, ρ, st, k, l, r, d, hk⟩ := h
    refine bind1 l r d fun x H1 F1 μ1 px st1 e1 l1 r1 p1 q1 => bind1 l1 r1 q1 fun y H2 F2 μ2 py st2 e2 l2 r2 p2 q2 => ?_
    split at q2
    · rename_i m n
      obtain rfl := rep_int.mp p1
      obtain rfl := rep_int.mp p2
      obtain ⟨h1, h2, q2⟩ := q2
      exact ⟨m, n, rfl, ⟨h1.1, h1.2, h2.1, h2.2⟩, hk _ H2 F2 μ2 _ _ st2 (e1.trans e2) l2 wlk_range q2⟩
    · exact q2.elim
theorem vi_rev (hg : Gl X "reversed") (hm : X.mg "reversed" = none) (ha : VE X a ta) (hs : starEach [a] X.env = (false, eval a X.env) :: starEach [] X.env := by rfl) : VI X tg (.Call (.Name "reversed" p) [a] [] pos) (VM.iRev ta) :=
  pi_imp (RT.pi_revA hg hm ha hs) fun σ H R h => by
    obtain ⟨G, F, μ, ρ, st, k, l, r, d, hk⟩ := h
    refine bind1 l r d fun x H1 F1 μ1 px st1 e1 l1 r1 p1 q1 => ?_
    split at q1
    · rename_i xs ex
      have key : ∀ (a : Addr) (vs : List V), RepL X.K F1 μ1 xs vs → (∀ (G H F' : Hp) (μ' : List Addr) (st : Store), Ext F1 μ1 F' μ' → Lay X.K G F' μ' st H → VM.stays st1 px st → ∃ ws, H a = some (.lst ws) ∧ RepL X.K F' μ' xs ws) → Wlk X.K (Itv X.K a vs.length) F1 μ1 xs.reverse (VM.stays st1 px) := fun a vs q hst => {
        goes := fun G H F' μ' st i x l hs hi => by
          obtain ⟨ws, h1, h2⟩ := hst G H F' μ' st x l hs
          have hi' : i < xs.length := by simpa using hi
          have e1 := h2.length
          have e2 := q.length
          exact ⟨by omega, ws, ws[vs.length - 1 - i]'(by omega), .inl (.inl h1), by simp [show vs.length - 1 - i < ws.length by omega]⟩
        stops := fun G H F' μ' st x l hs => by
          show vs.length ≤ _
          rw [q.length]
          simp
        yields := fun G H F' μ' st i y v H2 x l hs hy hv => by
          obtain ⟨ws, h1, h2⟩ := hst G H F' μ' st x l hs
          obtain ⟨rfl, h3⟩ := hv
          have hi : i < xs.length := by
            have := (List.getElem?_eq_some_iff.mp hy).1
            simpa using this
          rw [List.getElem?_reverse hi] at hy
          obtain ⟨w, h4, h5⟩ := h2.get hy
          have h6 := h3 ws (.inl (.inl h1))
          rw [q.length, h4] at h6
          cases h6
          exact ⟨F', Ext.refl, l, h5⟩ }
      obtain ⟨a, vs, rfl, hH, q⟩ := asL_rep l1 p1 ex
      refine ⟨a, vs, rfl, .inl ⟨.inl (.inl hH), hk _ H1 F1 μ1 _ _ st1 e1 l1 (key a vs q fun G H F' μ' st x l hs => ?_) q1⟩⟩
      have p1' := p1.mono x
      have ex' : VM.asL st px = some xs := by
        cases px <;> simp only [VM.asL] at ex ⊢ <;> try exact ex
        rename_i i
        have hs' : st[i]? = st1[i]? := hs
        rw [hs']
        exact ex
      obtain ⟨a', ws, h1, h2, h3⟩ := asL_rep l p1' ex'
      cases h1
      exact ⟨ws, h2, h3⟩
    · exact q1.elim
def rG (K : PySem.W.Frag) (g : VM.TG) (sl : List Nat) : L2.TG := fun v σ H Q => ∃ G F μ ρ st k px, Lay K G F μ st H ∧ EnvR K F μ σ ρ ∧ Rep K F μ px v ∧ g px ρ st k ∧
  ∀ σ' ρ' st', Lay K G F μ st' H → EnvR K F μ σ' ρ' → σ'.length = σ.length → (∀ j, j ∉ sl → σ'[j]? = σ[j]?) → k ρ' st' → Q σ' H
abbrev VG (X : Cx) (tg : Expr) (g : VM.TG) (sl : List Nat) : Prop := PG X tg (rG X.K g sl)
def rGs (K : PySem.W.Frag) (g : List PV → VM.Env → Store → (VM.Env → Store → Prop) → Prop) (sl : List Nat) : L2.TGs := fun vs σ H Q => ∃ G F μ ρ st k pxs, Lay K G F μ st H ∧ EnvR K F μ σ ρ ∧ RepL K F μ pxs vs ∧ g pxs ρ st k ∧
  ∀ σ' ρ' st', Lay K G F μ st' H → EnvR K F μ σ' ρ' → σ'.length = σ.length → (∀ j, j ∉ sl → σ'[j]? = σ[j]?) → k ρ' st' → Q σ' H
theorem pg_imp {tg : Expr} {t t' : L2.TG} (h : PG X tg t) (hi : ∀ v σ H Q, t' v σ H Q → t v σ H Q) : PG X tg t' := ⟨fun pins s σ H v u Q I r q => h.run pins s σ H v u Q I r (hi v σ H Q q)⟩
theorem pgs_imp {ts : List Expr} {t t' : L2.TGs} (h : PGs X ts t) (hi : ∀ v σ H Q, t' v σ H Q → t v σ H Q) : PGs X ts t' := ⟨fun pins s σ H v u Q I r q => h.run pins s σ H v u Q I r (hi v σ H Q q)⟩
theorem vg_name {i : Nat} {x : Str} (hN : X.N.Nodup) (hi : X.N[i]? = some x) (hx : Loc X.env.scope x) (hf : X.fn x = true ∨ X.env.scope.names.lookup x = some .local) : VG X (.Name x pos) (VM.gName i) [i] := pg_imp (pg_name hN hi hx hf) fun v σ H Q h => by
  obtain ⟨G, F, μ, ρ, st, k, px, l, r, p, d, hk⟩ := h
  exact hk _ _ st l (r.set i p) (by simp) (fun j hj => List.getElem?_set_ne (fun z => hj (by simp [z]))) d
theorem vgs_nil : PGs X [] (rGs X.K (VM.gEach []) []) := pgs_imp pgs_nil fun vs σ H Q h => by
  obtain ⟨G, F, μ, ρ, st, k, pxs, l, r, p, d, hk⟩ := h
  cases pxs with
  | nil => exact ⟨repL_nil.mp p, hk σ ρ st l r rfl (fun _ _ => rfl) d⟩
  | cons => exact d.elim
theorem vgs_cons {es : List Expr} {g : VM.TG} {gs : List VM.TG} {sl sls : List Nat} (h1 : VG X e g sl) (h2 : PGs X es (rGs X.K (VM.gEach gs) sls)) (hs : (assignEach (e :: es) X.env).map (·.2) = assign e X.env :: (assignEach es X.env).map (·.2) := by rfl) :
    PGs X (e :: es) (rGs X.K (VM.gEach (g :: gs)) (sl ++ sls)) := pgs_imp (pgs_cons h1 h2 hs) fun vs σ H Q h => by
  obtain ⟨G, F, μ, ρ, st, k, pxs, l, r, p, d, hk⟩ := h
  cases pxs with
  | nil => exact d.elim
  | cons px pxs =>
    obtain ⟨v, w, rfl, p1, p2⟩ := repL_cons.mp p
    refine ⟨v, w, rfl, G, F, μ, ρ, st, _, px, l, r, p1, d, fun σ1 ρ1 st1 l1 r1 hl1 ho1 q1 => ?_⟩
    refine ⟨G, F, μ, ρ1, st1, k, pxs, l1, r1, p2, q1, fun σ2 ρ2 st2 l2 r2 hl2 ho2 q2 => ?_⟩
    exact hk σ2 ρ2 st2 l2 r2 (hl2.trans hl1) (fun j hj => (ho2 j fun z => hj (List.mem_append_right _ z)).trans (ho1 j fun z => hj (List.mem_append_left _ z))) q2
theorem vg_tup {es : List Expr} {gs : List VM.TG} {sl : List Nat} {kt : Nat} (hc : X.calm = true) (h : PGs X es (rGs X.K (VM.gEach gs) sl)) (hn : (assignEach es X.env).length = gs.length := by rfl) (hst : (assignEach es X.env).findIdx? (·.1) = none := by rfl) : VG X (.Tuple es kt pos) (VM.gTup gs) sl :=
  pg_imp (pg_tup hc h hn hst) fun v σ H Q h => by
    obtain ⟨G, F, μ, ρ, st, k, px, l, r, p, d, hk⟩ := h
    unfold VM.gTup at d
    split at d
    · rename_i xs
      obtain ⟨a, vs, rfl, e, q⟩ := rep_tup.mp p
      exact ⟨a, vs, rfl, l.same.seqT e, by rw [q.length]; exact d.1, G, F, μ, ρ, st, k, xs, l, r, q, d.2, hk⟩
    · exact d.elim
end
end VS
end
section
namespace VS
open PySem PySem.Spec PyProof.Rows L2
open VM (PV SO Store)
section
variable {K : PySem.W.Frag} {G F : Hp} {μ : List Addr} {H : Hp} {st : Store}
/-- a list or a tuple, through what goes on -/
theorem sq_rep {px : PV} {v : V} {xs : List PV} (l : Lay K G F μ st H) (r : Rep K F μ px v) (h : VM.sq st px = some xs) :
    ∃ b a, v = .ref a ∧ ∀ (G' H' F' : Hp) (μ' : List Addr) (st' : Store), Ext F μ F' μ' → Lay K G' F' μ' st' H' → VM.stays st px st' → ∃ vs, SqB b K H' a vs ∧ RepL K F' μ' xs vs := by
  by_cases ht : ∃ ys, px = .tup ys
  · obtain ⟨ys, rfl⟩ := ht
    cases h
    obtain ⟨a, vs, rfl, e, q⟩ := rep_tup.mp r
    exact ⟨false, a, rfl, fun G' H' F' μ' st' x l' _ => ⟨vs, l'.same.seqT (x.same.seqT e), q.mono x⟩⟩
  · have h2 : VM.asL st px = some xs := by
      cases px <;> first | exact h | exact (ht ⟨_, rfl⟩).elim
    obtain ⟨a, vs, rfl, _, _⟩ := asL_rep l r h2
    refine ⟨true, a, rfl, fun G' H' F' μ' st' x l' hs => ?_⟩
    have h3 : VM.asL st' px = some xs := by
      cases px <;> simp only [VM.asL] at h2 ⊢ <;> try exact h2
      rename_i i
      have hs' : st'[i]? = st[i]? := hs
      rw [hs']
      exact h2
    obtain ⟨a', ws, e1, e2, e3⟩ := asL_rep l' (r.mono x) h3
    cases e1
    exact ⟨ws, .inl (.inl e2), e3⟩
theorem Lay.guard (l : Lay K G F μ st H) {D : Addr} {o : HO} (h : H D = none) : Lay K (upd G D o) F μ st (upd H D o) where
  gd := fun a u e => by
    by_cases q : a = D
    · subst q
      rw [upd_same] at e ⊢
      exact ⟨e, l.free h, l.notin h⟩
    · rw [upd_ne q] at e ⊢
      exact l.gd a u e
  same := fun b v e => by rw [upd_ne (ne_of_none (l.same b v e) h)]; exact l.same b v e
  len := l.len
  nd := l.nd
  there := fun a ha => by
    by_cases q : a = D
    · exact ⟨o, by rw [q]; exact upd_same⟩
    · rw [upd_ne q]
      exact l.there a ha
  obj := fun i a u h1 h2 => by
    have q : a ≠ D := fun z => l.notin h (z ▸ List.mem_of_getElem? h1)
    exact (l.obj i a u h1 h2).mono Ext.refl rfl (upd_ne q)
theorem Lay.gset {D : Addr} {o o' : HO} (l : Lay K (upd G D o) F μ st H) : Lay K (upd G D o') F μ st (upd H D o') := by
  obtain ⟨h1, h2, h3⟩ := l.gd D o upd_same
  exact {
    gd := fun a u e => by
      by_cases q : a = D
      · subst q
        rw [upd_same] at e ⊢
        exact ⟨e, h2, h3⟩
      · rw [upd_ne q] at e ⊢
        exact l.gd a u (by rw [upd_ne q]; exact e)
    same := fun b v e => by rw [upd_ne (ne_of_none e h2)]; exact l.same b v e
    len := l.len
    nd := l.nd
    there := fun a ha => by
      by_cases q : a = D
      · exact ⟨o', by rw [q]; exact upd_same⟩
      · rw [upd_ne q]
        exact l.there a ha
    obj := fun i a u e1 e2 => by
      have q : a ≠ D := fun z => h3 (z ▸ List.mem_of_getElem? e1)
      exact (l.obj i a u e1 e2).mono Ext.refl rfl (upd_ne q) }
theorem Lay.unguard {D : Addr} {o : HO} (l : Lay K (upd G D o) F μ st H) (hG : G D = none) : Ext F μ (upd F D o) μ ∧ Lay K G (upd F D o) μ st H := by
  obtain ⟨h1, h2, h3⟩ := l.gd D o upd_same
  have x : Ext F μ (upd F D o) μ := ⟨fun a u e => by rw [upd_ne (ne_of_none e h2)]; exact e, [], by simp⟩
  exact ⟨x, {
    gd := fun a u e => by
      have q : a ≠ D := ne_of_none e hG
      obtain ⟨k1, k2, k3⟩ := l.gd a u (by rw [upd_ne q]; exact e)
      exact ⟨k1, by rw [upd_ne q]; exact k2, k3⟩
    same := fun a u e => by
      by_cases q : a = D
      · subst q
        rw [upd_same] at e
        cases e
        exact h1
      · rw [upd_ne q] at e
        exact l.same a u e
    len := l.len
    nd := l.nd
    there := l.there
    obj := fun i a u e1 e2 => by
      have q : a ≠ D := fun z => h3 (z ▸ List.mem_of_getElem? e1)
      exact (l.obj i a u e1 e2).mono x (upd_ne q) rfl }⟩
theorem wipe_at : ∀ {vs : List Nat} {σ : L2.St} {j : Nat}, j ∈ vs → (L2.wipe σ vs)[j]? = if j < σ.length then some none else none
  | [], _, _, h => by cases h
  | v :: vs, σ, j, h => by
    unfold L2.wipe
    by_cases e : v = j
    · subst e
      by_cases hj : v < σ.length
      · rw [if_pos hj, List.getElem?_set_self (by rw [L2.wipe_length]; exact hj)]
      · rw [if_neg hj, List.getElem?_eq_none (by rw [List.length_set, L2.wipe_length]; omega)]
    · rw [List.getElem?_set_ne e]
      exact wipe_at ((List.mem_cons.mp h).resolve_left (fun z => e z.symm))
theorem wipe_eq {vs : List Nat} {σ τ : L2.St} (hl : τ.length = σ.length) (h : ∀ j, j ∉ vs → τ[j]? = (L2.wipe σ vs)[j]?) : L2.wipe τ vs = L2.wipe σ vs := by
  apply List.ext_getElem?
  intro j
  by_cases hj : j ∈ vs
  · rw [wipe_at hj, wipe_at hj, hl]
  · rw [L2.wipe_out hj, h j hj]
end
section
variable {X : Cx} {a b c e : Expr} {ta tb tc te : VM.TE} {t1 t2 : VM.TT} {pos p2 p : Pos} {es rest : List Expr} {tas : VM.TA} {x : Str} {tg : Expr}
theorem vi_zip {elts : List Expr} {kk : Nat} {tpos : Pos} (hg : Gl X "zip") (hm : X.mg "zip" = none) (ha : VE X a ta) (hb : VE X b tb) (hs : starEach [a, b] X.env = (false, eval a X.env) :: starEach [b] X.env := by rfl) (hs2 : starEach [b] X.env = (false, eval b X.env) :: starEach [] X.env := by rfl) (hpl : (backTo pos (starEach [b] X.env)).any (·.1) = false := by rfl) :
    VI X (.Tuple elts kk tpos) (.Call (.Name "zip" p) [a, b] [] pos) (VM.iZip ta tb) :=
  pi_imp (pi_zipB hg hm (pa_cons ha (pa_cons hb pa_nil hs2) hs) hs hpl) fun σ H R h => by
    obtain ⟨G, F, μ, ρ, st, k, l, r, d, hk⟩ := h
    refine bind1 l r d fun x H1 F1 μ1 px st1 e1 l1 r1 p1 q1 => bind1 l1 r1 q1 fun y H2 F2 μ2 py st2 e2 l2 r2 p2 q2 => ?_
    split at q2
    · rename_i xs ys hx hy
      obtain ⟨b1, a, rfl, f1⟩ := sq_rep l2 (p1.mono e2) hx
      obtain ⟨b2, b, rfl, f2⟩ := sq_rep l2 p2 hy
      obtain ⟨vs, s1, g1⟩ := f1 G H2 F2 μ2 st2 Ext.refl l2 (stays_self _ _)
      obtain ⟨ws, s2, g2⟩ := f2 G H2 F2 μ2 st2 Ext.refl l2 (stays_self _ _)
      refine ⟨a, b, vs, ws, b1, b2, rfl, s1, s2, hk _ H2 F2 μ2 _ _ st2 (e1.trans e2) l2 ?_ q2⟩
      exact {
        goes := fun G H F' μ' st i x l hs hi => by
          obtain ⟨vs, s1, g1⟩ := f1 G H F' μ' st x l hs.1
          obtain ⟨ws, s2, g2⟩ := f2 G H F' μ' st x l hs.2
          rw [List.length_zipWith] at hi
          have l1 := g1.length
          have l2 := g2.length
          exact ⟨vs, ws, vs[i]'(by omega), ws[i]'(by omega), s1, s2, by simp [show i < vs.length by omega], by simp [show i < ws.length by omega]⟩
        stops := fun G H F' μ' st x l hs => by
          obtain ⟨vs, s1, g1⟩ := f1 G H F' μ' st x l hs.1
          obtain ⟨ws, s2, g2⟩ := f2 G H F' μ' st x l hs.2
          exact ⟨vs, ws, s1, s2, by rw [List.length_zipWith, g1.length, g2.length]⟩
        yields := fun G H F' μ' st i y v H2 x l hs hy hv => by
          obtain ⟨vs, s1, g1⟩ := f1 G H F' μ' st x l hs.1
          obtain ⟨ws, s2, g2⟩ := f2 G H F' μ' st x l hs.2
          obtain ⟨T, u, w, rfl, nT, rfl, k1, k2⟩ := hv
          rw [List.getElem?_zipWith] at hy
          cases ex : xs[i]? with
          | none => rw [ex] at hy; cases hy
          | some p =>
            cases ey : ys[i]? with
            | none => rw [ex, ey] at hy; cases hy
            | some q =>
              rw [ex, ey] at hy
              cases hy
              obtain ⟨u', m1, m2⟩ := g1.get ex
              obtain ⟨w', m3, m4⟩ := g2.get ey
              have n1 := k1 vs s1
              have n2 := k2 ws s2
              rw [m1] at n1
              rw [m3] at n2
              cases n1
              cases n2
              refine ⟨upd F' T (.tup [u, w]), ext_upd l nT, l.new nT, rep_tup.mpr ⟨T, [u, w], rfl, .inl (.inl upd_same), ?_⟩⟩
              exact repL_cons.mpr ⟨u, [w], rfl, m2.mono (ext_upd l nT), repL_cons.mpr ⟨w, [], rfl, m4.mono (ext_upd l nT), repL_nil.mpr rfl⟩⟩ }
    · exact q2.elim

theorem lc_gen {wi : L2.TI} {i : VM.TI} {g : VM.TG} {t : VM.TT} {te : VM.TE} {vs sl : List Nat} (hsl : ∀ j ∈ sl, j ∈ vs) {K : PySem.W.Frag} {σ : L2.St} {H : Hp} {Q : VK} (h : ∃ G F μ ρ st, ∃ k : List PV → Store → Prop, Lay K G F μ st H ∧ EnvR K F μ σ ρ ∧ i ρ st (fun xs stay st => VM.compGo g t te vs stay xs [] (VM.wipe ρ vs) st k) nox ∧ ∀ (D : Addr) (H' F' : Hp) (μ' : List Addr) (acc : List PV) (ws : List V) (st' : Store), Ext F μ F' μ' → G D = none → Lay K (upd G D (.lst ws)) F' μ' st' H' → RepL K F' μ' acc ws → k acc st' → Q (.ref D) H') :
    tLc (VS.rI K i) (rG K g sl) (rT K t) (rE K te) vs σ H Q := by
  obtain ⟨G, F, μ, ρ, st, k, l, r, d, hk⟩ := h
  refine ⟨G, F, μ, ρ, st, _, l, r, d, fun J H1 F1 μ1 xs stay st1 e1 l1 w q => ?_⟩
  intro D hD
  have hG : G D = none := by
    cases ge : G D with
    | none => rfl
    | some o =>
      have := (l1.gd D o ge).1
      rw [hD] at this
      cases this
  refine ⟨fun i m H => m = xs.length - i ∧ i ≤ xs.length ∧ ∃ F' μ' acc ws st', Ext F1 μ1 F' μ' ∧ Lay K (upd G D (.lst ws)) F' μ' st' H ∧ RepL K F' μ' acc ws ∧ VM.compGo g t te vs stay (xs.drop i) acc (VM.wipe ρ vs) st' k,
    ⟨xs.length, by simp, Nat.zero_le _, F1, μ1, [], [], st1, Ext.refl, l1.guard hD, repL_nil.mpr rfl, q⟩, ?_⟩
  rintro i m H ⟨rfl, hi, F', μ', acc, ws, st', e2, l2, ra, q2⟩
  have rr : ∀ {F2 : Hp} {μ2 : List Addr}, Ext F μ F2 μ2 → EnvR K F2 μ2 (L2.wipe σ vs) (VM.wipe ρ vs) := fun x => (r.mono x).wipe vs
  by_cases hlt : i < xs.length
  · rw [List.drop_eq_getElem_cons hlt] at q2
    obtain ⟨hstay, q2⟩ := q2
    refine .inr ⟨w.goes _ H F' μ' st' i e2 l2 hstay hlt, fun H' => xs.length - (i + 1) = xs.length - (i + 1) ∧ i + 1 ≤ xs.length ∧ ∃ F' μ' acc ws st', Ext F1 μ1 F' μ' ∧ Lay K (upd G D (.lst ws)) F' μ' st' H' ∧ RepL K F' μ' acc ws ∧ VM.compGo g t te vs stay (xs.drop (i + 1)) acc (VM.wipe ρ vs) st' k, fun H' p' => ⟨xs.length - (i + 1), by omega, p'⟩, fun x H' hy => ?_⟩
    obtain ⟨F3, e3, l3, rx⟩ := w.yields _ H F' μ' st' i xs[i] x H' e2 l2 hstay (by simp [hlt]) hy
    refine ⟨_, F3, μ', _, st', _, xs[i], l3, rr ((e1.trans e2).trans e3), rx, q2, fun σ4 ρ4 st4 l4 r4 len4 out4 q4 => ?_⟩
    refine ⟨wipe_eq (len4.trans (L2.wipe_length _ _)) fun j hj => out4 j fun z => hj (hsl j z), ?_⟩
    refine bindT l4 r4 q4 fun b H5 F5 μ5 st5 e5 l5 r5 q5 => ?_
    cases b with
    | true =>
      rw [if_pos rfl] at q5 ⊢
      refine bind1 l5 r5 q5 fun y H6 F6 μ6 py st6 e6 l6 r6 p6 q6 => ?_
      obtain ⟨hz, q6⟩ := q6
      have ra' := ((ra.mono e3).mono e5).mono e6
      refine ⟨ws, (l6.gd D _ upd_same).1, by rw [ra.length, sizeLine_eq]; exact hz, rfl, by omega, F6, μ6, acc ++ [py], ws ++ [y], st6, ((e2.trans e3).trans e5).trans e6, ?_, ra'.append (repL_cons.mpr ⟨y, [], rfl, p6, repL_nil.mpr rfl⟩), q6⟩
      exact l6.gset
    | false =>
      rw [if_neg Bool.false_ne_true] at q5 ⊢
      exact ⟨rfl, by omega, F5, μ5, acc, ws, st5, (e2.trans e3).trans e5, l5, (ra.mono e3).mono e5, q5⟩
  · have e : i = xs.length := by omega
    subst e
    rw [List.drop_length] at q2
    refine .inl ⟨w.stops _ H F' μ' st' e2 l2 q2.1, ?_⟩
    exact hk D H F' μ' acc ws st' (e1.trans e2) hG l2 ra q2.2
theorem lc_imp {wi : L2.TI} {i : VM.TI} {g : VM.TG} {t : VM.TT} {te : VM.TE} {vs sl : List Nat} (hsl : ∀ j ∈ sl, j ∈ vs) {K : PySem.W.Frag} {σ : L2.St} {H : Hp} {Q : VK} (h : rE K (VM.eComp i g t te vs) σ H Q) :
    tLc (VS.rI K i) (rG K g sl) (rT K t) (rE K te) vs σ H Q := by
  obtain ⟨G, F, μ, ρ, st, k, l, r, d, hk⟩ := h
  refine lc_gen (wi := fun _ _ _ => True) hsl ⟨G, F, μ, ρ, st, _, l, r, d, fun D H' F' μ' acc ws st' e hG l2 ra q => ?_⟩
  obtain ⟨e3, l3⟩ := l2.unguard hG
  exact hk (.ref D) H' _ μ' (.lst acc) st' (e.trans e3) l3 (rep_lst.mpr ⟨D, ws, rfl, upd_same, ra.mono e3⟩) q
theorem Lay.ungset {K : PySem.W.Frag} {G F : Hp} {μ : List Addr} {st : Store} {H : Hp} {D : Addr} {ws : List V} {acc : List PV} (l : Lay K (upd G D (.lst ws)) F μ st H) (hG : G D = none) (ra : RepL K F μ acc ws) : Lay K G F (μ ++ [D]) (st ++ [.lst acc]) H := by
  obtain ⟨h1, h2, h3⟩ := l.gd D _ upd_same
  exact {
    gd := fun a u e => by
      have q : a ≠ D := ne_of_none e hG
      obtain ⟨k1, k2, k3⟩ := l.gd a u (by rw [upd_ne q]; exact e)
      exact ⟨k1, k2, fun z => (List.mem_append.mp z).elim k3 fun z => q (by simpa using z)⟩
    same := l.same
    len := by simp [l.len]
    nd := List.nodup_append.mpr ⟨l.nd, by simp, fun a ha b hb => by
      have e : b = D := by simpa using hb
      subst e
      exact fun z => h3 (z ▸ ha)⟩
    there := fun a ha => by
      rcases List.mem_append.mp ha with ha | ha
      · exact l.there a ha
      · have e : a = D := by simpa using ha
        exact ⟨_, by rw [e]; exact h1⟩
    obj := fun i a v e1 e2 => by
      by_cases hi : i < μ.length
      · rw [List.getElem?_append_left hi] at e1
        rw [List.getElem?_append_left (by rw [← l.len]; exact hi)] at e2
        exact (l.obj i a v e1 e2).mono (ext_alloc D) rfl rfl
      · have e : i = μ.length := by
          have := (List.getElem?_eq_some_iff.mp e1).1
          simp at this
          omega
        subst e
        rw [List.getElem?_append_right (Nat.le_refl _)] at e1
        rw [l.len, List.getElem?_append_right (Nat.le_refl _)] at e2
        simp at e1 e2
        subst e1 e2
        exact ⟨h2, ws, h1, ra.mono (ext_alloc D)⟩ }
theorem lc_impM {wi : L2.TI} {i : VM.TI} {g : VM.TG} {t : VM.TT} {te : VM.TE} {vs sl : List Nat} (hsl : ∀ j ∈ sl, j ∈ vs) {K : PySem.W.Frag} {σ : L2.St} {H : Hp} {Q : VK} (h : rE K (VM.eCompM i g t te vs) σ H Q) :
    tLc (VS.rI K i) (rG K g sl) (rT K t) (rE K te) vs σ H Q := by
  obtain ⟨G, F, μ, ρ, st, k, l, r, d, hk⟩ := h
  refine lc_gen (wi := fun _ _ _ => True) hsl ⟨G, F, μ, ρ, st, _, l, r, d, fun D H' F' μ' acc ws st' e hG l2 ra q => ?_⟩
  refine hk (.ref D) H' F' (μ' ++ [D]) (.ref st'.length) _ (e.trans (ext_alloc D)) (l2.ungset hG ra) (rep_ref.mpr ⟨D, ?_, rfl⟩) q
  rw [← l2.len, List.getElem?_append_right (Nat.le_refl _)]
  simp
abbrev BX (X : Cx) (scope : Scope) : Shared → Hp → Addr → List (Str × Addr) → List Addr → Cx := fun s H C cl fp => X.blk s H scope (compEnvC scope cl C X.env) fp
theorem ve_comp {elt iter : Expr} {ifs : List Expr} {scope : Scope} {own : List (Str × Nat)} {i : VM.TI} {g : VM.TG} {t : VM.TT} {sl : List Nat} (hc : X.calm = true) (hN : X.N.Nodup) (ok : BlkOk X.N X.env.scope scope own) (hi : VI X tg iter i) (hsl : ∀ j ∈ sl, j ∈ own.map (·.2))
    (hg : ∀ s H C cl fp, VG (BX X scope s H C cl fp) tg g sl) (ht : ∀ s H C cl fp, PTs (BX X scope s H C cl fp) ifs (rT X.K t)) (he : ∀ s H C cl fp, VE (BX X scope s H C cl fp) elt te) (hs : ∀ x, foldedSetIterable iter X.env x = pure x := by intro _; rfl) :
    VE X (.ListComp elt [⟨tg, iter, ifs, 0⟩] scope pos) (VM.eComp i g t te (own.map (·.2))) := pe_imp (pe_lc hc hN hi ok hg ht he hs) fun σ H Q h => lc_imp (wi := fun _ _ _ => True) hsl h
theorem ve_compM {elt iter : Expr} {ifs : List Expr} {scope : Scope} {own : List (Str × Nat)} {i : VM.TI} {g : VM.TG} {t : VM.TT} {sl : List Nat} (hc : X.calm = true) (hN : X.N.Nodup) (ok : BlkOk X.N X.env.scope scope own) (hi : VI X tg iter i) (hsl : ∀ j ∈ sl, j ∈ own.map (·.2))
    (hg : ∀ s H C cl fp, VG (BX X scope s H C cl fp) tg g sl) (ht : ∀ s H C cl fp, PTs (BX X scope s H C cl fp) ifs (rT X.K t)) (he : ∀ s H C cl fp, VE (BX X scope s H C cl fp) elt te) (hs : ∀ x, foldedSetIterable iter X.env x = pure x := by intro _; rfl) :
    VE X (.ListComp elt [⟨tg, iter, ifs, 0⟩] scope pos) (VM.eCompM i g t te (own.map (·.2))) := pe_imp (pe_lc hc hN hi ok hg ht he hs) fun σ H Q h => lc_impM (wi := fun _ _ _ => True) hsl h
theorem vts_nil : PTs X [] (rT X.K VM.tYes) := by
  refine ⟨fun pins s σ H Q I h => ?_⟩
  obtain ⟨G, F, μ, ρ, st, k, l, r, d, hk⟩ := h
  exact pts_nil.run pins s σ H Q I (hk true H F μ st Ext.refl l d)
theorem vts_one (h : VT X c t1) : PTs X [c] (rT X.K t1) := pts_one h
def KonR (K : PySem.W.Frag) (G F : Hp) (μ : List Addr) (k : VM.Env → Store → Prop) (Q : L2.St → Hp → Prop) : Prop := ∀ (σ' : L2.St) (H' F' : Hp) (μ' : List Addr) (ρ' : VM.Env) (st' : Store), Ext F μ F' μ' → Lay K G F' μ' st' H' → EnvR K F' μ' σ' ρ' → k ρ' st' → Q σ' H'
theorem KonR.mono {K : PySem.W.Frag} {G F F' : Hp} {μ μ' : List Addr} {k : VM.Env → Store → Prop} {Q : L2.St → Hp → Prop} (h : KonR K G F μ k Q) (e : Ext F μ F' μ') : KonR K G F' μ' k Q := fun σ' H' F2 μ2 ρ' st' e2 => h σ' H' F2 μ2 ρ' st' (e.trans e2)
structure KonS (K : PySem.W.Frag) (G F : Hp) (μ : List Addr) (DV : VM.Ends) (D : L2.Ends) : Prop where
  nx : KonR K G F μ DV.nx D.nx
  rt : Kon K G F μ DV.rt D.rt
  bk : KonR K G F μ DV.bk D.bk
  ct : KonR K G F μ DV.ct D.ct
  xk : DV.xk = nox
theorem KonS.mono {K : PySem.W.Frag} {G F F' : Hp} {μ μ' : List Addr} {DV : VM.Ends} {D : L2.Ends} (h : KonS K G F μ DV D) (e : Ext F μ F' μ') : KonS K G F' μ' DV D := ⟨h.nx.mono e, h.rt.mono e, h.bk.mono e, h.ct.mono e, h.xk⟩
def rS (K : PySem.W.Frag) (t : VM.TS) : L2.TS := fun D σ H => ∃ G F μ ρ st DV, Lay K G F μ st H ∧ EnvR K F μ σ ρ ∧ t DV ρ st ∧ KonS K G F μ DV D
abbrev VSt (X : Cx) (s : Stmt) (t : VM.TS) : Prop := PS X s (rS X.K t)
abbrev VB (X : Cx) (s : List Stmt) (t : VM.TS) : Prop := PSs X s (rS X.K t)
theorem ps_imp {s : Stmt} {t t' : L2.TS} (h : PS X s t) (hi : ∀ D σ H, t' D σ H → t D σ H) : PS X s t' := ⟨fun pins s σ H D I q => h.run pins s σ H D I (hi D σ H q)⟩
theorem pss_imp {s : List Stmt} {t t' : L2.TS} (h : PSs X s t) (hi : ∀ D σ H, t' D σ H → t D σ H) : PSs X s t' := ⟨fun pins s σ H D I q => h.run pins s σ H D I (hi D σ H q)⟩
variable {s1 : Stmt} {ss ss2 : List Stmt} {u u2 : VM.TS}
theorem vb_nil : VB X [] VM.sNil := pss_imp pss_nil fun D σ H h => by
  obtain ⟨G, F, μ, ρ, st, DV, l, r, d, hk⟩ := h
  exact hk.nx σ H F μ ρ st Ext.refl l r d
theorem vb_cons (h1 : VSt X s1 u) (h2 : VB X ss u2) : VB X (s1 :: ss) (VM.sCons u u2) := pss_imp (pss_cons h1 h2) fun D σ H h => by
  obtain ⟨G, F, μ, ρ, st, DV, l, r, d, hk⟩ := h
  exact ⟨G, F, μ, ρ, st, _, l, r, d, ⟨fun σ' H' F' μ' ρ' st' e l' r' q => ⟨G, F', μ', ρ', st', DV, l', r', q, hk.mono e⟩, hk.rt, hk.bk, hk.ct, hk.xk⟩⟩
theorem vb_one (h1 : VSt X s1 u) : VB X [s1] u := pss_one h1
theorem vs_doc {x j p1 p2} : VSt X (.Expr (.Constant (.str x) j p1) p2) VM.sNil := ps_imp ps_doc fun D σ H h => by
  obtain ⟨G, F, μ, ρ, st, DV, l, r, d, hk⟩ := h
  exact hk.nx σ H F μ ρ st Ext.refl l r d
theorem vs_pass : VSt X (.Pass pos) VM.sNil := ps_imp ps_pass fun D σ H h => by
  obtain ⟨G, F, μ, ρ, st, DV, l, r, d, hk⟩ := h
  exact hk.nx σ H F μ ρ st Ext.refl l r d
theorem vs_break : VSt X (.Break pos) VM.sBreak := ps_imp ps_break fun D σ H h => by
  obtain ⟨G, F, μ, ρ, st, DV, l, r, d, hk⟩ := h
  exact hk.bk σ H F μ ρ st Ext.refl l r d
theorem vs_cont : VSt X (.Continue pos) VM.sCont := ps_imp ps_continue fun D σ H h => by
  obtain ⟨G, F, μ, ρ, st, DV, l, r, d, hk⟩ := h
  exact hk.ct σ H F μ ρ st Ext.refl l r d
theorem vs_never : VSt X s1 VM.sNever := ps_imp ps_never fun D σ H h => by
  obtain ⟨G, F, μ, ρ, st, DV, l, r, d, hk⟩ := h
  exact d.elim
theorem vb_never : VB X ss VM.sNever := pss_imp pss_never fun D σ H h => by
  obtain ⟨G, F, μ, ρ, st, DV, l, r, d, hk⟩ := h
  exact d.elim
theorem vs_expr (he : VE X e te) (hs : swapsWith e none pos.line X.env = pure false := by rfl) : VSt X (.Expr e pos) (VM.sExpr te) := ps_imp (ps_expr he hs) fun D σ H h => by
  obtain ⟨G, F, μ, ρ, st, DV, l, r, d, hk⟩ := h
  unfold VM.sExpr at d
  rw [hk.xk] at d
  exact bind1 l r d fun x H1 F1 μ1 px st1 e1 l1 r1 p1 q1 => hk.nx σ H1 F1 μ1 ρ st1 e1 l1 r1 q1
theorem vs_ret (he : VE X e te) : VSt X (.Return (some e) pos) (VM.sRet te) := ps_imp (ps_ret he) fun D σ H h => by
  obtain ⟨G, F, μ, ρ, st, DV, l, r, d, hk⟩ := h
  unfold VM.sRet at d
  rw [hk.xk] at d
  exact bind1 l r d fun x H1 F1 μ1 px st1 e1 l1 r1 p1 q1 => hk.rt x H1 F1 μ1 px st1 e1 l1 p1 q1
theorem vs_retN : VSt X (.Return none pos) VM.sRetN := ps_imp ps_retN fun D σ H h => by
  obtain ⟨G, F, μ, ρ, st, DV, l, r, d, hk⟩ := h
  exact hk.rt _ H F μ .non st Ext.refl l (rep_non.mpr rfl) d
theorem vs_if (hc : VT X c t1) (ha : VB X ss u) (hb : VB X ss2 u2) : VSt X (.If c ss ss2 pos) (VM.sIf t1 u u2) := ps_imp (ps_if hc ha hb) fun D σ H h => by
  obtain ⟨G, F, μ, ρ, st, DV, l, r, d, hk⟩ := h
  unfold VM.sIf at d
  rw [hk.xk] at d
  refine bindT l r d fun b H1 F1 μ1 st1 e1 l1 r1 q1 => ?_
  cases b with
  | true =>
    rw [if_pos rfl] at q1 ⊢
    exact ⟨G, F1, μ1, ρ, st1, DV, l1, r1, q1, hk.mono e1⟩
  | false =>
    rw [if_neg Bool.false_ne_true] at q1 ⊢
    exact ⟨G, F1, μ1, ρ, st1, DV, l1, r1, q1, hk.mono e1⟩
theorem asg_imp {g : VM.TG} {sl : List Nat} {K : PySem.W.Frag} {D : L2.Ends} {σ : L2.St} {H : Hp} (h : rS K (VM.sSet g te) D σ H) : tAsg (rE K te) (rG K g sl) D σ H := by
  obtain ⟨G, F, μ, ρ, st, DV, l, r, d, hk⟩ := h
  unfold VM.sSet at d
  rw [hk.xk] at d
  exact bind1 l r d fun x H1 F1 μ1 px st1 e1 l1 r1 p1 q1 => ⟨G, F1, μ1, ρ, st1, _, px, l1, r1, p1, q1, fun σ' ρ' st' l' r' _ _ q => hk.nx σ' H1 F1 μ1 ρ' st' e1 l' r' q⟩
theorem vs_asg {g : VM.TG} {sl : List Nat} (he : VE X e te) (hg : VG X tg g sl) (hs : swapsWithSole [tg] e pos.line X.env = pure false := by rfl) (hw : swappedStores [tg] e X.env = pure none := by rfl)
    (h1 : (assignEach [tg] X.env).map (·.2) = [assign tg X.env] := by rfl) : VSt X (.Assign [tg] e pos) (VM.sSet g te) := ps_imp (ps_asg he hg hs hw h1) fun D σ H h => asg_imp h
theorem set_imp {i : Nat} {K : PySem.W.Frag} {D : L2.Ends} {σ : L2.St} {H : Hp} (h : rS K (VM.sSet (VM.gName i) te) D σ H) : tAsg (rE K te) (gName i) D σ H := by
  obtain ⟨G, F, μ, ρ, st, DV, l, r, d, hk⟩ := h
  unfold VM.sSet at d
  rw [hk.xk] at d
  exact bind1 l r d fun x H1 F1 μ1 px st1 e1 l1 r1 p1 q1 => hk.nx _ H1 F1 μ1 _ st1 e1 l1 (r1.set i p1) q1
theorem vs_set {i : Nat} {y : Str} {pos' : Pos} (hN : X.N.Nodup) (hi : X.N[i]? = some y) (hx : Loc X.env.scope y) (he : VE X e te) (hs : swapsWith e (some (.Name y pos')) pos.line X.env = pure false := by rfl) (hf : X.fn y = true ∨ X.env.scope.names.lookup y = some .local := by first | exact .inl rfl | exact .inr rfl | assumption) :
    VSt X (.Assign [.Name y pos'] e pos) (VM.sSet (VM.gName i) te) := ps_imp (ps_set hN hi hx he hs hf) fun D σ H h => set_imp h
/-- name = [..] on one line -/
theorem vs_setc {i0 : Nat} {y : Str} {py : Pos} {elt iter : Expr} {ifs : List Expr} {scope : Scope} {own : List (Str × Nat)} {spos : Pos} {i : VM.TI} {g : VM.TG} {t : VM.TT} {sl : List Nat} (hc : X.calm = true) (hN : X.N.Nodup) (hy : X.N[i0]? = some y) (hyl : X.env.scope.names.lookup y = some .local)
    (hsw : swapsWith (.ListComp elt [⟨tg, iter, ifs, 0⟩] scope pos) (some (.Name y py)) spos.line X.env = pure true) (ok : BlkOk X.N X.env.scope scope own) (hi : VI X tg iter i) (hsl : ∀ j ∈ sl, j ∈ own.map (·.2))
    (hg : ∀ s H C cl fp, VG (BX X scope s H C cl fp) tg g sl) (ht : ∀ s H C cl fp, PTs (BX X scope s H C cl fp) ifs (rT X.K t)) (he : ∀ s H C cl fp, VE (BX X scope s H C cl fp) elt te) (hs : ∀ x, foldedSetIterable iter X.env x = pure x := by intro _; rfl) :
    VSt X (.Assign [.Name y py] (.ListComp elt [⟨tg, iter, ifs, 0⟩] scope pos) spos) (VM.sSet (VM.gName i0) (VM.eComp i g t te (own.map (·.2)))) := ps_imp (ps_setLc hc hN hy hyl hsw hi ok hg ht he hs) fun D σ H h =>
  lc_imp (wi := fun _ _ _ => True) hsl (show rE X.K _ σ H (fun x H1 => gName i0 x σ H1 D.nx) from set_imp h)
/-- name = [..] on one line -/
theorem vs_setcM {i0 : Nat} {y : Str} {py : Pos} {elt iter : Expr} {ifs : List Expr} {scope : Scope} {own : List (Str × Nat)} {spos : Pos} {i : VM.TI} {g : VM.TG} {t : VM.TT} {sl : List Nat} (hc : X.calm = true) (hN : X.N.Nodup) (hy : X.N[i0]? = some y) (hyl : X.env.scope.names.lookup y = some .local)
    (hsw : swapsWith (.ListComp elt [⟨tg, iter, ifs, 0⟩] scope pos) (some (.Name y py)) spos.line X.env = pure true) (ok : BlkOk X.N X.env.scope scope own) (hi : VI X tg iter i) (hsl : ∀ j ∈ sl, j ∈ own.map (·.2))
    (hg : ∀ s H C cl fp, VG (BX X scope s H C cl fp) tg g sl) (ht : ∀ s H C cl fp, PTs (BX X scope s H C cl fp) ifs (rT X.K t)) (he : ∀ s H C cl fp, VE (BX X scope s H C cl fp) elt te) (hs : ∀ x, foldedSetIterable iter X.env x = pure x := by intro _; rfl) :
    VSt X (.Assign [.Name y py] (.ListComp elt [⟨tg, iter, ifs, 0⟩] scope pos) spos) (VM.sSet (VM.gName i0) (VM.eCompM i g t te (own.map (·.2)))) := ps_imp (ps_setLc hc hN hy hyl hsw hi ok hg ht he hs) fun D σ H h =>
  lc_impM (wi := fun _ _ _ => True) hsl (show rE X.K _ σ H (fun x H1 => gName i0 x σ H1 D.nx) from set_imp h)
/-- a, b = x, y -/
theorem vs_par {i j : Nat} {y z : Str} {px py pt : Pos} {kt k2 pt2} (hc : X.calm = true) (hN : X.N.Nodup) (hi : X.N[i]? = some y) (hj : X.N[j]? = some z) (hij : i ≠ j)
    (hx : X.env.scope.names.lookup y = some .local) (hy : X.env.scope.names.lookup z = some .local) (ha : VA X [a, b] tas)
    (hw : swappedStores [.Tuple [.Name y px, .Name z py] kt pt] (.Tuple [a, b] k2 pt2) X.env = pure (some [y, z]))
    (hs : swapsWithSole [.Tuple [.Name y px, .Name z py] kt pt] (.Tuple [a, b] k2 pt2) pos.line X.env = pure false := by rfl) :
    VSt X (.Assign [.Tuple [.Name y px, .Name z py] kt pt] (.Tuple [a, b] k2 pt2) pos) (VM.sPar [i, j] tas) := ps_imp (ps_par hc hN hi hj hij hx hy ha hw hs) fun D σ H h => by
  obtain ⟨G, F, μ, ρ, st, DV, l, r, d, hk⟩ := h
  unfold VM.sPar at d
  rw [hk.xk] at d
  refine bindA l r d fun vs H1 F1 μ1 pvs st1 e1 l1 r1 p1 q1 => ?_
  match pvs, q1 with
  | [p, q], q1 =>
    obtain ⟨v, _, rfl, rv, p1⟩ := repL_cons.mp p1
    obtain ⟨w, _, rfl, rw', p1⟩ := repL_cons.mp p1
    obtain rfl := repL_nil.mp p1
    exact ⟨v, w, rfl, hk.nx _ H1 F1 μ1 _ st1 e1 l1 ((r1.set i rv).set j rw') q1⟩
  | [], q1 => exact q1.elim
  | [_], q1 => exact q1.elim
  | _ :: _ :: _ :: _, q1 => exact q1.elim
theorem ixN_of {n : Nat} {i : Int} {j : Nat} (h : VM.ix n i = some j) : ixN n i = some j := by
  unfold VM.ix at h
  unfold ixN
  split at h <;> rename_i h0
  · split at h <;> rename_i h1
    · cases h
      first
        | (rw [if_pos h0, if_pos h1])
        | (simp only [h0, h1, if_true]; omega)
        | (simp [h0, h1])
    · cases h
  · split at h <;> rename_i h1
    · cases h
      first
        | (rw [if_neg h0, if_pos h1])
        | (simp [h0, h1])
    · cases h
theorem vs_setix {o i : Expr} {p3 : Pos} (he : VE X e te) (ho : VE X o ta) (hi : VE X i tb)
    (ha : ∀ v, assign (.Subscript o i p3) X.env v = (do
      let ov ← holding [v] (eval o X.env)
      let iv ← holding [v, ov] (eval i X.env)
      standAt p3
      holding [v, ov, iv] (setItem ov iv v)
      release [v, ov, iv] []) := by intro _; rfl)
    (hs : swapsWithSole [.Subscript o i p3] e pos.line X.env = pure false := by rfl) (hw : swappedStores [.Subscript o i p3] e X.env = pure none := by rfl)
    (h1 : (assignEach [.Subscript o i p3] X.env).map (·.2) = [assign (.Subscript o i p3) X.env] := by rfl) : VSt X (.Assign [.Subscript o i p3] e pos) (VM.sSetIx ta tb te) :=
  ps_imp (ps_asg he (pg_sub ho hi set_list ha) hs hw h1) fun D σ H h => by
    obtain ⟨G, F, μ, ρ, st, DV, l, r, d, hk⟩ := h
    unfold VM.sSetIx at d
    rw [hk.xk] at d
    refine bind1 l r d fun w H1 F1 μ1 pw st1 e1 l1 r1 p1 q1 => bind1 l1 r1 q1 fun o H2 F2 μ2 po st2 e2 l2 r2 p2 q2 => bind1 l2 r2 q2 fun i H3 F3 μ3 pi st3 e3 l3 r3 p3 q3 => ?_
    unfold VM.setIx at q3
    split at q3
    · rename_i j z
      obtain rfl := rep_int.mp p3
      obtain ⟨a, ea, rfl⟩ := rep_ref.mp (p2.mono e3)
      split at q3
      · rename_i xs ex
        split at q3
        · rename_i n en
          obtain ⟨hf, vs, hh, rl⟩ := l3.obj j a _ ea ex
          refine ⟨a, vs, z, n, rfl, rfl, hh, ixN_of (by rw [rl.length]; exact en), hk.nx σ _ F3 μ3 ρ _ ((e1.trans e2).trans e3) (l3.put ea ?_ hf) r3 q3⟩
          exact ⟨hf, _, upd_same, rl.set n ((p1.mono e2).mono e3)⟩
        · exact q3.elim
      · exact q3.elim
    · exact q3.elim
theorem vs_for {iter : Expr} {body : List Stmt} {i : VM.TI} {g : VM.TG} {b : VM.TS} {sl : List Nat} (hp : PassesOwn (model X.prog X.w) X.A X.env X.xe) (hc : X.calm = true) (hi : VI X tg iter i) (hg : VG X tg g sl) (hb : VB X body b)
    (hs : ∀ x, foldedSetIterable iter X.env x = pure x := by intro _; rfl) : VSt X (.For tg iter body [] pos) (VM.sFor i g b) := ps_imp (ps_for hp hc hi hg hb hs) fun D σ H h => by
  obtain ⟨G, F, μ, ρ, st, DV, l, r, d, hk⟩ := h
  unfold VM.sFor at d
  rw [hk.xk] at d
  refine ⟨G, F, μ, ρ, st, _, l, r, d, fun J H1 F1 μ1 xs stay st1 e1 l1 w q => ?_⟩
  refine ⟨fun i m σ H => m = xs.length - i ∧ i ≤ xs.length ∧ ∃ F' μ' ρ' st', Ext F1 μ1 F' μ' ∧ Lay X.K G F' μ' st' H ∧ EnvR X.K F' μ' σ ρ' ∧ VM.forGo g b stay (xs.drop i) DV ρ' st',
    ⟨xs.length, by simp, Nat.zero_le _, F1, μ1, ρ, st1, Ext.refl, l1, r.mono e1, q⟩, ?_⟩
  rintro i m σ H ⟨rfl, hi, F', μ', ρ', st', e2, l2, r2, q2⟩
  by_cases hlt : i < xs.length
  · rw [List.drop_eq_getElem_cons hlt] at q2
    obtain ⟨hstay, q2⟩ := q2
    refine .inr ⟨w.goes _ H F' μ' st' i e2 l2 hstay hlt, fun σ' H' => xs.length - (i + 1) = xs.length - (i + 1) ∧ i + 1 ≤ xs.length ∧ ∃ F' μ' ρ' st', Ext F1 μ1 F' μ' ∧ Lay X.K G F' μ' st' H' ∧ EnvR X.K F' μ' σ' ρ' ∧ VM.forGo g b stay (xs.drop (i + 1)) DV ρ' st', fun σ' H' p' => ⟨xs.length - (i + 1), by omega, p'⟩, fun x H' hy => ?_⟩
    obtain ⟨F3, e3, l3, rx⟩ := w.yields _ H F' μ' st' i xs[i] x H' e2 l2 hstay (by simp [hlt]) hy
    refine ⟨G, F3, μ', ρ', st', _, xs[i], l3, r2.mono e3, rx, q2, fun σ4 ρ4 st4 l4 r4 _ _ q4 => ?_⟩
    have hk' := hk.mono ((e1.trans e2).trans e3)
    have again : ∀ (σ' : L2.St) (H' F5 : Hp) (μ5 : List Addr) (ρ5 : VM.Env) (st5 : Store), Ext F3 μ' F5 μ5 → Lay X.K G F5 μ5 st5 H' → EnvR X.K F5 μ5 σ' ρ5 → VM.forGo g b stay (xs.drop (i + 1)) DV ρ5 st5 → (xs.length - (i + 1) = xs.length - (i + 1) ∧ i + 1 ≤ xs.length ∧ ∃ F' μ' ρ' st', Ext F1 μ1 F' μ' ∧ Lay X.K G F' μ' st' H' ∧ EnvR X.K F' μ' σ' ρ' ∧ VM.forGo g b stay (xs.drop (i + 1)) DV ρ' st') :=
      fun σ' H' F5 μ5 ρ5 st5 e5 l5 r5 q5 => ⟨rfl, by omega, F5, μ5, ρ5, st5, (e2.trans e3).trans e5, l5, r5, q5⟩
    exact ⟨G, F3, μ', ρ4, st4, _, l4, r4, q4, ⟨again, hk'.rt, hk'.nx, again, hk'.xk⟩⟩
  · have e : i = xs.length := by omega
    subst e
    rw [List.drop_length] at q2
    exact .inl ⟨w.stops _ H F' μ' st' e2 l2 q2.1, hk.nx σ H F' μ' ρ' st' (e1.trans e2) l2 r2 q2.2⟩
theorem vs_while {body : List Stmt} {b : VM.TS} (hp : PassesOwn (model X.prog X.w) X.A X.env X.xe) (hc : VT X c t1) (hb : VB X body b) : VSt X (.While c body [] pos) (VM.sWhile t1 b) := ps_imp (ps_while hp hc hb) fun D σ H h => by
  obtain ⟨G, F, μ, ρ, st, DV, l, r, ⟨n0, d⟩, hk⟩ := h
  refine ⟨fun m σ H => ∃ F' μ' ρ' st', Ext F μ F' μ' ∧ Lay X.K G F' μ' st' H ∧ EnvR X.K F' μ' σ ρ' ∧ VM.whileGo t1 b m DV ρ' st', ⟨n0, F, μ, ρ, st, Ext.refl, l, r, d⟩, ?_⟩
  rintro m σ H ⟨F1, μ1, ρ1, st1, e1, l1, r1, q1⟩
  cases m with
  | zero => exact q1.elim
  | succ n =>
    unfold VM.whileGo at q1
    rw [hk.xk] at q1
    refine bindT l1 r1 q1 fun bb H2 F2 μ2 st2 e2 l2 r2 q2 => ?_
    have hk' := hk.mono (e1.trans e2)
    cases bb with
    | true =>
      rw [if_pos rfl] at q2 ⊢
      have again : ∀ (σ' : L2.St) (H' F5 : Hp) (μ5 : List Addr) (ρ5 : VM.Env) (st5 : Store), Ext F2 μ2 F5 μ5 → Lay X.K G F5 μ5 st5 H' → EnvR X.K F5 μ5 σ' ρ5 → VM.whileGo t1 b n DV ρ5 st5 → (∃ F' μ' ρ' st', Ext F μ F' μ' ∧ Lay X.K G F' μ' st' H' ∧ EnvR X.K F' μ' σ' ρ' ∧ VM.whileGo t1 b n DV ρ' st') :=
        fun σ' H' F5 μ5 ρ5 st5 e5 l5 r5 q5 => ⟨F5, μ5, ρ5, st5, (e1.trans e2).trans e5, l5, r5, q5⟩
      exact ⟨fun σ' H' => ∃ F' μ' ρ' st', Ext F μ F' μ' ∧ Lay X.K G F' μ' st' H' ∧ EnvR X.K F' μ' σ' ρ' ∧ VM.whileGo t1 b n DV ρ' st', fun σ' H' z => ⟨n, Nat.lt_succ_self n, z⟩, G, F2, μ2, ρ1, st2, _, l2, r2, q2, ⟨again, hk'.rt, hk'.nx, again, rfl⟩⟩
    | false =>
      rw [if_neg Bool.false_ne_true] at q2 ⊢
      exact hk'.nx σ H2 F2 μ2 ρ1 st2 Ext.refl l2 r2 q2
end
end VS
end
section
namespace VS
open PySem PySem.Spec PyProof.Rows L2
open VM (PV SO Store)
def spOf (K : PySem.W.Frag) (cs : VM.CS) (f np : Nat) : Sp := fun vs H Q _ => vs.length = np ∧ ∃ G F μ st pxs k, Lay K G F μ st H ∧ RepL K F μ pxs vs ∧ cs f pxs st k nox ∧ Kon K G F μ k Q
section
variable {X : Cx} {a b c e o : Expr} {ta tb tc te : VM.TE} {t1 t2 : VM.TT} {pos p2 p : Pos} {es rest : List Expr} {tas : VM.TA} {x : Str} {tg : Expr} {k : Nat} {f : Addr} {fd : FuncData} {ps : List Str} {cs : VM.CS} {i : Nat}
theorem RepL.len1 {K : PySem.W.Frag} {F : Hp} {μ : List Addr} {xs : List PV} {vs : List V} (r : RepL K F μ xs vs) : xs.length = vs.length := r.length.symm
theorem ve_call (F : FnOk X.prog X.w X.K X.mg X.base CX0 k f fd ps (spOf X.K cs i ps.length)) (hr : Room k X.A) (hm : X.mg x = some (.ref f)) (hk : PySem.W.keepIn X.K (.ref f) = true) (hb : Binds X.K fd ps []) (hn : ∀ us st k x, cs i us st k x → us.length = ps.length) (hg : Gl X x) (ha : VA X (e :: es) tas)
    (hdb : (x == ("__debug__" : Str)) = false := by decide) (he : starEach (e :: es) X.env = (false, eval e X.env) :: starEach es X.env := by rfl) (hpl : (backTo pos (starEach es X.env)).any (·.1) = false := by rfl) :
    VE X (.Call (.Name x p) (e :: es) [] pos) (VM.eCall cs i tas) := pe_imp (pe_call (E := E0) F hr hg hm hk hb .nil pass0 ha hdb he hpl) fun σ H Q h => by
  obtain ⟨G, F, μ, ρ, st, k, l, r, d, hk⟩ := h
  refine bindA l r d fun vs H1 F1 μ1 pvs st1 e1 l1 r1 p1 q1 => ?_
  rw [List.append_nil]
  exact ⟨by rw [p1.length]; exact hn _ _ _ _ q1, G, F1, μ1, st1, pvs, k, l1, p1, q1, hk.mono e1⟩
theorem ve_call0 (F : FnOk X.prog X.w X.K X.mg X.base CX0 k f fd ps (spOf X.K cs i ps.length)) (hr : Room k X.A) (hm : X.mg x = some (.ref f)) (hk : PySem.W.keepIn X.K (.ref f) = true) (hb : Binds X.K fd ps []) (hn : ∀ us st k x, cs i us st k x → us.length = ps.length) (hg : Gl X x)
    (hdb : (x == ("__debug__" : Str)) = false := by decide) :
    VE X (.Call (.Name x p) [] [] pos) (VM.eCall cs i VM.aNil) := pe_imp (pe_call0 (E := E0) F hr hg hm hk hb .nil pass0 hdb) fun σ H Q h => by
  obtain ⟨G, F, μ, ρ, st, k, l, r, d, hk⟩ := h
  exact ⟨hn _ _ _ _ d, G, F, μ, st, [], k, l, repL_nil.mpr rfl, d, hk⟩
def LkF (K : PySem.W.Frag) (f : Addr) (fd : FuncData) : Prop := ∃ (oc : Value) (od : Option Addr) (osl : Array (Option Value)), K.lookup f = some ⟨oc, od, .func fd, osl⟩
/-- the callee of one def -/
structure Callee (P : Program) (w : World) (K : PySem.W.Frag) (mg : Str → Option Value) (base : Heap) (x : Str) (cs : VM.CS) (k i : Nat) (ps : List Str) : Prop where
  ok : ∃ f fd, FnOk P w K mg base CX0 k f fd ps (spOf K cs i ps.length) ∧ mg x = some (.ref f) ∧ PySem.W.keepIn K (.ref f) = true ∧ Binds K fd ps [] ∧ LkF K f fd
  len : ∀ us st k x, cs i us st k x → us.length = ps.length
theorem ve_calle (C : Callee X.prog X.w X.K X.mg X.base x cs k i ps) (hr : Room k X.A) (hg : Gl X x) (ha : VA X (e :: es) tas)
    (hdb : (x == ("__debug__" : Str)) = false := by decide) (he : starEach (e :: es) X.env = (false, eval e X.env) :: starEach es X.env := by rfl) (hpl : (backTo pos (starEach es X.env)).any (·.1) = false := by rfl) :
    VE X (.Call (.Name x p) (e :: es) [] pos) (VM.eCall cs i tas) := by
  obtain ⟨f, fd, F, hm, hk, hb, _⟩ := C.ok
  exact ve_call F hr hm hk hb C.len hg ha hdb he hpl
theorem ve_calle0 (C : Callee X.prog X.w X.K X.mg X.base x cs k i ps) (hr : Room k X.A) (hg : Gl X x) (hdb : (x == ("__debug__" : Str)) = false := by decide) :
    VE X (.Call (.Name x p) [] [] pos) (VM.eCall cs i VM.aNil) := by
  obtain ⟨f, fd, F, hm, hk, hb, _⟩ := C.ok
  exact ve_call0 F hr hm hk hb C.len hg hdb
theorem ve_max2 (hc : X.calm = true) (ha : VE X a ta) (hb : VE X b tb) (hg : Gl X "max") (hm : X.mg "max" = none) (hv : bootBuiltins "max" = some (.builtin "max") := by decide +kernel) (hs : starEach [a, b] X.env = (false, eval a X.env) :: starEach [b] X.env := by rfl) (hs2 : starEach [b] X.env = (false, eval b X.env) :: starEach [] X.env := by rfl) (hpl : (backTo pos (starEach [b] X.env)).any (·.1) = false := by rfl) :
    VE X (.Call (.Name "max" p) [a, b] [] pos) (VM.eMax2 ta tb) := pe_imp (pe_callB (call_max2 hc) hg hm hv (pa_cons ha (pa_cons hb pa_nil hs2) hs) (he := hs) (hpl := hpl)) fun σ H Q h => by
  obtain ⟨G, F, μ, ρ, st, k, l, r, d, hk⟩ := h
  refine bind1 l r d fun x H1 F1 μ1 px st1 e1 l1 r1 p1 q1 => bind1 l1 r1 q1 fun y H2 F2 μ2 py st2 e2 l2 r2 p2 q2 => ?_
  split at q2
  · rename_i i j
    obtain rfl := rep_int.mp (p1.mono e2)
    obtain rfl := rep_int.mp p2
    exact ⟨i, j, rfl, (hk.mono (e1.trans e2)).same l2 (rep_int.mpr rfl) q2⟩
  · exact q2.elim
theorem vt_if {t3 : VM.TT} (hc : VT X c t1) (ha : VT X a t2) (hb : VT X b t3) : VT X (.IfExp c a b pos) (VM.tIf t1 t2 t3) := by
  refine ⟨fun pins s σ H Q I h => ?_⟩
  obtain ⟨G, F, μ, ρ, st, k, l, r, d, hk⟩ := h
  refine PyProof.Rows.isTrue_IfExp (thn (hc.run pins s σ H _ I (bindT (W := fun b H1 => rT X.K (if b = true then t2 else t3) σ H1 Q) l r d fun b H1 F1 μ1 st1 e1 l1 r1 q1 => ?_)) fun b s1 ⟨H1, I1, q1⟩ => ?_)
  · cases b with
    | true => exact ⟨G, F1, μ1, ρ, st1, k, l1, r1, q1, hk.mono e1⟩
    | false => exact ⟨G, F1, μ1, ρ, st1, k, l1, r1, q1, hk.mono e1⟩
  · cases b with
    | true => exact ha.run pins s1 σ H1 Q I1 q1
    | false => exact hb.run pins s1 σ H1 Q I1 q1
theorem ve_append {apos cpos : Pos} (ho : VE X o ta) (he : VE X e te)
    (hbase : attributeBase o "append" X.env (eval o X.env) = eval o X.env := by rfl)
    (hfew : ((backTo cpos (starEach [e] X.env)).all (fun x => !x.1) && (backToKw cpos (keywordEach [] X.env)).all (fun x => x.1.isSome)
      && decide ([e].length + ([] : List Keyword).length + (if ([] : List Keyword).isEmpty then 0 else 1) < 30)) = true := by rfl)
    (hline : (apos.endLine == cpos.line) = true := by rfl) (hs : starEach [e] X.env = (false, eval e X.env) :: starEach [] X.env := by rfl) (hplain : (backTo cpos (starEach [] X.env)).any (·.1) = false := by rfl) :
    VE X (.Call (.Attribute o "append" apos) [e] [] cpos) (VM.eAppend ta te) := pe_imp (pe_bm PySem.F.plainAttrs_list PySem.F.slot_list_append PySem.F.type_list_append mt_append ho (pa_cons he pa_nil hs) hbase hfew hline hs hplain) fun σ H Q h => by
  obtain ⟨G, F, μ, ρ, st, k, l, r, d, hk⟩ := h
  refine bind1 l r d fun x H1 F1 μ1 px st1 e1 l1 r1 p1 q1 => ?_
  obtain ⟨hl, q1⟩ := q1
  refine ⟨?_, ?_⟩
  · obtain ⟨xs, hx⟩ := Option.isSome_iff_exists.mp hl
    obtain ⟨a, vs, rfl, h1, _⟩ := asL_rep l1 p1 hx
    exact .inl ⟨rfl, vs, .inl (.inl h1)⟩
  · refine bind1 l1 r1 q1 fun y H2 F2 μ2 py st2 e2 l2 r2 p2 q2 => ?_
    split at q2
    · rename_i j
      obtain ⟨a, ea, rfl⟩ := rep_ref.mp (p1.mono e2)
      split at q2
      · rename_i xs ex
        obtain ⟨hf, vs, hh, rl⟩ := l2.obj j a _ ea ex
        refine ⟨a, vs, y, rfl, rfl, hh, by rw [rl.length, sizeLine_eq]; exact q2.1, (hk.mono (e1.trans e2)) .non _ F2 μ2 .non _ Ext.refl (l2.put ea ?_ hf) (rep_non.mpr rfl) q2.2⟩
        exact ⟨hf, _, upd_same, rl.append (repL_cons.mpr ⟨y, [], rfl, p2, repL_nil.mpr rfl⟩)⟩
      · exact q2.elim
    · exact q2.elim
theorem ve_insert {i : Expr} {ti : VM.TE} {apos cpos : Pos} (ho : VE X o ta) (hi : VE X i ti) (he : VE X e te)
    (hbase : attributeBase o "insert" X.env (eval o X.env) = eval o X.env := by rfl)
    (hfew : ((backTo cpos (starEach [i, e] X.env)).all (fun x => !x.1) && (backToKw cpos (keywordEach [] X.env)).all (fun x => x.1.isSome)
      && decide ([i, e].length + ([] : List Keyword).length + (if ([] : List Keyword).isEmpty then 0 else 1) < 30)) = true := by rfl)
    (hline : (apos.endLine == cpos.line) = true := by rfl) (hs : starEach [i, e] X.env = (false, eval i X.env) :: starEach [e] X.env := by rfl) (hs2 : starEach [e] X.env = (false, eval e X.env) :: starEach [] X.env := by rfl) (hplain : (backTo cpos (starEach [e] X.env)).any (·.1) = false := by rfl) :
    VE X (.Call (.Attribute o "insert" apos) [i, e] [] cpos) (VM.eInsert ta ti te) := pe_imp (pe_bm PySem.F.plainAttrs_list PySem.F.slot_list_insert PySem.F.type_list_insert mt_insert ho (pa_cons hi (pa_cons he pa_nil hs2) hs) hbase hfew hline hs hplain) fun σ H Q h => by
  obtain ⟨G, F, μ, ρ, st, k, l, r, d, hk⟩ := h
  refine bind1 l r d fun x H1 F1 μ1 px st1 e1 l1 r1 p1 q1 => ?_
  obtain ⟨hl, q1⟩ := q1
  refine ⟨?_, ?_⟩
  · obtain ⟨xs, hx⟩ := Option.isSome_iff_exists.mp hl
    obtain ⟨a, vs, rfl, h1, _⟩ := asL_rep l1 p1 hx
    exact .inl ⟨rfl, vs, .inl (.inl h1)⟩
  · refine bind1 l1 r1 q1 fun z H2 F2 μ2 pz st2 e2 l2 r2 p2 q2 => bind1 l2 r2 q2 fun y H3 F3 μ3 py st3 e3 l3 r3 p3 q3 => ?_
    split at q3
    · rename_i j n
      obtain rfl := rep_int.mp p2
      obtain ⟨a, ea, rfl⟩ := rep_ref.mp ((p1.mono e2).mono e3)
      split at q3
      · rename_i xs ex
        obtain ⟨h0, h1, h2, q3⟩ := q3
        obtain ⟨hf, vs, hh, rl⟩ := l3.obj j a _ ea ex
        refine ⟨a, vs, n, y, rfl, rfl, hh, by rw [rl.length, sizeLine_eq]; exact h2, h0, by omega, (hk.mono ((e1.trans e2).trans e3)) .non _ F3 μ3 .non _ Ext.refl (l3.put ea ?_ hf) (rep_non.mpr rfl) q3⟩
        exact ⟨hf, _, upd_same, ((rl.take n.toNat).append (repL_cons.mpr ⟨y, [], rfl, p3, repL_nil.mpr rfl⟩)).append (rl.drop n.toNat)⟩
      · exact q3.elim
    · exact q3.elim
end
theorem envR_start {K : PySem.W.Frag} {F : Hp} {μ : List Addr} {N : List Str} {Fd : VM.FD} {pxs : List PV} {vs : List V} (r : RepL K F μ pxs vs) (hn : pxs.length = Fd.np) (hs : Fd.ns = N.length) : EnvR K F μ (L2.start N vs) (VM.start Fd pxs) := by
  have hl := r.length
  refine ⟨by simp [L2.start, VM.start, hl, hs, hn], fun i x q => ?_⟩
  unfold VM.start at q
  unfold L2.start
  by_cases hi : i < pxs.length
  · rw [List.getElem?_append_left (by simpa using hi), List.getElem?_map] at q
    cases e : pxs[i]? with
    | none => rw [e] at q; cases q
    | some y =>
      rw [e] at q
      cases q
      obtain ⟨v, h1, h2⟩ := r.get e
      exact ⟨v, by rw [List.getElem?_append_left (by simp [hl]; exact hi), List.getElem?_map, h1]; rfl, h2⟩
  · rw [List.getElem?_append_right (by simpa using hi)] at q
    have := List.mem_of_getElem? q
    simp at this
theorem fn_zero {P : Program} {w : World} {K : PySem.W.Frag} {mg : Str → Option Value} {base : Heap} {FT : Nat → Option VM.FD} {k i : Nat} {f : Addr} {fd : FuncData} {ps : List Str} : FnOk P w K mg base CX0 k f fd ps (spOf K (VM.callN FT 0) i ps.length) :=
  ⟨fun _ _ _ _ h => h.1, fun A outer s H args us vs Q E hr e0 hb hv h => by
    obtain ⟨_, G, F, μ, st, pxs, k, _, _, d, _⟩ := h
    exact d.elim⟩
theorem callN_len {FT : Nat → Option VM.FD} {n i : Nat} {Fd : VM.FD} {m : Nat} (hF : FT i = some Fd) (hm : Fd.np = m) {us : List PV} {st : Store} {k x : VM.KV} (h : VM.callN FT n i us st k x) : us.length = m := by
  cases n with
  | zero => exact h.elim
  | succ n =>
    unfold VM.callN at h
    rw [hF] at h
    exact h.1.trans hm
theorem fn_succ {P : Program} {w : World} {K : PySem.W.Frag} {mg : Str → Option Value} {base : Heap} {FT : Nat → Option VM.FD} {n k i : Nat} {x qual : Str} {params : Arguments} {body : List Stmt} {scope : Scope} {f : Addr} {fd : FuncData} {N ps : List Str} {Fd : VM.FD}
    {dvs : List V} {kws : List (Str × V)} (F : FunD K x qual params body scope dvs kws f fd) (S : FnScope N ps scope) (hF : FT i = some Fd) (hp : Fd.np = ps.length) (hs : Fd.ns = N.length)
    (hb : ∀ (cdv : Value) (A : Around) (outer : List Env) (s : Shared) (H : Hp) (E : XK), Room k (A.deeper (envOfC qual scope s.heap.objs.size f cdv)) → VB (cxOf CX0 P w K mg base N qual scope f cdv A outer s H E).nox body (Fd.body (VM.callN FT n))) :
    FnOk P w K mg base CX0 (k + 1) f fd ps (spOf K (VM.callN FT (n + 1)) i ps.length) := by
  refine F.ok S (fun vs H Q E h => h.1) (fun cdv A outer s H vs Q E hr h => ⟨_, PSs.nox (hb cdv A outer s H E hr), ?_⟩)
  obtain ⟨_, G, F, μ, st, pxs, k, l, r, d, hk⟩ := h
  unfold VM.callN at d
  rw [hF] at d
  obtain ⟨hl, d⟩ := d
  exact ⟨G, F, μ, _, st, _, l, envR_start r hl hs, d, ⟨fun σ' H' F' μ' ρ' st' e l' r' q => hk .non H' F' μ' .non st' e l' (rep_non.mpr rfl) q, hk, fun _ _ _ _ _ _ _ _ _ q => q.elim, fun _ _ _ _ _ _ _ _ _ q => q.elim, rfl⟩⟩
/-- the law's call -/
theorem lay0 {K : PySem.W.Frag} {H : Hp} : Lay K (fun _ => none) (fun _ => none) [] [] H where
  gd := fun _ _ e => by cases e
  same := fun _ _ e => by cases e
  len := rfl
  nd := List.nodup_nil
  there := fun _ h => by cases h
  obj := fun _ _ _ h => by cases h
theorem lk_of {K : PySem.W.Frag} {x qual : Str} {params : Arguments} {body : List Stmt} {scope : Scope} {dvs : List V} {kws : List (Str × V)} {f : Addr} {fd : FuncData} (F : FunD K x qual params body scope dvs kws f fd) : LkF K f fd := by
  obtain ⟨oc, od, dV, kV, doc, pm, an, cdv, ct, osl, rfl, lk, _⟩ := F.ex
  exact ⟨oc, od, osl, lk⟩
theorem lk_inj {K : PySem.W.Frag} {f : Addr} {fd fd' : FuncData} (a : LkF K f fd) (b : LkF K f fd') : fd = fd' := by
  obtain ⟨oc, od, osl, e⟩ := a
  obtain ⟨oc', od', osl', e'⟩ := b
  rw [e] at e'
  injection e' with e'
  injection e' with _ _ e' _
  injection e'
theorem sp_law {K : PySem.W.Frag} {cs : VM.CS} {f : Nat} {H : Hp} {a : Addr} {is : List Int} {E : XK} (hS : SqL K H a (is.map V.int)) (h : cs f [.scr is] [] (fun v _ => v = .bl true) nox) : spOf K cs f 1 [.ref a] H (fun v _ => v = .bl true) E := by
  refine ⟨rfl, fun _ => none, fun b => if b = a then H b else none, [], [], [.scr is], _, ?_, ?_, h, fun v H' F' μ' x st' e l r q => ?_⟩
  · refine ⟨fun b o e => ?_, fun b o e => ?_, rfl, List.nodup_nil, fun _ h => (List.not_mem_nil h).elim, fun i b o h => ?_⟩
    · cases e
    · by_cases hb : b = a
      · rw [if_pos hb] at e
        exact e
      · rw [if_neg hb] at e
        cases e
    · cases h
  · refine repL_cons.mpr ⟨.ref a, [], rfl, rep_scr.mpr ⟨a, rfl, ?_⟩, repL_nil.mpr rfl⟩
    rcases hS with (h | ⟨o, h⟩) | h
    · exact .inl (.inl (by simpa using h))
    · exact .inl (.inr ⟨o, by simpa using h⟩)
    · exact .inr h
  · subst q
    exact rep_bl.mp r
end VS
end
section
namespace VS
open PySem PySem.Spec PyProof.Rows L2
theorem dv_fn {base : Heap} {P : Program} {N ps : List Str} {qual : Str} {scope : Scope} {L f : Addr} {cdv : Value} {outer : List PySem.Env} {A : Around} {n : Nat} (hS : base.NoSeer) (hT : P.given.tree = none) (S : FnScope N ps scope) (hr : Room (n + 40) (A.deeper (envOfC qual scope L f cdv))) :
    Dv base P (envOfC qual scope L f cdv :: outer) (A.deeper (envOfC qual scope L f cdv)) :=
  ⟨hS, hT, ⟨_, _, rfl, S.gen, S.co, rfl, rfl⟩, by have := hr.dp; unfold Builtin.pylongFrames; omega⟩
def LeK (K K' : PySem.W.Frag) : Prop := ∀ a o, K.lookup a = some o → K'.lookup a = some o
theorem FunD.le {K K' : PySem.W.Frag} {x qual : Str} {params : Arguments} {body : List Stmt} {scope : Scope} {f : Addr} {fd : FuncData} (F : FunD K x qual params body scope [] [] f fd) (h : LeK K K') : FunD K' x qual params body scope [] [] f fd := by
  obtain ⟨⟨oc, od, dV, kV, doc, pm, an, cdv, ct, osl, e, lk, hcd, hD, hK⟩, kp⟩ := F
  refine ⟨⟨oc, od, dV, kV, doc, pm, an, cdv, ct, osl, e, h _ _ lk, ?_, ?_, .inl rfl⟩, ?_⟩
  · unfold PySem.W.codeIn at hcd ⊢
    split at hcd
    · split at hcd
      · rename_i q
        rw [h _ _ q]
        exact hcd
      · cases hcd
    · cases hcd
  · rcases hD with hD | ⟨hD, _⟩
    · exact .inl hD
    · exact (hD rfl).elim
  · unfold PySem.W.keepIn
    show (match K'.lookup f with | some ⟨_, _, .func _, _⟩ => true | some ⟨_, _, .cls _, _⟩ => PySem.W.specialIn K' (.ref f) "__call__" == some (some (.builtin "type.__call__")) | _ => false) = true
    rw [h _ _ lk]
theorem lk_app {K E : PySem.W.Frag} {a : Addr} : (K ++ E).lookup a = (K.lookup a).or (E.lookup a) := by
  induction K with
  | nil => rfl
  | cons p K ih =>
    obtain ⟨b, o⟩ := p
    show ((b, o) :: (K ++ E)).lookup a = _
    rw [List.lookup_cons, List.lookup_cons]
    cases a == b with
    | true => rfl
    | false => exact ih
/-- a fragment widened by what a division looks at -/
theorem widen {K : PySem.W.Frag} {h : Heap} (X : K.In h) (S : h.NoSeer) : ∃ K' : PySem.W.Frag, LeK K K' ∧ K'.In h ∧ ∀ base : Heap, K'.In base → base.NoSeer := by
  obtain ⟨⟨mc, ⟨o1, es1, ep1, g1, d1⟩, c1, c2⟩, ⟨mm, ⟨o2, es2, ep2, g2, d2⟩, m1⟩, ⟨mb, ⟨o3, es3, ep3, g3, d3⟩, b1⟩, ⟨mg, bm, ob, ⟨o4, es4, ep4, g4, d4⟩, w1, w2, w3, w4⟩⟩ := S
  let E : PySem.W.Frag := [(cStatics, o1), (sysModules, o2), (builtinsNs, o3), (mainGlobals, o4), (bm, ob)]
  have hE : ∀ a o, E.lookup a = some o → h.get? a = some o := by
    intro a o q
    simp only [E, List.lookup_cons, List.lookup_nil] at q
    split at q
    · rename_i z; cases q; rw [eq_of_beq z]; exact g1
    · split at q
      · rename_i z; cases q; rw [eq_of_beq z]; exact g2
      · split at q
        · rename_i z; cases q; rw [eq_of_beq z]; exact g3
        · split at q
          · rename_i z; cases q; rw [eq_of_beq z]; exact g4
          · split at q
            · rename_i z; cases q; rw [eq_of_beq z]; exact w2
            · cases q
  have hIn : (K ++ E).In h := by
    intro a o q
    rw [lk_app] at q
    cases e : K.lookup a with
    | some o' =>
      rw [e] at q
      cases q
      exact X a _ e
    | none =>
      rw [e] at q
      exact hE a o q
  have hs : ∀ a o, h.get? a = some o → (E.lookup a).isSome = true → (K ++ E).lookup a = some o := by
    intro a o g q
    cases e : (K ++ E).lookup a with
    | some o' =>
      have := hIn a o' e
      rw [g] at this
      exact this.symm
    | none =>
      rw [lk_app] at e
      cases e2 : K.lookup a with
      | some _ => rw [e2] at e; cases e
      | none =>
        rw [e2] at e
        have e' : E.lookup a = none := e
        rw [e'] at q
        cases q
  refine ⟨K ++ E, fun a o q => by rw [lk_app, q]; rfl, hIn, fun base B => ?_⟩
  have t1 := B _ _ (hs cStatics o1 g1 (by simp [E]))
  have t2 := B _ _ (hs sysModules o2 g2 (by
    simp only [E, List.lookup_cons, List.lookup_nil]
    repeat (first | rfl | (split <;> try rfl))
    all_goals (first | rfl | (rename_i z; simp at z))))
  have t3 := B _ _ (hs builtinsNs o3 g3 (by
    simp only [E, List.lookup_cons, List.lookup_nil]
    repeat (first | rfl | (split <;> try rfl))
    all_goals (first | rfl | (rename_i z; simp at z))))
  have t4 := B _ _ (hs mainGlobals o4 g4 (by
    simp only [E, List.lookup_cons, List.lookup_nil]
    repeat (first | rfl | (split <;> try rfl))
    all_goals (first | rfl | (rename_i z; simp at z))))
  have t5 := B _ _ (hs bm ob w2 (by
    simp only [E, List.lookup_cons, List.lookup_nil]
    repeat (first | rfl | (split <;> try rfl))
    all_goals (first | rfl | (rename_i z; simp at z))))
  exact ⟨⟨mc, ⟨o1, es1, ep1, t1, d1⟩, c1, c2⟩, ⟨mm, ⟨o2, es2, ep2, t2, d2⟩, m1⟩, ⟨mb, ⟨o3, es3, ep3, t3, d3⟩, b1⟩, ⟨mg, bm, ob, ⟨o4, es4, ep4, t4, d4⟩, w1, t5, w3, w4⟩⟩
theorem walk_ofS {l : PySem.W.OpenLaw} {n k : Nat} {q : Program} {loose : List Str} {XP : (Str → Option Value) → Heap → Prop} {YP : World → Heap → Prop} {d : DefRec} {x : Str}
    (hn : l.most = some n) (hn2 : n ≤ sizeLine) (hdf : d.params.defaults = []) (hr : Room k callerA) (hq : importsNone q = true)
    (F : ∀ (w : World) (mg : Str → Option Value) (fa : Addr) (h : Heap), YP w h → h.Ns mainGlobals mg → mg d.name = some (.ref fa) →
      ∃ (K : PySem.W.Frag) (fd : FuncData), K.In h ∧ (∀ (s : Shared) (u : Value), BindsTo s fd ⟨[u], []⟩ [(x, u)]) ∧ ∀ K' : PySem.W.Frag, LeK K K' → ∃ sp : Sp,
        (∀ (H : Hp) (a : Addr) (ns : List Int), ns.length ≤ n → SqL K' H a (ns.map V.int) → sp [.ref a] H (fun v _ => v = .bl true) fun _ _ _ => False) ∧
        ∀ base : Heap, K'.In base → base.Ns mainGlobals mg → base.NoSeer → FnOk l.prog w K' mg base CX0 k fa fd [x] sp) :
    PySem.W.WalkO q loose XP YP l.row.toRowW d [] (fun f vs => PySem.call f vs) := by
  refine Att.attach_call hn hdf ?_
  intro w t0 t1 mg mb fa o pm cd doc a vs ns Gr Yh ho hd hcd hmg hobj hints hlen hg
  obtain ⟨K, fd, KX, hb, hF⟩ := F w mg fa _ Yh Gr.T.g hmg
  obtain ⟨K', le, KX', sr⟩ := widen KX (Gr.T.seer hq)
  obtain ⟨sp, hsp, hF⟩ := hF K' le
  exact law_call (CX := CX0) KX' Gr.T.g Gr.T.b Gr.T.builtins Gr.T.nolimit hg hobj hints (Nat.le_trans hlen hn2) hr (fun base h1 h2 => hF base h1 h2 (sr base h1)) hb (fun H _ hS => hsp H a ns hlen hS) fun _ _ _ z => z
end VS
end
section
namespace VO
open PySem PySem.W PySem.Calls PyProof.Rows
section
variable {prog : Program} {w : World} {A : Around} {E : Value → Shared → Prop} {s : Shared} {K : Frag} {x y C f : Addr} {ox oy : Obj} {od od' : Option Obj}
/-- two instances of one class: its own operator -/
theorem bin_same {op : Operator} {Q : Value → Shared → Prop} (X : K.In s.heap) (I : InstAt s.heap x ox C od) (J : InstAt s.heap y oy C od') (hc : selfFirst K C = true)
    (hs : findIn K (.ref C) (PySem.dunder op.info.2) = some (some (.ref f))) (hf : isFn K (.ref f) = true)
    (h : wpAny (model prog w) A (call (.ref f) [.ref x, .ref y]) (PySem.W.CmpBack Q) E s) : wpAny (model prog w) A (binaryOp op (.ref x) (.ref y)) Q E s := by
  obtain ⟨cd, rest, hcd, hm⟩ := ksp_first hc
  rcases hi : op.info with ⟨sym, nm'⟩
  rw [hi] at hs
  dsimp only at hs
  have one := ksp_try X I hs hf h
  obtain ⟨hh, g, d, tt, os⟩ := s
  have L1 : Looks (model prog w) hh (typeOf (.ref x)) (.ref C) := I.type
  have L2 : Looks (model prog w) hh (typeOf (.ref y)) (.ref C) := J.type
  have L3 : Looks (model prog w) hh (fillsNumberSlot (.ref C) nm') true := fills_K X hcd hm hs
  have hne : (Value.ref C == Value.ref C) = true := by simp
  simp only [binaryOp, hi]
  refine wpAny_holding (wpAny_bind ?_)
  unfold binaryOp1
  refine wpAny_bind (L1.at (wpAny_bind (L2.at (wpAny_bind (L3.at ?_)))))
  simp only [hne, if_true]
  ksp_lk
  refine wpAny_mono one (fun r s' hr' => ?_) fun _ _ e => e
  obtain ⟨v, rfl, hq⟩ := hr'
  ksp_lk
  exact hq
/-- an int's own operator does not take an instance -/
def Plain (y : Addr) (s : Shared) : Prop := ∃ C dx, s.heap.get? y = some (instObj C dx)
theorem int_add_declines {i : Int} {tk : Tok} : GivesAt (Plain y) (Builtin.«int.__add__» ⟨[.int i tk, .ref y], []⟩) (.val .notImplemented) := by
  intro prog w A R s hy h
  obtain ⟨C, dx, hy⟩ := hy
  obtain ⟨hp, g, d, tt, os⟩ := s
  unfold instObj at hy
  wp_walk using AutoSeq1.wpAny_loadPart' hy
  exact h
theorem int_sub_declines {i : Int} {tk : Tok} : GivesAt (Plain y) (Builtin.«int.__sub__» ⟨[.int i tk, .ref y], []⟩) (.val .notImplemented) := by
  intro prog w A R s hy h
  obtain ⟨C, dx, hy⟩ := hy
  obtain ⟨hp, g, d, tt, os⟩ := s
  unfold instObj at hy
  wp_walk using AutoSeq1.wpAny_loadPart' hy
  exact h
theorem int_mul_declines {i : Int} {tk : Tok} : GivesAt (Plain y) (Builtin.«int.__mul__» ⟨[.int i tk, .ref y], []⟩) (.val .notImplemented) := by
  intro prog w A R s hy h
  obtain ⟨C, dx, hy⟩ := hy
  obtain ⟨hp, g, d, tt, os⟩ := s
  unfold instObj at hy
  wp_walk using AutoSeq1.wpAny_loadPart' hy
  exact h
/-- int op instance: the reflected method -/
theorem bin_int {op : Operator} {id : String} {B : Builtin} {i : Int} {tk : Tok} {g : Addr} {Q : Value → Shared → Prop} (X : K.In s.heap) (J : InstAt s.heap y oy C od') (hc : selfFirst K C = true)
    (hs : findIn K (.ref C) (PySem.dunder op.info.2) = some (some (.ref f))) (hr : findIn K (.ref C) (dunderR op.info.2) = some (some (.ref g))) (hg : isFn K (.ref g) = true)
    (hsub : subIn K (.ref C) (.type "int") = some false) (hfill : fillsNumberSlot (.type "int") op.info.2 = pure true) (slot : Slot "int" (PySem.dunder op.info.2) id) (entry : entryFor table id = some B) (args : argsOk id ⟨[.int i tk, .ref y], []⟩)
    (gv : GivesAt (Plain y) (B ⟨[.int i tk, .ref y], []⟩) (.val .notImplemented)) (hp : Plain y s)
    (h : wpAny (model prog w) A (call (.ref g) [.ref y, .int i tk]) (PySem.W.CmpBack Q) E s) : wpAny (model prog w) A (binaryOp op (.int i tk) (.ref y)) Q E s := by
  obtain ⟨cd, rest, hcd, hm⟩ := ksp_first hc
  rcases hi : op.info with ⟨sym, nm'⟩
  rw [hi] at hs hr hfill slot
  dsimp only at hs hr hfill slot
  have two := ksp_try X J hr hg h
  have one : wpAny (model prog w) A (tryMethod (.int i tk) (PySem.dunder nm') (.ref y)) (fun r s' => r = none ∧ s' = s) E s :=
    wpAny_tryMethod_declines (typeIs_int _ _ _) slot (call_givesAt (Q := fun v s' => v = .notImplemented ∧ (none : Option Value) = none ∧ s' = s) slot (typeIs_int _ _ _) entry args gv hp ⟨rfl, rfl, rfl⟩)
  obtain ⟨hh, g0, d, tt, os⟩ := s
  have L1 : Looks (model prog w) hh (typeOf (.int i tk)) (.type "int") := Looks.of_pure rfl
  have L2 : Looks (model prog w) hh (typeOf (.ref y)) (.ref C) := J.type
  have L3 : Looks (model prog w) hh (fillsNumberSlot (.type "int") nm') true := Looks.of_pure hfill
  have L4 : Looks (model prog w) hh (fillsNumberSlot (.ref C) nm') true := fills_K X hcd hm hs
  have L5 : Looks (model prog w) hh (isSubtype (.ref C) (.type "int")) false := looks_subIn X hsub
  have L6 : Looks (model prog w) hh (numberSlotInPython (.type "int") nm') false := Looks.of_pure rfl
  have hne : (Value.type "int" == Value.ref C) = false := Bool.eq_false_iff.mpr fun q => by cases beq_iff_eq.mp q
  simp only [binaryOp, hi]
  refine wpAny_holding (wpAny_bind ?_)
  unfold binaryOp1
  refine wpAny_bind (L1.at (wpAny_bind (L2.at (wpAny_bind (L3.at ?_)))))
  simp only [hne, Bool.false_eq_true, if_false]
  ksp_lk
  refine wpAny_mono one (fun r s' hr' => ?_) fun _ _ e => e
  obtain ⟨rfl, rfl⟩ := hr'
  ksp_lk
  refine wpAny_mono two (fun r s' hr' => ?_) fun _ _ e => e
  obtain ⟨v, rfl, hq⟩ := hr'
  ksp_lk
  exact hq
/-- object's own != asks the own == -/
theorem objne_K {b : Value} {Q : Value → Shared → Prop} (hu : A.in1.units < cLine) (X : K.In s.heap) (I : InstAt s.heap x ox C od) (hm : mroIn K C (.type "object") = some true) (he : findIn K (.ref C) "__eq__" = some (some (.ref f))) (hf : isFn K (.ref f) = true)
    (h : wpAny (model prog w) A.in1 (call (.ref f) [.ref x, b]) (fun v s' => ∃ r, v = .bool r ∧ Q (.bool (!r)) s') E s) : wpAny (model prog w) A (call (.builtin "object.__ne__") [.ref x, b]) Q E s := by
  refine wpAny_call (codeAny_call_builtin PySem.F.cmp_object.ne.plain PySem.F.cmpEntry_ne (check_slot (i := "object.__ne__") (owner := "object") (n := "__ne__") PySem.F.cmpKind_ne PySem.F.cmpSplit_ne (I.type.andThen (looks_mroIn X hm)) (PySem.F.cmpArgs_ne _ _) ?_))
  unfold Builtin.«object.__ne__»
  refine wpAny_bind (m := slotArgs "__ne__" 1 _) (wpAny_pure ?_)
  refine wpAny_bind (m := cRoomFor _ _) (wpAny_cRoomFor hu ?_)
  refine wpAny_bind (m := callSpecialIfBound? (.ref x) (Str.ofString "__eq__") _) (ifBound_K X I he hf (wpAny_mono h (fun r s' hq => ?_) fun _ _ y => y))
  obtain ⟨r, rfl, hq⟩ := hq
  refine wpAny_bind (m := truthy (.bool r)) (wpAny_truthy_bool ?_)
  exact wpAny_pure hq
/-- != of an instance without own != -/
theorem ne_K {b tb : Value} {Q : Value → Shared → Prop} (hu : A.units < cLine) (hu1 : A.in1.units < cLine) (X : K.In s.heap) (I : InstAt s.heap x ox C od) (hb : Looks (model prog w) s.heap (typeOf b) tb) (hn : notFirst K C tb = true)
    (hm : mroIn K C (.type "object") = some true) (hs : findIn K (.ref C) "__ne__" = some (some (.builtin "object.__ne__"))) (he : findIn K (.ref C) "__eq__" = some (some (.ref f))) (hf : isFn K (.ref f) = true)
    (h : wpAny (model prog w) A.in1 (call (.ref f) [.ref x, b]) (fun v s' => ∃ r, v = .bool r ∧ Q (.bool (!r)) s') E s) : wpAny (model prog w) A (richCompare .NotEq (.ref x) b) Q E s := by
  have one : wpAny (model prog w) A (tryCompare (.ref x) "__ne__" b) (fun r s' => ∃ v, r = some v ∧ Q v s') E s := by
    unfold tryCompare
    refine wpAny_bind (m := callSpecialIfBound? (.ref x) "__ne__" [b]) ?_
    simp only [callSpecialIfBound?, bindSpecialIfBound?]
    have fin : wpAny (model prog w) A (call (.builtin "object.__ne__") ([.ref x] ++ [b]) >>= fun v => pure (some v)) (fun r s' => wpAny (model prog w) A (match r with
      | some .notImplemented | none => pure none
      | some v => pure (some v)) (fun r s' => ∃ v, r = some v ∧ Q v s') E s') E s := by
      refine wpAny_bind (wpAny_mono (objne_K (Q := fun v s' => ∃ r, v = .bool r ∧ Q (.bool r) s') hu1 X I hm he hf (wpAny_mono h (fun v s' hv => ?_) fun _ _ e => e)) (fun v s' hv => ?_) fun _ _ e => e)
      · obtain ⟨r, rfl, hq⟩ := hv
        exact ⟨r, rfl, _, rfl, hq⟩
      · obtain ⟨r, rfl, hq⟩ := hv
        exact wpAny_pure (wpAny_pure ⟨_, rfl, hq⟩)
    refine wpAny_holding (wpAny_bind (wpAny_bind (wpAny_bind (I.type.here ((looks_findIn X hs).here ?_)))))
    refine wpAny_bind (wpAny_askSetting (wpAny_ite ?_))
    split
    · exact wpAny_bind ((Looks.of_pure (PySem.F.cmp_object.ne.bind _)).here (wpAny_pure (by exact fin)))
    · exact wpAny_tryCatch (wpAny_bind ((Looks.of_pure (PySem.F.cmp_object.ne.bind _)).here (wpAny_pure (by exact fin))))
  unfold richCompare
  simp only [oneThing_ref]
  refine wpAny_holding (wpAny_bind (wpAny_cRoomFor hu ?_))
  refine wpAny_bind (I.type.here (wpAny_bind (hb.here ?_)))
  split
  · rename_i q
    have e : subIn K tb (.ref C) = some false := by
      rcases Bool.or_eq_true_iff.mp hn with e | e
      · rw [beq_iff_eq.mp e] at q; simp at q
      · exact beq_iff_eq.mp e
    refine wpAny_bind ((looks_subIn X e).here ?_)
    simp only [Bool.false_eq_true, if_false]
    refine wpAny_bind (wpAny_mono one (fun r s' z => ?_) fun _ _ e => e)
    obtain ⟨v, rfl, hq⟩ := z
    exact wpAny_pure hq
  · refine wpAny_bind (wpAny_pure ?_)
    simp only [Bool.false_eq_true, if_false]
    refine wpAny_bind (wpAny_mono one (fun r s' z => ?_) fun _ _ e => e)
    obtain ⟨v, rfl, hq⟩ := z
    exact wpAny_pure hq
end
end VO
end
section
namespace VS
open PySem PySem.Spec PyProof.Rows L2
open VM (PV SO Store)
theorem fget_attrs : ∀ {ks : List Nat} {xs : List PV} {vs : List V} {K : PySem.W.Frag} {F : Hp} {μ : List Addr} {n : Nat} {x : PV}, RepL K F μ xs vs → VM.fget ks xs n = some x → ∃ v, (attrs ks vs).lookup (an n) = some v ∧ Rep K F μ x v
  | [], xs, vs, K, F, μ, n, x, r, h => by cases xs <;> cases h
  | k :: ks, [], vs, K, F, μ, n, x, r, h => by cases h
  | k :: ks, y :: xs, vs, K, F, μ, n, x, r, h => by
    obtain ⟨v, vr, rfl, r1, r2⟩ := repL_cons.mp r
    unfold VM.fget at h
    show ∃ v', List.lookup (an n) ((an k, v) :: attrs ks vr) = some v' ∧ _
    by_cases hk : k = n
    · rw [if_pos hk] at h
      cases h
      exact ⟨v, by rw [hk]; simp [List.lookup], r1⟩
    · rw [if_neg hk] at h
      obtain ⟨v', h1, h2⟩ := fget_attrs r2 h
      refine ⟨v', ?_, h2⟩
      have hne : (an n == an k) = false := beq_eq_false_iff_ne.mpr fun e => hk (an_inj e).symm
      simp only [List.lookup, hne]
      exact h1
theorem fget_none : ∀ {ks : List Nat} {xs : List PV} {vs : List V} {K : PySem.W.Frag} {F : Hp} {μ : List Addr} {n : Nat}, ks.length = xs.length → RepL K F μ xs vs → VM.fget ks xs n = none → (attrs ks vs).lookup (an n) = none
  | [], xs, vs, K, F, μ, n, hl, r, h => rfl
  | k :: ks, [], vs, K, F, μ, n, hl, r, h => by cases hl
  | k :: ks, y :: xs, vs, K, F, μ, n, hl, r, h => by
    obtain ⟨v, vr, rfl, r1, r2⟩ := repL_cons.mp r
    unfold VM.fget at h
    show List.lookup (an n) ((an k, v) :: attrs ks vr) = none
    by_cases hk : k = n
    · rw [if_pos hk] at h
      cases h
    · rw [if_neg hk] at h
      have hne : (an n == an k) = false := beq_eq_false_iff_ne.mpr fun e => hk (an_inj e).symm
      simp only [List.lookup, hne]
      exact fget_none (by simpa using hl) r2 h
theorem fput_attrs : ∀ {ks : List Nat} {xs : List PV} {vs : List V} {K : PySem.W.Frag} {F : Hp} {μ : List Addr} {n : Nat} {y : PV} {z : V}, ks.length = xs.length → RepL K F μ xs vs → Rep K F μ y z →
    ∃ vs', putF (an n) z (attrs ks vs) = attrs (VM.fkeys ks n) vs' ∧ RepL K F μ (VM.fvals ks xs n y) vs' ∧ (VM.fkeys ks n).length = (VM.fvals ks xs n y).length
  | [], [], vs, K, F, μ, n, y, z, hl, r, ry => ⟨[z], rfl, repL_cons.mpr ⟨z, [], rfl, ry, repL_nil.mpr rfl⟩, rfl⟩
  | [], _ :: _, vs, K, F, μ, n, y, z, hl, r, ry => by cases hl
  | k :: ks, [], vs, K, F, μ, n, y, z, hl, r, ry => by cases hl
  | k :: ks, x :: xs, vs, K, F, μ, n, y, z, hl, r, ry => by
    obtain ⟨v, vr, rfl, r1, r2⟩ := repL_cons.mp r
    show ∃ vs', putF (an n) z ((an k, v) :: attrs ks vr) = _ ∧ _
    unfold VM.fkeys VM.fvals
    by_cases hk : k = n
    · rw [if_pos hk, if_pos hk]
      refine ⟨z :: vr, ?_, repL_cons.mpr ⟨z, vr, rfl, ry, r2⟩, by simpa using hl⟩
      show (if an k = an n then (an k, z) :: attrs ks vr else _) = _
      rw [if_pos (by rw [hk])]
      rfl
    · rw [if_neg hk, if_neg hk]
      obtain ⟨vs', h1, h2, h3⟩ := fput_attrs (n := n) (by simpa using hl) r2 ry
      refine ⟨v :: vs', ?_, repL_cons.mpr ⟨v, vs', rfl, r1, h2⟩, by simpa using h3⟩
      show (if an k = an n then _ else (an k, v) :: putF (an n) z (attrs ks vr)) = _
      rw [if_neg (fun e => hk (an_inj e)), h1]
      rfl
theorem inst_rep {K : PySem.W.Frag} {G F : Hp} {μ : List Addr} {st : Store} {H : Hp} {u : PV} {v : V} {c : Nat} (l : Lay K G F μ st H) (r : Rep K F μ u v) (h : VM.clsOf st u = some c) :
    ∃ a dx ks xs vs, v = .ref a ∧ H a = some (.ins (cA K c) dx (attrs ks vs)) ∧ ks.length = xs.length ∧ RepL K F μ xs vs ∧ ∀ n, VM.fldOf st u n = VM.fget ks xs n := by
  cases u <;> simp only [VM.clsOf] at h <;> try (cases h; done)
  case obj c' ks xs =>
    cases h
    unfold Rep at r
    obtain ⟨a, dx, vs, h1, h2, h3, h4⟩ := r
    exact ⟨a, dx, ks, xs, vs, h1, l.same _ _ h2, h3, h4, fun n => rfl⟩
  case ref i =>
    cases e : st[i]? with
    | none => rw [e] at h; cases h
    | some o =>
      rw [e] at h
      cases o <;> simp only at h <;> try (cases h; done)
      rename_i c' ks xs
      cases h
      obtain ⟨a, h1, h2⟩ := rep_ref.mp r
      obtain ⟨_, dx, vs, h3, h4, h5⟩ := l.obj i a _ h1 e
      exact ⟨a, dx, ks, xs, vs, h2, h3, h4, h5, fun n => by simp only [VM.fldOf, e]⟩
structure FC (P : Program) (w : World) (K : PySem.W.Frag) (mg : Str → Option Value) (base : Heap) (cs : VM.CS) (k i : Nat) (f : Addr) : Prop where
  ex : ∃ fd ps, FnOk P w K mg base CX0 k f fd ps (spOf K cs i ps.length) ∧ Binds K fd ps [] ∧ ∀ us st k x, cs i us st k x → us.length = ps.length
structure CI (K : PySem.W.Frag) (c : Nat) : Prop where
  cls : Cls K (cA K c)
  ha : PySem.W.findIn K (.ref (cA K c)) "__class__" = some (some (.builtin "object.__class__"))
  hn : PySem.W.specialIn K (.builtin "object.__class__") "__get__" = some (some (.builtin "getset_descriptor.__get__"))
  htk : PySem.W.takesIn K (.builtin "object.__class__") = some true
  hm : PySem.W.mroIn K (cA K c) (.type "object") = some true
  sf : PySem.W.selfFirst K (cA K c) = true
section
variable (P : Program) (w : World) (K : PySem.W.Frag) (mg : Str → Option Value) (base : Heap) (cs : VM.CS) (k : Nat)
def MethT (t : VM.Tab) (m : Str) : Prop := ∀ c i, VM.tget t c = some i → ∃ f, Cls K (cA K c) ∧ Meth K (cA K c) m f ∧ FC P w K mg base cs k i f
def PropT (t : VM.Tab) (m : Str) : Prop := ∀ c i, VM.tget t c = some i → ∃ p g, Cls K (cA K c) ∧ PropOf K (cA K c) m p g ∧ FC P w K mg base cs k i g
def FldT (ft : List Nat) (n : Nat) : Prop := ∀ c, ft.contains c = true → Cls K (cA K c) ∧ NoAttr K (cA K c) (an n)
def DunT (t : VM.Tab) (m : Str) : Prop := ∀ c i, VM.tget t c = some i → ∃ f, CI K c ∧ PySem.W.findIn K (.ref (cA K c)) m = some (some (.ref f)) ∧ PySem.W.isFn K (.ref f) = true ∧ FC P w K mg base cs k i f
end
section
variable {X : Cx} {a b c e o : Expr} {ta tb tc te : VM.TE} {t1 t2 : VM.TT} {pos p2 p apos : Pos} {es rest : List Expr} {tas : VM.TA} {x m : Str} {k : Nat} {f : Addr} {cs : VM.CS} {i n : Nat}
/-- a call of a def by its values, where this def stands -/
theorem run_fc {pins : List (Addr × Obj)} {σ : L2.St} {s : Shared} {H : Hp} {us : List Value} {vs : List V} {pvs : List PV} {G F : Hp} {μ : List Addr} {st : Store} {kk : VM.KV} {Q : VK} (C : FC X.prog X.w X.K X.mg X.base cs k i f) (hr : Room k X.A) (I : Inv X pins σ H s) (r : Vals vs us)
    (l : Lay X.K G F μ st H) (rp : RepL X.K F μ pvs vs) (hc : cs i pvs st kk nox) (hk : Kon X.K G F μ kk Q) : wpAny (model X.prog X.w) X.A (call (.ref f) us) (EP X pins σ Q) X.xe s := by
  obtain ⟨fd, ps, ok, bn, len⟩ := C.ex
  have := run_fn (E := E0) ok hr bn .nil pass0 I r (Q := Q) (by
    rw [List.append_nil]
    exact ⟨by rw [rp.length]; exact len _ _ _ _ hc, G, F, μ, st, pvs, kk, l, rp, hc, hk⟩)
  exact this
/-- the same from within a built-in -/
theorem run_fcA {A : Around} {E' : Value → Shared → Prop} {pins : List (Addr × Obj)} {σ : L2.St} {s : Shared} {H : Hp} {us : List Value} {vs : List V} {pvs : List PV} {G F : Hp} {μ : List Addr} {st : Store} {kk : VM.KV} {Q : VK} (C : FC X.prog X.w X.K X.mg X.base cs k i f) (hr : Room k A) (hfr : A.frames = X.A.frames) (I : Inv X pins σ H s) (r : Vals vs us)
    (l : Lay X.K G F μ st H) (rp : RepL X.K F μ pvs vs) (hc : cs i pvs st kk nox) (hk : Kon X.K G F μ kk Q) : wpAny (model X.prog X.w) A (call (.ref f) us) (EP X pins σ Q) E' s := by
  obtain ⟨fd, ps, ok, bn, len⟩ := C.ex
  have hsp : spOf X.K cs i ps.length vs H Q E0 := ⟨by rw [rp.length]; exact len _ _ _ _ hc, G, F, μ, st, pvs, kk, l, rp, hc, hk⟩
  have e0 : Env0 X.prog X.w X.K X.mg X.base A X.stack s H := by
    have e := I.env0
    exact ⟨by rw [hfr]; exact e.frames, e.mod, e.bs, e.bsz, e.funs, e.frf, e.hok, e.bare⟩
  refine wpAny_call (codeAny_mono (ok.run A X.stack s H ⟨us, []⟩ us vs Q E0 hr e0 (by
    have := bn s us I.kIn (by
      rw [List.append_nil, ← r.length, rp.length]
      exact len _ _ _ _ hc)
    rw [List.append_nil] at this
    exact this) r hsp) fun r s' hq => ?_)
  cases r with
  | error e => exact hq.elim
  | ok fl =>
    cases fl with
    | ret w => exact I.after hq
    | next => exact False.elim hq
    | brk => exact False.elim hq
    | cont => exact False.elim hq
/-- what an own instance is, for the machine -/
theorem inst_look {pins : List (Addr × Obj)} {σ : L2.St} {H : Hp} {s : Shared} {a C dx : Addr} {fs : List (Str × V)} (I : Inv X pins σ H s) (e : H a = some (.ins C dx fs)) : ∃ od, PySem.W.InstAt s.heap a (PySem.W.instObj C dx) C (some od) := by
  obtain ⟨mA, O, _⟩ := ins_get I.hok e
  obtain ⟨od, J, _⟩ := O.look
  exact ⟨od, J⟩
theorem ve_fld {pt : VM.Tab} {ft : List Nat} (ha : VE X a ta) (hn : an n = m) (hp : PropT X.prog X.w X.K X.mg X.base cs k pt m) (hf : FldT X.K ft n) (hr : Room (k + 1) X.A)
    (hb : attributeBase a m X.env (eval a X.env) = eval a X.env := by rfl) : VE X (.Attribute a m pos) (VM.eFld cs pt ft n ta) := by
  refine ⟨fun pins s σ H Q I h => ?_⟩
  obtain ⟨G, F, μ, ρ, st, kk, l, r, d, hk⟩ := h
  refine attr_of hb (thn (ha.run pins s σ H (fun v H1 => ∃ G F μ px st1 k1, Lay X.K G F μ st1 H1 ∧ Rep X.K F μ px v ∧ VM.fldRun cs pt ft n px st1 k1 nox ∧ Kon X.K G F μ k1 Q) I
    (bind1 l r d fun v H1 F1 μ1 px st1 e1 l1 r1 p1 q1 => ⟨G, F1, μ1, px, st1, kk, l1, p1, q1, hk.mono e1⟩)) fun u s1 ⟨v, H1, I1, rx, G1, F1, μ1, px, st1, k1, l1, p1, q1, hk1⟩ => ?_)
  unfold VM.fldRun at q1
  split at q1
  · rename_i c ec
    obtain ⟨x, dx, ks, xs, vs, rfl, ea, hl, rl, hfl⟩ := inst_rep l1 p1 ec
    obtain rfl : u = Value.ref x := rx
    split at q1
    · rename_i f' ef
      obtain ⟨pp, g, cl, po, C⟩ := hp c f' ef
      obtain ⟨fd, ps, ok, bn, len⟩ := C.ex
      refine getprop_ok (E := E0) (dvs := []) (ds := []) I1 ea cl po ok hr bn .nil pass0 ?_
      exact ⟨by have := len _ _ _ _ q1; simpa using this, G1, F1, μ1, st1, [px], k1, l1, repL_cons.mpr ⟨.ref x, [], rfl, p1, repL_nil.mpr rfl⟩, q1, hk1⟩
    · obtain ⟨hc, q1⟩ := q1
      obtain ⟨cl, na⟩ := hf c hc
      rw [hfl n] at q1
      split at q1
      · rename_i y ey
        obtain ⟨v, h1, h2⟩ := fget_attrs rl ey
        rw [hn] at na h1
        exact getattr_ok I1 ea cl na h1 fun u' s2 I2 ru => ⟨v, H1, I2, ru, hk1.same l1 h2 q1⟩
      · exact q1.elim
  · exact q1.elim
/-- self.f = e -/
theorem vs_setfld {ft : List Nat} {te : VM.TE} {pos' : Pos} (he : VE X e te) (ha : VE X a ta) (hn : an n = m) (hf : FldT X.K ft n) (hs : swapsWith e (some (.Attribute a m pos')) pos.line X.env = pure false := by rfl) :
    VSt X (.Assign [.Attribute a m pos'] e pos) (VM.sSetFld ft n ta te) := ps_imp (ps_fld ha he hs) fun D σ H h => by
  obtain ⟨G, F, μ, ρ, st, DV, l, r, d, hk⟩ := h
  unfold VM.sSetFld at d
  rw [hk.xk] at d
  refine bind1 l r d fun y H1 F1 μ1 py st1 e1 l1 r1 p1 q1 => ?_
  refine bind1 l1 r1 q1 fun v H2 F2 μ2 pv st2 e2 l2 r2 p2 q2 => ?_
  split at q2
  · rename_i j
    split at q2
    · rename_i c ks xs ej
      obtain ⟨hc, hlt, q2⟩ := q2
      obtain ⟨x, h1, rfl⟩ := rep_ref.mp p2
      obtain ⟨hF, dx, vs, h3, h4, h5⟩ := l2.obj j x _ h1 ej
      obtain ⟨cl, na⟩ := hf c hc
      obtain ⟨vs', e3, r3, l3⟩ := fput_attrs (n := n) h4 h5 (p1.mono e2)
      rw [hn] at na e3
      refine ⟨x, cA X.K c, dx, attrs ks vs, rfl, h3, cl, na, ?_, ?_⟩
      · unfold attrs
        rw [List.length_zip, List.length_map]
        omega
      · rw [e3]
        refine hk.nx σ _ F2 μ2 ρ _ (e1.trans e2) (l2.put h1 ?_ hF) r2 q2
        exact ⟨hF, dx, vs', upd_same, l3, r3⟩
    · exact q2.elim
  · exact q2.elim
end
end VS
end
section
namespace VS
open PySem PySem.Spec PyProof.Rows L2
open VM (PV SO Store)
section
variable {K : PySem.W.Frag} {G F F' : Hp} {μ μ' : List Addr} {H : Hp} {st : Store}
/-- a further object that nothing looks at -/
theorem Lay.extra (l : Lay K G F μ st H) {p : Addr} {o : HO} (h : H p = none) : Lay K G F μ st (upd H p o) where
  gd := fun a u e => by
    obtain ⟨h1, h2, h3⟩ := l.gd a u e
    exact ⟨by rw [upd_ne (ne_of_none h1 h)]; exact h1, h2, h3⟩
  same := fun a v e => by rw [upd_ne (ne_of_none (l.same a v e) h)]; exact l.same a v e
  len := l.len
  nd := l.nd
  there := fun a ha => by
    by_cases q : a = p
    · exact ⟨o, by rw [q]; exact upd_same⟩
    · rw [upd_ne q]
      exact l.there a ha
  obj := fun i a v h1 h2 => by
    have q : a ≠ p := fun z => l.notin h (z ▸ List.mem_of_getElem? h1)
    exact (l.obj i a v h1 h2).mono Ext.refl rfl (upd_ne q)
/-- an instance that changes no more -/
theorem Lay.freeze (l : Lay K G F μ st H) {i c : Nat} {a : Addr} {ks : List Nat} {xs : List PV} (hi : μ[i]? = some a) (hs : st[i]? = some (.ins c ks xs)) :
    ∃ F', Ext F μ F' μ ∧ Lay K G F' μ (st.set i .dead) H ∧ Rep K F' μ (.obj c ks xs) (.ref a) := by
  obtain ⟨hF, dx, vs, h1, h2, h3⟩ := l.obj i a _ hi hs
  have ext : Ext F μ (upd F a (.ins (cA K c) dx (attrs ks vs))) μ := ⟨fun b o e => by rw [upd_ne (ne_of_none e hF)]; exact e, [], by simp⟩
  refine ⟨upd F a (.ins (cA K c) dx (attrs ks vs)), ext, ?_, ?_⟩
  · refine ⟨fun b o e => ?_, fun b o e => ?_, by rw [List.length_set]; exact l.len, l.nd, l.there, fun j b o h4 h5 => ?_⟩
    · obtain ⟨g1, g2, g3⟩ := l.gd b o e
      have q : b ≠ a := fun z => g3 (by rw [z]; exact List.mem_of_getElem? hi)
      exact ⟨g1, by rw [upd_ne q]; exact g2, g3⟩
    · by_cases q : b = a
      · subst q
        rw [upd_same] at e
        cases e
        exact h1
      · rw [upd_ne q] at e
        exact l.same b o e
    · by_cases e : i = j
      · subst e
        rw [List.getElem?_set_self (by rw [← l.len]; exact (List.getElem?_eq_some_iff.mp hi).1)] at h5
        cases h5
        trivial
      · rw [List.getElem?_set_ne e] at h5
        have q : b ≠ a := fun z => by
          subst z
          obtain ⟨hi1, e1⟩ := List.getElem?_eq_some_iff.mp hi
          obtain ⟨hj1, e2⟩ := List.getElem?_eq_some_iff.mp h4
          exact e ((List.getElem_inj l.nd).mp (e1.trans e2.symm))
        exact (l.obj j b o h4 h5).mono ext (upd_ne q) rfl
  · unfold Rep
    exact ⟨a, dx, vs, rfl, upd_same, h2, h3.mono ext⟩
end
structure FCD (P : Program) (w : World) (K : PySem.W.Frag) (mg : Str → Option Value) (base : Heap) (cs : VM.CS) (k i : Nat) (f : Addr) (dvs : List V) : Prop where
  ex : ∃ fd ps ds, FnOk P w K mg base CX0 k f fd ps (spOf K cs i ps.length) ∧ Binds K fd ps ds ∧ Vals dvs ds ∧ ∀ us st k x, cs i us st k x → us.length = ps.length
theorem FC.d {P : Program} {w : World} {K : PySem.W.Frag} {mg : Str → Option Value} {base : Heap} {cs : VM.CS} {k i : Nat} {f : Addr} (C : FC P w K mg base cs k i f) : FCD P w K mg base cs k i f [] := by
  obtain ⟨fd, ps, h1, h2, h3⟩ := C.ex
  exact ⟨fd, ps, [], h1, h2, .nil, h3⟩
theorem repL_app_right {K : PySem.W.Frag} {F : Hp} {μ : List Addr} {xs ds : List PV} {vs us : List V} (r : RepL K F μ xs vs) (rd : RepL K F μ ds us) : RepL K F μ (xs ++ ds) (vs ++ us) := r.append rd
section
variable {X : Cx} {a b c e o : Expr} {ta tb tc te : VM.TE} {t1 t2 : VM.TT} {pos p2 p apos : Pos} {es rest : List Expr} {tas : VM.TA} {x m : Str} {k : Nat} {f : Addr} {cs : VM.CS} {i n : Nat}
/-- the new instance's __init__, then what is wanted -/
theorem new_imp {cl : Nat} {C : Addr} (hC : C = cA X.K cl) {G F : Hp} {μ : List Addr} {st : Store} {H : Hp} {pvs : List PV} {vs : List V} {kk : VM.KV} {Q : VK} {fz : Bool} (l : Lay X.K G F μ st H) (rp : RepL X.K F μ pvs vs)
    (hl : ∀ us st k x, cs i us st k x → us.length = n) (d : cs i (.ref st.length :: pvs) (st ++ [.ins cl [] []]) (fun v st' => VM.isNon v = true ∧ (if fz = true then (match st'[st.length]? with
      | some (.ins c' ks vs) => kk (.obj c' ks vs) (st'.set st.length .dead)
      | _ => False) else kk (.ref st.length) st')) nox) (hk : Kon X.K G F μ kk Q) :
    ∀ x dx, H x = none → H dx = none → dx ≠ x → spOf X.K cs i n (.ref x :: vs) (upd (upd H dx (.own x)) x (.ins C dx [])) (fun v H2 => v = .non ∧ Q (.ref x) H2) E0 := by
  intro x dx hx hdx hne
  subst hC
  have l1 : Lay X.K G F μ st (upd H dx (.own x)) := l.extra hdx
  have hx1 : (upd H dx (.own x)) x = none := by rw [upd_ne (Ne.symm hne)]; exact hx
  have l2 : Lay X.K G F (μ ++ [x]) (st ++ [.ins cl [] []]) (upd (upd H dx (.own x)) x (.ins (cA X.K cl) dx [])) := l1.alloc (u := .ins cl [] []) hx1 ⟨l1.free hx1, dx, [], upd_same, rfl, repL_nil.mpr rfl⟩
  have hix : (μ ++ [x])[st.length]? = some x := by
    rw [← l.len, List.getElem?_append_right (Nat.le_refl _)]
    simp
  refine ⟨?_, G, F, μ ++ [x], st ++ [.ins cl [] []], .ref st.length :: pvs, _, l2, repL_cons.mpr ⟨.ref x, vs, rfl, rep_ref.mpr ⟨x, hix, rfl⟩, rp.mono (ext_alloc x)⟩, d, fun v H' F' μ' y st' e l' r q => ?_⟩
  · have := hl _ _ _ _ d
    rw [← this, List.length_cons, List.length_cons, rp.length]
  · obtain ⟨q1, q2⟩ := q
    obtain rfl : y = .non := by cases y <;> first | rfl | cases q1
    refine ⟨rep_non.mp r, ?_⟩
    have e0 : Ext F μ F' μ' := (ext_alloc x).trans e
    have hix' : μ'[st.length]? = some x := e.get hix
    cases fz with
    | false => exact hk (.ref x) H' F' μ' (.ref st.length) st' e0 l' (rep_ref.mpr ⟨x, hix', rfl⟩) q2
    | true =>
      simp only [if_true] at q2
      split at q2
      · rename_i c' ks xs es
        obtain ⟨F2, e2, l3, r3⟩ := l'.freeze hix' es
        exact hk (.ref x) H' F2 μ' (.obj c' ks xs) _ (e0.trans e2) l3 r3 q2
      · exact q2.elim
theorem ve_new {cl : Nat} {dvs : List V} {pds : List PV} (M : Mk X.K (cA X.K cl) f) (C : FCD X.prog X.w X.K X.mg X.base cs k i f dvs) (hr : Room (k + 1) X.A) (hg : Gl X x) (hm : X.mg x = some (.ref (cA X.K cl))) (hd : ∀ F μ, RepL X.K F μ pds dvs) (ha : VA X (e :: es) tas)
    (hdb : (x == ("__debug__" : Str)) = false := by decide) (he : starEach (e :: es) X.env = (false, eval e X.env) :: starEach es X.env := by rfl) (hpl : (backTo pos (starEach es X.env)).any (·.1) = false := by rfl) :
    VE X (.Call (.Name x p) (e :: es) [] pos) (VM.eNew cs cl i (VM.aDfl tas pds)) := by
  obtain ⟨fd, ps, ds, ok, bn, vd, len⟩ := C.ex
  refine pe_imp (pe_make (E := E0) M ok hr hg hm bn vd pass0 ha hdb he hpl) fun σ H Q h => ?_
  obtain ⟨G, F, μ, ρ, st, kk, l, r, d, hk⟩ := h
  refine bindA l r d fun vs H1 F1 μ1 pvs st1 e1 l1 r1 p1 q1 => ?_
  exact new_imp (fz := true) (n := ps.length) rfl l1 (p1.append (hd F1 μ1)) len q1 (hk.mono e1)
theorem ve_new0 {cl : Nat} {dvs : List V} {pds : List PV} (M : Mk X.K (cA X.K cl) f) (C : FCD X.prog X.w X.K X.mg X.base cs k i f dvs) (hr : Room (k + 1) X.A) (hg : Gl X x) (hm : X.mg x = some (.ref (cA X.K cl))) (hd : ∀ F μ, RepL X.K F μ pds dvs)
    (hdb : (x == ("__debug__" : Str)) = false := by decide) : VE X (.Call (.Name x p) [] [] pos) (VM.eNew cs cl i (VM.aDfl VM.aNil pds)) := by
  obtain ⟨fd, ps, ds, ok, bn, vd, len⟩ := C.ex
  refine pe_imp (pe_make0 (E := E0) M ok hr hg hm bn vd pass0 hdb) fun σ H Q h => ?_
  obtain ⟨G, F, μ, ρ, st, kk, l, r, d, hk⟩ := h
  exact new_imp (fz := true) (n := ps.length) (pvs := pds) rfl l (hd F μ) len d hk
theorem ve_newM {cl : Nat} {dvs : List V} {pds : List PV} (M : Mk X.K (cA X.K cl) f) (C : FCD X.prog X.w X.K X.mg X.base cs k i f dvs) (hr : Room (k + 1) X.A) (hg : Gl X x) (hm : X.mg x = some (.ref (cA X.K cl))) (hd : ∀ F μ, RepL X.K F μ pds dvs) (ha : VA X (e :: es) tas)
    (hdb : (x == ("__debug__" : Str)) = false := by decide) (he : starEach (e :: es) X.env = (false, eval e X.env) :: starEach es X.env := by rfl) (hpl : (backTo pos (starEach es X.env)).any (·.1) = false := by rfl) :
    VE X (.Call (.Name x p) (e :: es) [] pos) (VM.eNewM cs cl i (VM.aDfl tas pds)) := by
  obtain ⟨fd, ps, ds, ok, bn, vd, len⟩ := C.ex
  refine pe_imp (pe_make (E := E0) M ok hr hg hm bn vd pass0 ha hdb he hpl) fun σ H Q h => ?_
  obtain ⟨G, F, μ, ρ, st, kk, l, r, d, hk⟩ := h
  refine bindA l r d fun vs H1 F1 μ1 pvs st1 e1 l1 r1 p1 q1 => ?_
  exact new_imp (fz := false) (n := ps.length) rfl l1 (p1.append (hd F1 μ1)) len (by simpa using q1) (hk.mono e1)
theorem ve_meth {mt : VM.Tab} {pl : Sem Bool} (ho : VE X o ta) (hn : an n = m) (hm : MethT X.prog X.w X.K X.mg X.base cs k mt m) (hr : Room k X.A) (ha : VA X (e :: es) tas)
    (hst : starEach (e :: es) X.env = (false, eval e X.env) :: starEach es X.env := by rfl) (hpl : (backTo pos (starEach es X.env)).any (·.1) = false := by rfl)
    (ht : eval (.Call (.Attribute o m apos) (e :: es) [] pos) X.env = (do
      let ov ← eval o X.env
      standAt apos.atName
      let (f, first) ← holding [ov] (getMethod ov m pl)
      callWith pos f first (backTo pos (starEach (e :: es) X.env)) (backToKw pos (keywordEach [] X.env))) := by rfl) :
    VE X (.Call (.Attribute o m apos) (e :: es) [] pos) (VM.eMeth cs mt n ta tas) := by
  refine ⟨fun pins s σ H Q I h => ?_⟩
  obtain ⟨G, F, μ, ρ, st, kk, l, r, d, hk⟩ := h
  refine PySem.W.methodCall_KW (pl := pl) (thn (ho.run pins s σ H (fun v H1 => ∃ c i' G F μ st1 px, Rep X.K F μ px v ∧ Lay X.K G F μ st1 H1 ∧ EnvR X.K F μ σ ρ ∧ Kon X.K G F μ kk Q ∧ VM.clsOf st1 px = some c ∧ VM.tget mt c = some i' ∧ VM.fldOf st1 px n = none ∧ tas ρ st1 (fun us st => cs i' (px :: us) st kk nox) nox) I
    (bind1 l r d fun v H1 F1 μ1 px st1 e1 l1 r1 p1 q1 => ?_)) fun u s1 ⟨v, H1, I1, rx, c, i', G1, F1, μ1, st1, px, p1, l1, r1, hk1, hc, hi, hfn, q1⟩ => ?_) ht
  · split at q1
    · rename_i c ec
      split at q1
      · rename_i i' ei
        exact ⟨c, i', G, F1, μ1, st1, px, p1, l1, r1, hk.mono e1, ec, ei, q1.1, q1.2⟩
      · exact q1.elim
    · exact q1.elim
  obtain ⟨x, dx, ks, xs, vs, rfl, ea, hl, rl, hfl⟩ := inst_rep l1 p1 hc
  obtain rfl : u = Value.ref x := rx
  obtain ⟨f', cl, me, C⟩ := hm c i' hi
  rw [hfl n] at hfn
  have hlk := fget_none hl rl hfn
  rw [hn] at hlk
  refine getmeth_ok I1 ea cl me hlk ?_
  refine PySem.W.callWith_K (first := [.ref x]) (h₀ := X.base) I1.ok.mod.kin me.kp (thn (ha.run pos pins s1 σ H1 (fun vs H2 => ∃ F2 μ2 st2 pvs, Ext F1 μ1 F2 μ2 ∧ Lay X.K G1 F2 μ2 st2 H2 ∧ RepL X.K F2 μ2 pvs vs ∧ cs i' (px :: pvs) st2 kk nox) I1
    (bindA l1 r1 q1 fun vs H2 F2 μ2 pvs st2 e2 l2 r2 p2 q2 => ⟨F2, μ2, st2, pvs, e2, l2, p2, q2⟩)) fun us s2 ⟨vs2, H2, I2, r2, F2, μ2, st2, pvs, e2, l2, p2, q2⟩ => ⟨I2.kIn, ?_⟩) hst hpl
  exact run_fc (us := .ref x :: us) (vs := .ref x :: vs2) C hr I2 (.cons rfl r2) l2 (repL_cons.mpr ⟨.ref x, vs2, rfl, p1.mono e2, p2⟩) q2 (hk1.mono e2)
theorem ve_meth0 {mt : VM.Tab} {pl : Sem Bool} (ho : VE X o ta) (hn : an n = m) (hm : MethT X.prog X.w X.K X.mg X.base cs k mt m) (hr : Room k X.A)
    (ht : eval (.Call (.Attribute o m apos) [] [] pos) X.env = (do
      let ov ← eval o X.env
      standAt apos.atName
      let (f, first) ← holding [ov] (getMethod ov m pl)
      callWith pos f first (backTo pos (starEach [] X.env)) (backToKw pos (keywordEach [] X.env))) := by rfl) :
    VE X (.Call (.Attribute o m apos) [] [] pos) (VM.eMeth cs mt n ta VM.aNil) := by
  refine ⟨fun pins s σ H Q I h => ?_⟩
  obtain ⟨G, F, μ, ρ, st, kk, l, r, d, hk⟩ := h
  refine PySem.W.methodCall_KW (pl := pl) (thn (ho.run pins s σ H (fun v H1 => ∃ c i' G F μ st1 px, Rep X.K F μ px v ∧ Lay X.K G F μ st1 H1 ∧ Kon X.K G F μ kk Q ∧ VM.clsOf st1 px = some c ∧ VM.tget mt c = some i' ∧ VM.fldOf st1 px n = none ∧ cs i' [px] st1 kk nox) I
    (bind1 l r d fun v H1 F1 μ1 px st1 e1 l1 r1 p1 q1 => ?_)) fun u s1 ⟨v, H1, I1, rx, c, i', G1, F1, μ1, st1, px, p1, l1, hk1, hc, hi, hfn, q1⟩ => ?_) ht
  · split at q1
    · rename_i c ec
      split at q1
      · rename_i i' ei
        exact ⟨c, i', G, F1, μ1, st1, px, p1, l1, hk.mono e1, ec, ei, q1.1, q1.2⟩
      · exact q1.elim
    · exact q1.elim
  obtain ⟨x, dx, ks, xs, vs, rfl, ea, hl, rl, hfl⟩ := inst_rep l1 p1 hc
  obtain rfl : u = Value.ref x := rx
  obtain ⟨f', cl, me, C⟩ := hm c i' hi
  rw [hfl n] at hfn
  have hlk := fget_none hl rl hfn
  rw [hn] at hlk
  refine getmeth_ok I1 ea cl me hlk ?_
  exact PySem.W.callWith_K0 (first := [.ref x]) I1.kIn me.kp (run_fc (us := [.ref x]) (vs := [.ref x]) C hr I1 (.cons rfl .nil) l1 (repL_cons.mpr ⟨.ref x, [], rfl, p1, repL_nil.mpr rfl⟩) q1 hk1)
end
end VS
end
section
namespace VS
open PySem PySem.Spec PyProof.Rows L2
open VM (PV SO Store)
structure IntOp (op : Operator) : Prop where
  fill : fillsNumberSlot (.type "int") op.info.2 = pure true
  ex : ∃ id B, Slot "int" (PySem.dunder op.info.2) id ∧ entryFor table id = some B ∧ ∀ (i : Int) (tk : Tok) (y : Addr), argsOk id ⟨[.int i tk, .ref y], []⟩ ∧ GivesAt (VO.Plain y) (B ⟨[.int i tk, .ref y], []⟩) (.val .notImplemented)
theorem intop_add : IntOp .Add := ⟨PySem.F.fills_int_add, "int.__add__", _, PySem.F.slot_int_add, PySem.F.entry_int_add, fun _ _ _ => ⟨PySem.F.args_int_add_2 _ _, VO.int_add_declines⟩⟩
theorem intop_sub : IntOp .Sub := ⟨PySem.F.fills_int_sub, "int.__sub__", _, PySem.F.slot_int_sub, PySem.F.entry_int_sub, fun _ _ _ => ⟨PySem.F.args_int_sub_2 _ _, VO.int_sub_declines⟩⟩
theorem intop_mul : IntOp .Mult := ⟨PySem.F.fills_int_mul, "int.__mul__", _, PySem.F.slot_int_mul, PySem.F.entry_int_mul, fun _ _ _ => ⟨PySem.F.args_int_mul_2 _ _, VO.int_mul_declines⟩⟩
section
variable (P : Program) (w : World) (K : PySem.W.Frag) (mg : Str → Option Value) (base : Heap) (cs : VM.CS) (k : Nat)
/-- own operators on the left -/
def BinT (t : VM.Tab) (op : Operator) : Prop := ∀ c i, VM.tget t c = some i → ∃ f rc, CI K c ∧ PySem.W.findIn K (.ref (cA K c)) (PySem.dunder op.info.2) = some (some (.ref f)) ∧ PySem.W.isFn K (.ref f) = true ∧
  PySem.W.findIn K (.ref (cA K c)) (dunderR op.info.2) = some rc ∧ (rc = none ∨ ∃ g : Addr, rc = some (.ref g)) ∧ (∃ fo ro, PySem.W.findIn K (.type "int") (PySem.dunder op.info.2) = some fo ∧ PySem.W.findIn K (.type "int") (dunderR op.info.2) = some ro) ∧
  PySem.W.subIn K (.type "int") (.ref (cA K c)) = some false ∧ FC P w K mg base cs k i f
/-- own operators on the right of an int -/
def RefT (t : VM.Tab) (op : Operator) : Prop := ∀ c i, VM.tget t c = some i → ∃ f g, CI K c ∧ PySem.W.findIn K (.ref (cA K c)) (PySem.dunder op.info.2) = some (some (.ref f)) ∧
  PySem.W.findIn K (.ref (cA K c)) (dunderR op.info.2) = some (some (.ref g)) ∧ PySem.W.isFn K (.ref g) = true ∧ PySem.W.subIn K (.ref (cA K c)) (.type "int") = some false ∧ FC P w K mg base cs k i g
/-- own == -/
def EqT (t : VM.Tab) : Prop := ∀ c i, VM.tget t c = some i → ∃ f, CI K c ∧ PySem.W.findIn K (.ref (cA K c)) "__eq__" = some (some (.ref f)) ∧ PySem.W.isFn K (.ref f) = true ∧
  PySem.W.findIn K (.ref (cA K c)) "__ne__" = some (some (.builtin "object.__ne__")) ∧ (∀ T ∈ ["NoneType", "bool", "int", "str"], PySem.W.notFirst K (cA K c) (.type T) = true) ∧ FC P w K mg base cs k i f
end
section
variable {X : Cx} {a b c e o : Expr} {ta tb tc te : VM.TE} {t1 t2 : VM.TT} {pos p2 p apos : Pos} {es rest : List Expr} {tas : VM.TA} {x m : Str} {k : Nat} {f : Addr} {cs : VM.CS} {i n : Nat}
theorem cmpback {pins : List (Addr × Obj)} {σ : L2.St} {Q : VK} {u : Value} {s' : Shared} (h : EP X pins σ Q u s') : PySem.W.CmpBack (EP X pins σ Q) u s' := by
  obtain ⟨v, H', I', r, q⟩ := id h
  cases u <;> first | exact h | skip
  cases v <;> first | (cases r; done) | (obtain ⟨_, e⟩ := r; cases e; done)
theorem o_own {op : Operator} {o : VM.Op} {lt rt : VM.Tab} (hb : OpR X (binaryOp op) (R2of X.K (VM.opBin o))) (hl : BinT X.prog X.w X.K X.mg X.base cs k lt op) (hrt : RefT X.prog X.w X.K X.mg X.base cs k rt op) (hi : IntOp op) (hr : Room k X.A) :
    OpR X (binaryOp op) (R2of X.K fun u v st kk => VM.opOwn cs lt rt o u v st kk nox) := by
  intro pins s σ H x y v u Q I rx ry h
  obtain ⟨G, F, μ, st, px, py, kk, l, p1, p2, d, hk⟩ := h
  obtain ⟨m, hF⟩ := I.fr
  unfold VM.opOwn at d
  split at d
  · rename_i c ec
    obtain ⟨xa, dx, ks, xs, vs, rfl, ea, hl1, rl1, _⟩ := inst_rep l p1 ec
    obtain rfl : v = Value.ref xa := rx
    obtain ⟨od, J⟩ := inst_look I ea
    split at d
    · rename_i f' ef
      obtain ⟨f, rc, ci, h1, h2, h3, h4, ⟨fo, ro, h5, h6⟩, h7, C⟩ := hl c f' ef
      split at d
      · rename_i j
        obtain rfl := rep_int.mp p2
        obtain ⟨tk, rfl⟩ := (show ∃ t, u = Value.int j t from ry)
        refine PySem.W.ksp_binT (T := "int") hF I.ok.mod.kin J rfl ci.sf h1 h2 h3 h4 h5 h6 h7 ?_
        refine wpAny_mono (run_fc (us := [.ref xa, .int j tk]) (vs := [.ref xa, .int j]) C hr I (.cons rfl (.cons ⟨tk, rfl⟩ .nil)) l (repL_cons.mpr ⟨_, _, rfl, p1, repL_cons.mpr ⟨_, _, rfl, rep_int.mpr rfl, repL_nil.mpr rfl⟩⟩) d hk) (fun _ _ z => cmpback z) fun _ _ z => z
      · split at d
        · rename_i c' ec'
          obtain ⟨rfl, d⟩ := d
          obtain ⟨ya, dy, ks', xs', vs', rfl, eb, hl2, rl2, _⟩ := inst_rep l p2 ec'
          obtain rfl : u = Value.ref ya := ry
          obtain ⟨od', J'⟩ := inst_look I eb
          refine VO.bin_same I.kIn J J' ci.sf h1 h2 ?_
          refine wpAny_mono (run_fc (us := [.ref xa, .ref ya]) (vs := [.ref xa, .ref ya]) C hr I (.cons rfl (.cons rfl .nil)) l (repL_cons.mpr ⟨_, _, rfl, p1, repL_cons.mpr ⟨_, _, rfl, p2, repL_nil.mpr rfl⟩⟩) d hk) (fun _ _ z => cmpback z) fun _ _ z => z
        · exact d.elim
    · exact d.elim
  · split at d
    · rename_i c ec
      obtain ⟨ya, dy, ks', xs', vs', rfl, eb, hl2, rl2, _⟩ := inst_rep l p2 ec
      obtain rfl : u = Value.ref ya := ry
      obtain ⟨od', J'⟩ := inst_look I eb
      split at d
      · rename_i f' j ef e2
        obtain ⟨f, g, ci, h1, h2, h3, h4, C⟩ := hrt c f' ef
        obtain rfl := rep_int.mp p1
        obtain ⟨tk, rfl⟩ := (show ∃ t, v = Value.int j t from rx)
        obtain ⟨id, B, slot, entry, hx⟩ := hi.ex
        obtain ⟨args, gv⟩ := hx j tk ya
        refine VO.bin_int I.kIn J' ci.sf h1 h2 h3 h4 hi.fill slot entry args gv ⟨_, _, J'.at_⟩ ?_
        refine wpAny_mono (run_fc (us := [.ref ya, .int j tk]) (vs := [.ref ya, .int j]) C hr I (.cons rfl (.cons ⟨tk, rfl⟩ .nil)) l (repL_cons.mpr ⟨_, _, rfl, p2, repL_cons.mpr ⟨_, _, rfl, rep_int.mpr rfl, repL_nil.mpr rfl⟩⟩) d hk) (fun _ _ z => cmpback z) fun _ _ z => z
      · exact d.elim
    · exact hb pins s σ H x y v u Q I rx ry ⟨G, F, μ, st, px, py, kk, l, p1, p2, d, hk⟩
theorem ve_binO {op : Operator} {o : VM.Op} {lt rt : VM.Tab} (ho : OpR X (binaryOp op) (R2of X.K fun u v st kk => VM.opOwn cs lt rt o u v st kk nox)) (ha : VE X a ta) (hb : VE X b tb) : VE X (.BinOp a op b pos) (VM.eBinO cs lt rt o ta tb) := pe_imp (pe_op ho ha hb) fun σ H Q h => by
  obtain ⟨G, F, μ, ρ, st, k, l, r, d, hk⟩ := h
  exact bind2 l r hk d
/-- -x -/
theorem un_own {nt : VM.Tab} (hn : DunT X.prog X.w X.K X.mg X.base cs k nt "__neg__") (hr : Room k X.A) : UnR X (unaryOp .USub) (fun x H Q => ∃ G F μ st px kk, Lay X.K G F μ st H ∧ Rep X.K F μ px x ∧ (match VM.clsOf st px with
    | some c => match VM.tget nt c with | some f => cs f [px] st kk nox | none => False
    | none => match px with | .int i => kk (.int (-i)) st | _ => False) ∧ Kon X.K G F μ kk Q) := by
  intro pins s σ H x v Q I rx h
  obtain ⟨G, F, μ, st, px, kk, l, p1, d, hk⟩ := h
  obtain ⟨m, hF⟩ := I.fr
  split at d
  · rename_i c ec
    obtain ⟨xa, dx, ks, xs, vs, rfl, ea, hl1, rl1, _⟩ := inst_rep l p1 ec
    obtain rfl : v = Value.ref xa := rx
    obtain ⟨od, J⟩ := inst_look I ea
    split at d
    · rename_i f' ef
      obtain ⟨f, ci, h1, h2, C⟩ := hn c f' ef
      refine PySem.W.ksp_neg hF I.ok.mod.kin J h1 h2 ?_
      exact run_fc (us := [.ref xa]) (vs := [.ref xa]) C hr I (.cons rfl .nil) l (repL_cons.mpr ⟨_, _, rfl, p1, repL_nil.mpr rfl⟩) d hk
    · exact d.elim
  · split at d
    · rename_i j hcls
      obtain rfl := rep_int.mp p1
      exact un_neg pins s σ H _ v Q I rx ⟨j, rfl, hk.same l (rep_int.mpr rfl) d⟩
    · exact d.elim
theorem ve_negO {nt : VM.Tab} (hn : DunT X.prog X.w X.K X.mg X.base cs k nt "__neg__") (hr : Room k X.A) (ha : VE X a ta) : VE X (.UnaryOp .USub a pos) (VM.eNegO cs nt ta) := pe_imp (pe_un (un_own hn hr) ha) fun σ H Q h => by
  obtain ⟨G, F, μ, ρ, st, k, l, r, d, hk⟩ := h
  exact bind1 l r d fun x H1 F1 μ1 px st1 e1 l1 r1 p1 q1 => ⟨G, F1, μ1, st1, px, k, l1, p1, q1, hk.mono e1⟩
theorem flat_type {K : PySem.W.Frag} {F : Hp} {μ : List Addr} {px : PV} {y : V} {u : Value} (h : VM.isFlat px = true) (p : Rep K F μ px y) (r : RelV y u) : ∃ T ∈ ["NoneType", "bool", "int", "str"], typeOf u = pure (.type T) := by
  cases px <;> simp only [VM.isFlat] at h <;> try (cases h; done)
  case non =>
    obtain rfl := rep_non.mp p
    cases (show u = Value.none from r)
    exact ⟨"NoneType", by simp, rfl⟩
  case bl b =>
    obtain rfl := rep_bl.mp p
    cases (show u = Value.bool b from r)
    exact ⟨"bool", by simp, rfl⟩
  case int j =>
    obtain rfl := rep_int.mp p
    obtain ⟨tk, rfl⟩ := (show ∃ t, u = Value.int j t from r)
    exact ⟨"int", by simp, rfl⟩
  case str z =>
    obtain ⟨_, rfl⟩ := rep_str.mp p
    obtain ⟨tk, rfl⟩ := (show ∃ t, u = Value.str _ t from r)
    exact ⟨"str", by simp, rfl⟩
theorem bool_back {pins : List (Addr × Obj)} {σ : L2.St} {G F : Hp} {μ : List Addr} {Q : VK} {k : Bool → Store → Prop} (hk : KonB X.K G F μ k fun b H' => Q (.bl b) H') : Kon X.K G F μ (fun r st => match r with | .bl b => k b st | _ => False) (fun v H' => ∃ b, v = .bl b ∧ Q (.bl b) H') := fun v H' F' μ' px st' e l r q => by
  dsimp only at q
  split at q
  · rename_i b
    exact ⟨b, rep_bl.mp r, hk b H' F' μ' st' e l q⟩
  · exact q.elim
theorem c_own {et : VM.Tab} (hb : OpR X (compareOp .Eq) (R2B X.K VM.opEq)) (he : EqT X.prog X.w X.K X.mg X.base cs k et) (hr : Room k X.A) (hu : X.A.units < cLine) : OpR X (compareOp .Eq) (R2B X.K fun u v st kk => VM.opEqO cs et u v st kk nox) := by
  intro pins s σ H x y v u Q I rx ry h
  obtain ⟨G, F, μ, st, px, py, kk, l, p1, p2, d, hk⟩ := h
  obtain ⟨m, hF⟩ := I.fr
  unfold VM.opEqO at d
  split at d
  · rename_i c ec
    obtain ⟨xa, dx, ks, xs, vs, rfl, ea, hl1, rl1, _⟩ := inst_rep l p1 ec
    obtain rfl : v = Value.ref xa := rx
    obtain ⟨od, J⟩ := inst_look I ea
    split at d
    · rename_i f' ef
      obtain ⟨f, ci, h1, h2, h3, h4, C⟩ := he c f' ef
      obtain ⟨hv, d⟩ := d
      have call : wpAny (model X.prog X.w) X.A (call (.ref f) [.ref xa, u]) (PySem.W.CmpBack (EP X pins σ Q)) X.xe s := by
        refine wpAny_mono (run_fc (us := [.ref xa, u]) (vs := [.ref xa, y]) C hr I (.cons rfl (.cons ry .nil)) l (repL_cons.mpr ⟨_, _, rfl, p1, repL_cons.mpr ⟨_, _, rfl, p2, repL_nil.mpr rfl⟩⟩) d (bool_back (pins := pins) (σ := σ) hk)) (fun u' s' z => ?_) fun _ _ z => z
        obtain ⟨v, H', I', r, b, rfl, q⟩ := z
        exact cmpback ⟨.bl b, H', I', r, q⟩
      show wpAny _ _ (richCompare .Eq (.ref xa) u) _ _ _
      rcases hv with hv | hv
      · obtain ⟨T, hT, e⟩ := flat_type hv p2 ry
        exact PySem.W.cmp_K (op := .Eq) (tb := .type T) hu hF I.ok.mod.kin J (PySem.W.Looks.of_pure e) (h4 T hT) h1 h2 call
      · obtain ⟨ya, dy, ks', xs', vs', rfl, eb, hl2, rl2, _⟩ := inst_rep l p2 hv
        obtain rfl : u = Value.ref ya := ry
        obtain ⟨od', J'⟩ := inst_look I eb
        exact PySem.W.cmp_K (op := .Eq) (tb := .ref (cA X.K c)) hu hF I.ok.mod.kin J J'.type (by simp [PySem.W.notFirst]) h1 h2 call
    · exact d.elim
  · exact hb pins s σ H x y v u Q I rx ry ⟨G, F, μ, st, px, py, kk, l, p1, p2, d, hk⟩
theorem c_neown {et : VM.Tab} (hb : OpR X (compareOp .NotEq) (R2B X.K fun x y st k => VM.opEq x y st fun b st => k (!b) st)) (he : EqT X.prog X.w X.K X.mg X.base cs k et) (hr : Room k X.A.in1) (hu : X.A.units < cLine) (hu1 : X.A.in1.units < cLine) :
    OpR X (compareOp .NotEq) (R2B X.K fun u v st kk => VM.opEqO cs et u v st (fun b st => kk (!b) st) nox) := by
  intro pins s σ H x y v u Q I rx ry h
  obtain ⟨G, F, μ, st, px, py, kk, l, p1, p2, d, hk⟩ := h
  unfold VM.opEqO at d
  split at d
  · rename_i c ec
    obtain ⟨xa, dx, ks, xs, vs, rfl, ea, hl1, rl1, _⟩ := inst_rep l p1 ec
    obtain rfl : v = Value.ref xa := rx
    obtain ⟨od, J⟩ := inst_look I ea
    split at d
    · rename_i f' ef
      obtain ⟨f, ci, h1, h2, h3, h4, C⟩ := he c f' ef
      obtain ⟨hv, d⟩ := d
      have call : wpAny (model X.prog X.w) X.A.in1 (call (.ref f) [.ref xa, u]) (fun v s' => ∃ r, v = .bool r ∧ EP X pins σ Q (.bool (!r)) s') X.xe s := by
        refine wpAny_mono (run_fcA (Q := fun v H' => ∃ b, v = .bl b ∧ Q (.bl (!b)) H') (us := [.ref xa, u]) (vs := [.ref xa, y]) C hr rfl I (.cons rfl (.cons ry .nil)) l (repL_cons.mpr ⟨_, _, rfl, p1, repL_cons.mpr ⟨_, _, rfl, p2, repL_nil.mpr rfl⟩⟩) d (fun v H' F' μ' px st' e l r q => ?_)) (fun u' s' z => ?_) fun _ _ z => z
        · dsimp only at q
          split at q
          · rename_i b
            exact ⟨b, rep_bl.mp r, hk (!b) H' F' μ' st' e l q⟩
          · exact q.elim
        · obtain ⟨v, H', I', r, b, rfl, q⟩ := z
          obtain rfl : u' = Value.bool b := r
          exact ⟨b, rfl, .bl (!b), H', I', rfl, q⟩
      show wpAny _ _ (richCompare .NotEq (.ref xa) u) _ _ _
      rcases hv with hv | hv
      · obtain ⟨T, hT, e⟩ := flat_type hv p2 ry
        exact VO.ne_K (tb := .type T) hu hu1 I.kIn J (PySem.W.Looks.of_pure e) (h4 T hT) ci.hm h3 h1 h2 call
      · obtain ⟨ya, dy, ks', xs', vs', rfl, eb, hl2, rl2, _⟩ := inst_rep l p2 hv
        obtain rfl : u = Value.ref ya := ry
        obtain ⟨od', J'⟩ := inst_look I eb
        exact VO.ne_K (tb := .ref (cA X.K c)) hu hu1 I.kIn J J'.type (by simp [PySem.W.notFirst]) ci.hm h3 h1 h2 call
    · exact d.elim
  · exact hb pins s σ H x y v u Q I rx ry ⟨G, F, μ, st, px, py, kk, l, p1, p2, d, hk⟩
theorem ve_cmpO {op : CmpOp} {o : VM.Cm} {et : VM.Tab} (ho : OpR X (compareOp op) (R2B X.K fun u v st kk => VM.opCmO cs et o u v st kk nox)) (ha : VE X a ta) (hb : VE X b tb) (hm : behindInMarks op b = false) : VE X (.Compare a [op] [b] pos) (VM.eCmpO cs et o ta tb) := pe_imp (pe_cmpR ho ha hb hm) fun σ H Q h => by
  obtain ⟨G, F, μ, ρ, st, k, l, r, d, hk⟩ := h
  exact bind2B l r (kon_b hk) d
theorem vt_cmpO {op : CmpOp} {o : VM.Cm} {et : VM.Tab} (ho : OpR X (compareOp op) (R2B X.K fun u v st kk => VM.opCmO cs et o u v st kk nox)) (ha : VE X a ta) (hb : VE X b tb) (hm : behindInMarks op b = false) : VT X (.Compare a [op] [b] pos) (VM.tCmpO cs et o ta tb) := pt_imp (pt_cmpR ho ha hb hm) fun σ H Q h => by
  obtain ⟨G, F, μ, ρ, st, k, l, r, d, hk⟩ := h
  exact bind2B (Q := fun x H' => ∃ k, x = .bl k ∧ Q k H') l r (fun b H' F' μ' st' e l q => ⟨b, rfl, hk b H' F' μ' st' e l q⟩) d
theorem kd_own {K : PySem.W.Frag} {G F : Hp} {μ : List Addr} {H : Hp} {st : Store} {px : PV} {v : V} {c : Nat} (l : Lay K G F μ st H) (r : Rep K F μ px v) (h : VM.clsOf st px = some c) (ci : CI K c) : TyX K H v (.ref (cA K c)) := by
  obtain ⟨xa, dx, ks, xs, vs, rfl, ea, hl1, rl1, _⟩ := inst_rep l r h
  exact .base (.ins ea ci.cls ci.ha ci.hn ci.htk ci.hm)
/-- what isinstance says, by the kinds of values: cl, all classes that may come -/
def IsiT (K : PySem.W.Frag) (C : Addr) (cl sup : List Nat) : Prop := (∀ T ∈ ["NoneType", "bool", "int", "str", "list", "tuple", "dict"], PySem.W.kitOne K (.type T) (.ref C) = some false) ∧ ∀ c ∈ cl, CI K c ∧ PySem.W.kitOne K (.ref (cA K c)) (.ref C) = some (sup.contains c)
end
end VS
end
section
namespace VS
open PySem PySem.Spec PyProof.Rows L2
open VM (PV SO Store)
section
variable {X : Cx} {a b c e o : Expr} {ta tb tc te : VM.TE} {t1 t2 : VM.TT} {pos p2 p apos : Pos} {es rest : List Expr} {tas : VM.TA} {x m : Str} {k : Nat} {f : Addr} {cs : VM.CS} {i n : Nat}
theorem kdS_mem (kd : VM.Kd) (h : kd ≠ .other) : kdS kd ∈ ["NoneType", "bool", "int", "str", "list", "tuple", "dict"] := by cases kd <;> first | (exact absurd rfl h) | decide
theorem ve_isiO {C : Addr} {cl sup : List Nat} {pc : Pos} (ha : VE X a ta) (hgc : Gl X x) (hmc : X.mg x = some (.ref C)) (hI : IsiT X.K C cl sup) (hg : Gl X "isinstance") (hm : X.mg "isinstance" = none) (hd : (x == ("__debug__" : Str)) = false := by decide)
    (he : starEach [a, .Name x pc] X.env = (false, eval a X.env) :: starEach [.Name x pc] X.env := by rfl) (he2 : starEach [.Name x pc] X.env = (false, eval (.Name x pc) X.env) :: starEach [] X.env := by rfl) (hpl : (backTo pos (starEach [.Name x pc] X.env)).any (·.1) = false := by rfl) :
    VE X (.Call (.Name "isinstance" p) [a, .Name x pc] [] pos) (VM.eB1 (VM.fIsiO cl sup) ta) :=
  pe_imp (pe_callB call_isi hg hm boot_isinstance (pa_cons ha (pa_cons (pe_glob (v := .ref C) hgc hmc rfl hd) pa_nil he2) he) (he := he) (hpl := hpl)) fun σ H Q h => by
    obtain ⟨G, F, μ, ρ, st, k, l, r, d, hk⟩ := h
    refine bind1 l r d fun v H1 F1 μ1 px st1 e1 l1 r1 p1 q1 => ?_
    unfold VM.fIsiO at q1
    split at q1
    · rename_i c ec
      obtain ⟨hc, q1⟩ := q1
      obtain ⟨ci, hk1⟩ := hI.2 c (by simpa using hc)
      exact ⟨v, _, _, _, _, rfl, .own C, kd_own l1 p1 ec ci, hk1, (hk.mono e1).same l1 (rep_bl.mpr rfl) q1⟩
    · obtain ⟨h1, q1⟩ := q1
      exact ⟨v, _, _, _, _, rfl, .own C, kd_rep l1 p1 h1, hI.1 _ (kdS_mem _ h1), (hk.mono e1).same l1 (rep_bl.mpr rfl) q1⟩
/-- a test by an own instance's truth -/
def TruT (P : Program) (w : World) (K : PySem.W.Frag) (mg : Str → Option Value) (base : Heap) (cs : VM.CS) (k : Nat) (bt : VM.Tab) : Prop := DunT P w K mg base cs k bt "__bool__"
theorem vt_ofO {bt : VM.Tab} (ha : VE X a ta) (hb : DunT X.prog X.w X.K X.mg X.base cs k bt "__bool__") (hr : Room k X.A) (he : ∀ whole, isTrue a X.env whole = (do let v ← whole; standAt a.pos; holding [v] (truthy v)) := by intro _; rfl) : VT X a (VM.tOfO cs bt [] ta) := by
  refine ⟨fun pins s σ H Q I h => ?_⟩
  obtain ⟨G, F, μ, ρ, st, kk, l, r, d, hk⟩ := h
  refine isTrue_plain (thn (ha.run pins s σ H (fun v H1 => ∃ G F μ px st1 k1, Lay X.K G F μ st1 H1 ∧ Rep X.K F μ px v ∧ VM.truthO cs bt [] px st1 k1 nox ∧ KonB X.K G F μ k1 Q) I
    (bind1 l r d fun v H1 F1 μ1 px st1 e1 l1 r1 p1 q1 => ⟨G, F1, μ1, px, st1, kk, l1, p1, q1, hk.mono e1⟩)) fun u s1 ⟨v, H1, I1, rx, G1, F1, μ1, px, st1, k1, l1, p1, q1, hk1⟩ => ?_) (he _)
  obtain ⟨m, hF⟩ := I1.fr
  unfold VM.truthO at q1
  split at q1
  · rename_i c ec
    obtain ⟨xa, dx, ks, xs, vs, rfl, ea, hl1, rl1, _⟩ := inst_rep l1 p1 ec
    obtain rfl : u = Value.ref xa := rx
    obtain ⟨od, J⟩ := inst_look I1 ea
    split at q1
    · rename_i f' ef
      obtain ⟨f, ci, h1, h2, C⟩ := hb c f' ef
      refine PySem.W.truthy_K hF I1.ok.mod.kin J h1 h2 (wpAny_mono (run_fc (us := [.ref xa]) (vs := [.ref xa]) C hr I1 (.cons rfl .nil) l1 (repL_cons.mpr ⟨_, _, rfl, p1, repL_nil.mpr rfl⟩) q1 (Q := fun v H' => ∃ b, v = .bl b ∧ Q b H') (fun v H' F' μ' px st' e l r q => ?_)) (fun u' s' z => ?_) fun _ _ z => z)
      · split at q
        · rename_i b
          exact ⟨b, rep_bl.mp r, hk1 b H' F' μ' st' e l q⟩
        · exact q.elim
      · obtain ⟨v, H', I', r, b, rfl, q⟩ := z
        obtain rfl : u' = Value.bool b := r
        exact ⟨H', I', q⟩
    · simp only [VM.tget] at q1
  · split at q1
    · rename_i b eb
      exact tru_ok pins s1 σ H1 v u Q I1 rx ⟨b, truth_rep l1 p1 eb, hk1.same l1 q1⟩
    · exact q1.elim
/-- a global that is a whole number, a text -/
theorem ve_gint {j : Int} (hg : Gl X x) (hm : ∃ t, X.mg x = some (.int j t)) (hd : (x == ("__debug__" : Str)) = false := by decide) : VE X (.Name x pos) (VM.eC (.int j)) := by
  obtain ⟨t, hm⟩ := hm
  refine pe_imp (pe_glob (v := .int j) hg hm ⟨t, rfl⟩ hd) fun σ H Q h => ?_
  obtain ⟨G, F, μ, ρ, st, k, l, r, d, hk⟩ := h
  exact hk.same l (rep_int.mpr rfl) d
theorem ve_gstr {z : List Nat} (hg : Gl X x) (hm : ∃ t, X.mg x = some (.str ⟨z.toArray⟩ t)) (hz : sOk z) (hd : (x == ("__debug__" : Str)) = false := by decide) : VE X (.Name x pos) (VM.eC (.str z)) := by
  obtain ⟨t, hm⟩ := hm
  refine pe_imp (pe_glob (v := .str ⟨z.toArray⟩) hg hm ⟨t, rfl⟩ hd) fun σ H Q h => ?_
  obtain ⟨G, F, μ, ρ, st, k, l, r, d, hk⟩ := h
  exact hk.same l (rep_str.mpr ⟨hz, rfl⟩) d
theorem ve_gcd (ha : VE X a ta) (hb : VE X b tb) (hg : Gl X x) (hm : X.mg x = some (.builtin "math.gcd")) (hd : (x == ("__debug__" : Str)) = false := by decide)
    (he : starEach [a, b] X.env = (false, eval a X.env) :: starEach [b] X.env := by rfl) (he2 : starEach [b] X.env = (false, eval b X.env) :: starEach [] X.env := by rfl) (hpl : (backTo pos (starEach [b] X.env)).any (·.1) = false := by rfl) :
    VE X (.Call (.Name x p) [a, b] [] pos) (VM.eGcd ta tb) := pe_imp (pe_callBfun cr_gcd hg hm (pa_cons ha (pa_cons hb pa_nil he2) he) hd he hpl) fun σ H Q h => by
  obtain ⟨G, F, μ, ρ, st, k, l, r, d, hk⟩ := h
  refine bind1 l r d fun x H1 F1 μ1 px st1 e1 l1 r1 p1 q1 => bind1 l1 r1 q1 fun y H2 F2 μ2 py st2 e2 l2 r2 p2 q2 => ?_
  split at q2
  · rename_i i j
    obtain rfl := rep_int.mp (p1.mono e2)
    obtain rfl := rep_int.mp p2
    exact ⟨i, j, rfl, (hk.mono (e1.trans e2)).same l2 (rep_int.mpr rfl) q2⟩
  · exact q2.elim
theorem digits_ok (z : String) (h : z.length ≤ 16777216) : sOk (z.toList.map Char.toNat) ∧ (z : Str) = ⟨(z.toList.map Char.toNat).toArray⟩ := by
  refine ⟨⟨by rw [List.length_map]; exact h, fun c hc => ?_⟩, PySem.Str.ofString_eq_toList z⟩
  obtain ⟨ch, _, rfl⟩ := List.mem_map.mp hc
  have := ch.valid
  unfold Char.toNat
  rcases this with h | h
  · have : ch.val.toNat < 0xd800 := h
    omega
  · have := h.2
    have : ch.val.toNat < 0x110000 := this
    omega
/-- a, b, c = x, y, z -/
theorem vs_par3 {i j q : Nat} {y z u : Str} {px py pz pt : Pos} {kt k2 pt2} (hc : X.calm = true) (hN : X.N.Nodup) (hi : X.N[i]? = some y) (hj : X.N[j]? = some z) (hq : X.N[q]? = some u) (hij : i ≠ j) (hiq : i ≠ q) (hjq : j ≠ q)
    (hx : X.env.scope.names.lookup y = some .local) (hy : X.env.scope.names.lookup z = some .local) (hz : X.env.scope.names.lookup u = some .local) (ha : VA X [a, b, c] tas)
    (hw : swappedStores [.Tuple [.Name y px, .Name z py, .Name u pz] kt pt] (.Tuple [a, b, c] k2 pt2) X.env = pure (some [y, z, u]))
    (hs : swapsWithSole [.Tuple [.Name y px, .Name z py, .Name u pz] kt pt] (.Tuple [a, b, c] k2 pt2) pos.line X.env = pure false := by rfl) :
    VSt X (.Assign [.Tuple [.Name y px, .Name z py, .Name u pz] kt pt] (.Tuple [a, b, c] k2 pt2) pos) (VM.sPar [i, j, q] tas) := ps_imp (ps_par3 hc hN hi hj hq hij hiq hjq hx hy hz ha hw hs) fun D σ H h => by
  obtain ⟨G, F, μ, ρ, st, DV, l, r, d, hk⟩ := h
  unfold VM.sPar at d
  rw [hk.xk] at d
  refine bindA l r d fun vs H1 F1 μ1 pvs st1 e1 l1 r1 p1 q1 => ?_
  match pvs, q1 with
  | [p, q', s], q1 =>
    obtain ⟨v, _, rfl, rv, p1⟩ := repL_cons.mp p1
    obtain ⟨w, _, rfl, rw', p1⟩ := repL_cons.mp p1
    obtain ⟨w2, _, rfl, rw2, p1⟩ := repL_cons.mp p1
    obtain rfl := repL_nil.mp p1
    exact ⟨v, w, w2, rfl, hk.nx _ H1 F1 μ1 _ st1 e1 l1 (((r1.set i rv).set j rw').set q rw2) q1⟩
  | [], q1 => exact q1.elim
  | [_], q1 => exact q1.elim
  | [_, _], q1 => exact q1.elim
  | _ :: _ :: _ :: _ :: _, q1 => exact q1.elim
theorem ve_strc (ha : VE X a ta) (hg : Gl X "str") (hm : X.mg "str" = none) (he : starEach [a] X.env = (false, eval a X.env) :: starEach [] X.env := by rfl) : VE X (.Call (.Name "str" p) [a] [] pos) (VM.eB1 VM.fStr ta) :=
  ve_t1 call_str_int (fun G F μ st H px v k Q l r d hk => by
    unfold VM.fStr at d
    split at d
    · rename_i j
      obtain rfl := rep_int.mp r
      obtain ⟨h1, h0, d⟩ := d
      obtain ⟨h2, h3⟩ := digits_ok (toString j) h0
      refine ⟨j, rfl, h1, ?_⟩
      rw [h3]
      exact hk.same l (rep_str.mpr ⟨h2, rfl⟩) d
    · exact d.elim) ha hg hm boot_str (he := he)
end
end VS
end
section
namespace VS
open PySem PySem.Spec PyProof.Rows L2
def asV (g : Addr → Option Obj) (n : Nat) : List Addr := He.asD g n ++ [cStatics, sysModules, builtinsNs]
def seerB (K : PySem.W.Frag) : Bool := (K.lookup cStatics).isSome && ((K.lookup sysModules).isSome && ((K.lookup builtinsNs).isSome && ((K.lookup mainGlobals).isSome && ((K.lookup (He.ga K "__builtins__")).isSome && (He.Fa.glo "__builtins__").ok K))))
theorem in_same {K : PySem.W.Frag} {h base : Heap} {a : Addr} {o : Obj} (X : K.In h) (B : K.In base) (hk : (K.lookup a).isSome = true) (e : h.get? a = some o) : base.get? a = some o := by
  obtain ⟨o', e'⟩ := Option.isSome_iff_exists.mp hk
  have := X _ _ e'
  rw [e] at this
  cases this
  exact B _ _ e'
theorem seer_of {K : PySem.W.Frag} {h : Heap} (X : K.In h) (S : h.NoSeer) (hs : seerB K = true) : ∀ base : Heap, K.In base → base.NoSeer := by
  unfold seerB at hs
  simp only [Bool.and_eq_true] at hs
  obtain ⟨k1, k2, k3, k4, k5, k6⟩ := hs
  obtain ⟨⟨mc, ⟨o1, es1, ep1, g1, d1⟩, c1, c2⟩, ⟨mm, ⟨o2, es2, ep2, g2, d2⟩, m1⟩, ⟨mb, ⟨o3, es3, ep3, g3, d3⟩, b1⟩, ⟨mg, bm, ob, ⟨o4, es4, ep4, g4, d4⟩, w1, w2, w3, w4⟩⟩ := S
  have hb := He.glo_ok X ⟨o4, es4, ep4, g4, d4⟩ k6
  rw [w1] at hb
  have ebm : bm = He.ga K "__builtins__" := by
    injection hb with hb
    injection hb
  intro base B
  exact ⟨⟨mc, ⟨o1, es1, ep1, in_same X B k1 g1, d1⟩, c1, c2⟩, ⟨mm, ⟨o2, es2, ep2, in_same X B k2 g2, d2⟩, m1⟩, ⟨mb, ⟨o3, es3, ep3, in_same X B k3 g3, d3⟩, b1⟩, ⟨mg, bm, ob, ⟨o4, es4, ep4, in_same X B k4 g4, d4⟩, w1, in_same X B (by rw [ebm]; exact k5) w2, w3, w4⟩⟩
/-- where a class has a method -/
def mA (K : PySem.W.Frag) (c : Nat) (m : Str) : Addr := He.ma K (cA K c) m
/-- a property: its object, its getter -/
def pA (K : PySem.W.Frag) (c : Nat) (m : Str) : Addr := He.ma K (cA K c) m
def gA (K : PySem.W.Frag) (c : Nat) (m : Str) : Addr := match PySem.W.recIn K (pA K c m) "property" with
  | some (.ref g :: _) => g
  | _ => 0
/-- a def by where it stands -/
structure DefV where
  adr : PySem.W.Frag → Addr
  name : Str
  qual : Str
  params : Arguments
  body : List Stmt
  scope : Scope
  dfl : List He.Dv := []
def fnV (K : PySem.W.Frag) (a : Addr) : He.FnW := match K.lookup a with
  | some ⟨_, _, .func fd, _⟩ => some (fd.name, fd.qualname, fd.params, fd.body, fd.scope, fd.globals, fd.closure, fd.builtins)
  | _ => none
def DefV.val (d : DefV) : He.FnW := some (d.name, d.qual, d.params, .stmts d.body, d.scope, mainGlobals, [], builtinsNs)
def DefV.dvs (K : PySem.W.Frag) (d : DefV) : List V := d.dfl.map (He.Dv.v K)
def DefV.ok (K : PySem.W.Frag) (d : DefV) : Bool := (match K.lookup (d.adr K) with
  | some ⟨_, _, .func fd, _⟩ => PySem.W.codeIn K fd.code d.qual && (He.dflB K fd.defaults (d.dvs K) && He.kwdB K fd.kwdefaults [])
  | _ => false) && PySem.W.keepIn K (.ref (d.adr K))
theorem DefV.funD {K : PySem.W.Frag} {d : DefV} (hv : fnV K (d.adr K) = d.val) (ho : d.ok K = true) : ∃ fd, FunD K d.name d.qual d.params d.body d.scope (d.dvs K) [] (d.adr K) fd := by
  unfold DefV.ok at ho
  rw [Bool.and_eq_true] at ho
  obtain ⟨o1, kp⟩ := ho
  unfold fnV at hv
  cases lk : K.lookup (d.adr K) with
  | none => rw [lk] at o1; cases o1
  | some ob =>
    obtain ⟨oc, od, dt, osl⟩ := ob
    rw [lk] at o1 hv
    cases dt with
    | func fd =>
      obtain ⟨m1, m2, m3, m4, m5, m6, m7, m8, m9, m10, m11, m12, m13, m14, m15⟩ := fd
      have ev : (some (m1, m2, m3, m4, m5, m6, m7, m15) : He.FnW) = some (d.name, d.qual, d.params, .stmts d.body, d.scope, mainGlobals, [], builtinsNs) := hv
      simp only [Option.some.injEq, Prod.mk.injEq] at ev
      obtain ⟨q1, q2, q3, q4, q5, q6, q7, q8⟩ := ev
      subst q1 q2 q3 q4 q5 q6 q7 q8
      have oo : (PySem.W.codeIn K m13 d.qual && (He.dflB K m8 (d.dvs K) && He.kwdB K m9 [])) = true := o1
      simp only [Bool.and_eq_true] at oo
      exact ⟨_, ⟨oc, od, m8, m9, m10, m11, m12, m13, m14, osl, rfl, lk, oo.1, He.dflB_ok oo.2.1, He.kwdB_ok oo.2.2⟩, kp⟩
    | _ => cases o1
abbrev AlV : Type := Bool × List He.FnW
def obsV (fa : List He.Fa) (fn : List DefV) (ex : PySem.W.Frag → Bool) (K : PySem.W.Frag) : AlV := ((fa.all fun f => f.ok K) && ((fn.all fun d => d.ok K) && (ex K && seerB K)), fn.map fun d => fnV K (d.adr K))
def valV (fn : List DefV) : AlV := (true, fn.map DefV.val)
def SaysV (fa : List He.Fa) (fn : List DefV) (ex : PySem.W.Frag → Bool) (K : PySem.W.Frag) : Prop := obsV fa fn ex K = valV fn
def obsVG (n : Nat) (fa : List He.Fa) (fn : List DefV) (ex : PySem.W.Frag → Bool) (g : Addr → Option Obj) : AlV := obsV fa fn ex (He.frG g (asV g n))
def hookV (n : Nat) (fa : List He.Fa) (fn : List DefV) (ex : PySem.W.Frag → Bool) : PySem.W.Hook where
  α := AlV
  obs := fun s => obsVG n fa fn ex s.heap.get?
  val := fun _ => valV fn
  says := fun _ h => ∃ K : PySem.W.Frag, K.In h ∧ SaysV fa fn ex K
  of := fun _ _ e => ⟨_, He.frG_in, e⟩
  keeps := fun _ _ _ ⟨K, hK, c⟩ k => ⟨K, PySem.W.Frag.In.keeps hK k, c⟩
theorem obsVG_eq {n : Nat} {fa : List He.Fa} {fn : List DefV} {ex : PySem.W.Frag → Bool} {g : Addr → Option Obj} {s : Shared} (h : ∀ a, g a = s.heap.get? a) : obsVG n fa fn ex g = (hookV n fa fn ex).obs s := by
  have e : g = s.heap.get? := funext h
  rw [e] <;> rfl
section
variable {fa : List He.Fa} {fn : List DefV} {ex : PySem.W.Frag → Bool} {K : PySem.W.Frag}
theorem SaysV.b (c : SaysV fa fn ex K) : (fa.all fun f => f.ok K) = true ∧ (fn.all fun d => d.ok K) = true ∧ ex K = true ∧ seerB K = true := by
  have h : ((fa.all fun f => f.ok K) && ((fn.all fun d => d.ok K) && (ex K && seerB K))) = true := congrArg (fun z : AlV => z.1) c
  simp only [Bool.and_eq_true] at h
  exact ⟨h.1, h.2.1, h.2.2.1, h.2.2.2⟩
theorem SaysV.fact (c : SaysV fa fn ex K) (i : Nat) {f : He.Fa} (h : fa[i]? = some f := by rfl) : f.ok K = true := List.all_eq_true.mp c.b.1 f (List.mem_of_getElem? h)
theorem SaysV.def_ (c : SaysV fa fn ex K) (i : Nat) {d : DefV} (h : fn[i]? = some d := by rfl) : ∃ fd, FunD K d.name d.qual d.params d.body d.scope (d.dvs K) [] (d.adr K) fd := by
  have e : fn.map (fun d => fnV K (d.adr K)) = fn.map DefV.val := congrArg (fun z : AlV => z.2) c
  have e2 : (fn.map fun d => fnV K (d.adr K))[i]? = (fn.map DefV.val)[i]? := by rw [e]
  rw [List.getElem?_map, List.getElem?_map, h] at e2
  exact DefV.funD (Option.some.inj e2) (List.all_eq_true.mp c.b.2.1 d (List.mem_of_getElem? h))
end
/-- how the law's end is reached, facts and all over one fragment -/
theorem walk_ofV {l : PySem.W.OpenLaw} {n k : Nat} {q : Program} {loose : List Str} {XP : (Str → Option Value) → Heap → Prop} {YP : World → Heap → Prop} {d : DefRec} {x : Str}
    (hn : l.most = some n) (hn2 : n ≤ sizeLine) (hdf : d.params.defaults = []) (hr : Room k callerA) (hq : importsNone q = true)
    (F : ∀ (w : World) (mg : Str → Option Value) (fa : Addr) (h : Heap), YP w h → h.Ns mainGlobals mg → mg d.name = some (.ref fa) →
      ∃ (K : PySem.W.Frag) (fd : FuncData), K.In h ∧ seerB K = true ∧ (∀ (s : Shared) (u : Value), BindsTo s fd ⟨[u], []⟩ [(x, u)]) ∧ ∃ sp : Sp,
        (∀ (H : Hp) (a : Addr) (ns : List Int), ns.length ≤ n → SqL K H a (ns.map V.int) → sp [.ref a] H (fun v _ => v = .bl true) fun _ _ _ => False) ∧
        ∀ base : Heap, K.In base → base.Ns mainGlobals mg → base.NoSeer → FnOk l.prog w K mg base CX0 k fa fd [x] sp) :
    PySem.W.WalkO q loose XP YP l.row.toRowW d [] (fun f vs => PySem.call f vs) := by
  refine Att.attach_call hn hdf ?_
  intro w t0 t1 mg mb fa o pm cd doc a vs ns Gr Yh ho hd hcd hmg hobj hints hlen hg
  obtain ⟨K, fd, KX, sb, hb, sp, hsp, hF⟩ := F w mg fa _ Yh Gr.T.g hmg
  have sr := seer_of KX (Gr.T.seer hq) sb
  exact law_call (CX := CX0) KX Gr.T.g Gr.T.b Gr.T.builtins Gr.T.nolimit hg hobj hints (Nat.le_trans hlen hn2) hr (fun base h1 h2 => hF base h1 h2 (sr base h1)) hb (fun H _ hS => hsp H a ns hlen hS) fun _ _ _ z => z
def eqV (a b : Option (Option Value)) : Bool := decide (a = b)
def ciB (K : PySem.W.Frag) (c : Nat) : Bool := (He.Fa.cls (cn c)).ok K && (eqV (PySem.W.findIn K (.ref (cA K c)) "__class__") (some (some (.builtin "object.__class__"))) && (eqV (PySem.W.specialIn K (.builtin "object.__class__") "__get__") (some (some (.builtin "getset_descriptor.__get__"))) &&
  (decide (PySem.W.takesIn K (.builtin "object.__class__") = some true) && (decide (PySem.W.mroIn K (cA K c) (.type "object") = some true) && PySem.W.selfFirst K (cA K c)))))
theorem ciB_ok {K : PySem.W.Frag} {c : Nat} (h : ciB K c = true) : CI K c := by
  unfold ciB eqV at h
  simp only [Bool.and_eq_true, decide_eq_true_eq] at h
  exact ⟨He.cls_ok h.1, h.2.1, h.2.2.1, h.2.2.2.1, h.2.2.2.2.1, h.2.2.2.2.2⟩
def fldB (K : PySem.W.Frag) (ft : List Nat) (n : Nat) : Bool := ft.all fun c => (He.Fa.cls (cn c)).ok K && decide (PySem.W.findIn K (.ref (cA K c)) (an n) = some none)
theorem fldB_ok {K : PySem.W.Frag} {ft : List Nat} {n : Nat} (h : fldB K ft n = true) : FldT K ft n := fun c hc => by
  have := List.all_eq_true.mp h c (by simpa using hc)
  simp only [Bool.and_eq_true, decide_eq_true_eq] at this
  exact ⟨He.cls_ok this.1, this.2⟩
def methB (K : PySem.W.Frag) (c : Nat) (m : Str) : Bool := (He.Fa.cls (cn c)).ok K && (He.Fa.meth (cn c) m).ok K
theorem methB_ok {K : PySem.W.Frag} {c : Nat} {m : Str} (h : methB K c m = true) : Cls K (cA K c) ∧ Meth K (cA K c) m (mA K c m) := by
  unfold methB at h
  simp only [Bool.and_eq_true] at h
  exact ⟨He.cls_ok h.1, He.meth_ok h.2⟩
def propB (K : PySem.W.Frag) (c : Nat) (m : Str) : Bool := (He.Fa.cls (cn c)).ok K && (eqV (PySem.W.findIn K (.ref (cA K c)) m) (some (some (.ref (pA K c m)))) && (eqV (PySem.W.specialIn K (.ref (pA K c m)) "__get__") (some (some (.builtin "property.__get__"))) && (decide (PySem.W.takesIn K (.ref (pA K c m)) = some true) &&
  (match PySem.W.recIn K (pA K c m) "property" with
    | some (.ref g :: _) => true
    | _ => false))))
theorem propB_ok {K : PySem.W.Frag} {c : Nat} {m : Str} (h : propB K c m = true) : Cls K (cA K c) ∧ PropOf K (cA K c) m (pA K c m) (gA K c m) := by
  unfold propB eqV at h
  simp only [Bool.and_eq_true, decide_eq_true_eq] at h
  obtain ⟨h1, h2, h3, h4, h5⟩ := h
  refine ⟨He.cls_ok h1, h2, h3, h4, ?_⟩
  unfold gA
  cases e : PySem.W.recIn K (pA K c m) "property" with
  | none => rw [e] at h5; cases h5
  | some l =>
    rw [e] at h5
    cases l with
    | nil => cases h5
    | cons a r =>
      cases a <;> first | (cases h5; done) | exact ⟨r, rfl⟩
def binB (K : PySem.W.Frag) (c : Nat) (op : Operator) : Bool := ciB K c && ((He.Fa.meth (cn c) (PySem.dunder op.info.2)).ok K && ((match PySem.W.findIn K (.ref (cA K c)) (dunderR op.info.2) with
    | some none => true
    | some (some (.ref _)) => true
    | _ => false) && ((PySem.W.findIn K (.type "int") (PySem.dunder op.info.2)).isSome && ((PySem.W.findIn K (.type "int") (dunderR op.info.2)).isSome && decide (PySem.W.subIn K (.type "int") (.ref (cA K c)) = some false)))))
def refB (K : PySem.W.Frag) (c : Nat) (op : Operator) : Bool := ciB K c && ((He.Fa.meth (cn c) (PySem.dunder op.info.2)).ok K && ((He.Fa.meth (cn c) (dunderR op.info.2)).ok K && decide (PySem.W.subIn K (.ref (cA K c)) (.type "int") = some false)))
def eqB (K : PySem.W.Frag) (c : Nat) : Bool := ciB K c && ((He.Fa.meth (cn c) "__eq__").ok K && (eqV (PySem.W.findIn K (.ref (cA K c)) "__ne__") (some (some (.builtin "object.__ne__"))) && (["NoneType", "bool", "int", "str"].all fun T => PySem.W.notFirst K (cA K c) (.type T))))
def isiB (K : PySem.W.Frag) (C : Addr) (cl sup : List Nat) : Bool := (["NoneType", "bool", "int", "str", "list", "tuple", "dict"].all fun T => decide (PySem.W.kitOne K (.type T) (.ref C) = some false)) && cl.all fun c => ciB K c && decide (PySem.W.kitOne K (.ref (cA K c)) (.ref C) = some (sup.contains c))
theorem isiB_ok {K : PySem.W.Frag} {C : Addr} {cl sup : List Nat} (h : isiB K C cl sup = true) : IsiT K C cl sup := by
  unfold isiB at h
  simp only [Bool.and_eq_true] at h
  refine ⟨fun T hT => by simpa using List.all_eq_true.mp h.1 T hT, fun c hc => ?_⟩
  have := List.all_eq_true.mp h.2 c hc
  simp only [Bool.and_eq_true, decide_eq_true_eq] at this
  exact ⟨ciB_ok this.1, this.2⟩
section
variable {P : Program} {w : World} {K : PySem.W.Frag} {mg : Str → Option Value} {base : Heap} {cs : VM.CS} {k : Nat}
theorem methT_nil {m : Str} : MethT P w K mg base cs k [] m := fun _ _ h => by cases h
theorem methT_cons {t : VM.Tab} {c i : Nat} {m : Str} (h : methB K c m = true) (C : FC P w K mg base cs k i (mA K c m)) (r : MethT P w K mg base cs k t m) : MethT P w K mg base cs k ((c, i) :: t) m := fun c' i' e => by
  unfold VM.tget at e
  by_cases q : c = c'
  · rw [if_pos q] at e
    cases e
    subst q
    exact ⟨_, (methB_ok h).1, (methB_ok h).2, C⟩
  · rw [if_neg q] at e
    exact r c' i' e
theorem propT_nil {m : Str} : PropT P w K mg base cs k [] m := fun _ _ h => by cases h
theorem propT_cons {t : VM.Tab} {c i : Nat} {m : Str} (h : propB K c m = true) (C : FC P w K mg base cs k i (gA K c m)) (r : PropT P w K mg base cs k t m) : PropT P w K mg base cs k ((c, i) :: t) m := fun c' i' e => by
  unfold VM.tget at e
  by_cases q : c = c'
  · rw [if_pos q] at e
    cases e
    subst q
    exact ⟨_, _, (propB_ok h).1, (propB_ok h).2, C⟩
  · rw [if_neg q] at e
    exact r c' i' e
theorem dunT_nil {m : Str} : DunT P w K mg base cs k [] m := fun _ _ h => by cases h
theorem dunT_cons {t : VM.Tab} {c i : Nat} {m : Str} (h : ciB K c = true) (h2 : methB K c m = true) (C : FC P w K mg base cs k i (mA K c m)) (r : DunT P w K mg base cs k t m) : DunT P w K mg base cs k ((c, i) :: t) m := fun c' i' e => by
  unfold VM.tget at e
  by_cases q : c = c'
  · rw [if_pos q] at e
    cases e
    subst q
    exact ⟨_, ciB_ok h, (methB_ok h2).2.at_, (methB_ok h2).2.fn, C⟩
  · rw [if_neg q] at e
    exact r c' i' e
theorem binT_nil {op : Operator} : BinT P w K mg base cs k [] op := fun _ _ h => by cases h
theorem binT_cons {t : VM.Tab} {c i : Nat} {op : Operator} (h : binB K c op = true) (C : FC P w K mg base cs k i (mA K c (PySem.dunder op.info.2))) (r : BinT P w K mg base cs k t op) : BinT P w K mg base cs k ((c, i) :: t) op := fun c' i' e => by
  unfold VM.tget at e
  by_cases q : c = c'
  · rw [if_pos q] at e
    cases e
    subst q
    unfold binB at h
    simp only [Bool.and_eq_true, decide_eq_true_eq] at h
    obtain ⟨h1, h2, h3, h4, h5, h6⟩ := h
    have m2 := He.meth_ok h2
    obtain ⟨fo, e4⟩ := Option.isSome_iff_exists.mp h4
    obtain ⟨ro, e5⟩ := Option.isSome_iff_exists.mp h5
    cases e3 : PySem.W.findIn K (.ref (cA K c)) (dunderR op.info.2) with
    | none => rw [e3] at h3; cases h3
    | some rc =>
      refine ⟨_, rc, ciB_ok h1, m2.at_, m2.fn, rfl, ?_, ⟨fo, ro, e4, e5⟩, h6, C⟩
      rw [e3] at h3
      cases rc with
      | none => exact .inl rfl
      | some v => cases v <;> first | (cases h3; done) | exact .inr ⟨_, rfl⟩
  · rw [if_neg q] at e
    exact r c' i' e
theorem refT_nil {op : Operator} : RefT P w K mg base cs k [] op := fun _ _ h => by cases h
theorem refT_cons {t : VM.Tab} {c i : Nat} {op : Operator} (h : refB K c op = true) (C : FC P w K mg base cs k i (mA K c (dunderR op.info.2))) (r : RefT P w K mg base cs k t op) : RefT P w K mg base cs k ((c, i) :: t) op := fun c' i' e => by
  unfold VM.tget at e
  by_cases q : c = c'
  · rw [if_pos q] at e
    cases e
    subst q
    unfold refB at h
    simp only [Bool.and_eq_true, decide_eq_true_eq] at h
    obtain ⟨h1, h2, h3, h4⟩ := h
    exact ⟨_, _, ciB_ok h1, (He.meth_ok h2).at_, (He.meth_ok h3).at_, (He.meth_ok h3).fn, h4, C⟩
  · rw [if_neg q] at e
    exact r c' i' e
theorem eqT_nil : EqT P w K mg base cs k [] := fun _ _ h => by cases h
theorem eqT_cons {t : VM.Tab} {c i : Nat} (h : eqB K c = true) (C : FC P w K mg base cs k i (mA K c "__eq__")) (r : EqT P w K mg base cs k t) : EqT P w K mg base cs k ((c, i) :: t) := fun c' i' e => by
  unfold VM.tget at e
  by_cases q : c = c'
  · rw [if_pos q] at e
    cases e
    subst q
    unfold eqB eqV at h
    simp only [Bool.and_eq_true, decide_eq_true_eq] at h
    obtain ⟨h1, h2, h3, h4⟩ := h
    exact ⟨_, ciB_ok h1, (He.meth_ok h2).at_, (He.meth_ok h2).fn, h3, fun T hT => List.all_eq_true.mp h4 T hT, C⟩
  · rw [if_neg q] at e
    exact r c' i' e
end
end VS
end
section
namespace VM
def asStrs : List PV → Option (List (List Nat))
  | [] => some []
  | .str s :: xs => match asStrs xs with | some ss => some (s :: ss) | none => none
  | _ :: _ => none
def joinS (s : List Nat) : List (List Nat) → List Nat
  | [] => []
  | [x] => x
  | x :: y :: r => x ++ s ++ joinS s (y :: r)
def isStr : PV → Bool
  | .str _ => true
  | _ => false
/-- s.join(xs) -/
def eJoin (a b : TE) : TE := fun ρ st k x => a ρ st (fun u st => isStr u = true ∧ b ρ st (fun v st => match u, seqOf st v with
  | .str s, some xs => match asStrs xs with
    | some ss => (ss.map List.length).sum + ss.length * s.length ≤ SZ ∧ k (.str (joinS s ss)) st
    | none => False
  | _, _ => False) x) x
/-- how many different ones -/
def dcnt : List (List Nat) → Nat
  | [] => 0
  | x :: xs => if xs.contains x then dcnt xs else dcnt xs + 1
/-- len(set(xs)) of texts -/
def eLenSet (a : TE) : TE := fun ρ st k x => a ρ st (fun v st => match asL st v with
  | some xs => match asStrs xs with
    | some ss => ss.length < 4000 ∧ k (.int (dcnt ss.reverse)) st
    | none => False
  | none => False) x
end VM
end
section
namespace VS
open PySem PySem.Spec PyProof.Rows L2
open VM (PV SO Store)
def dn (ys : List Str) : Nat → Nat
  | 0 => 0
  | i + 1 => if (ys.take i).any (· == ys.getD i Str.empty) then dn ys i else dn ys i + 1
theorem dn_le (ys : List Str) : ∀ i, dn ys i ≤ i
  | 0 => Nat.le_refl _
  | i + 1 => by
    have h := dn_le ys i
    unfold dn
    split <;> omega
theorem any_next (ys : List Str) {i : Nat} (h : i < ys.length) (z : Str) : (ys.take (i + 1)).any (· == z) = ((ys.take i).any (· == z) || decide (z = ys.getD i Str.empty)) := by
  rw [List.take_succ_eq_append_getElem h, List.any_append]
  congr 1
  have e : ys.getD i Str.empty = ys[i] := by simp [List.getD, h]
  rw [e]
  by_cases q : z = ys[i]
  · subst q; simp
  · have q2 : (ys[i] == z) = false := by simpa [beq_iff_eq] using fun w : ys[i] = z => q w.symm
    simp [q, q2]
section
variable {prog : Program} {w : World} {A : Around} {R : Result → Shared → Prop} {it : Addr} {fp wr : List Addr} {G : Array GenState → Array GenState → Prop} {n : Nat} {P : Nat → Value → Prop} {St : Nat → Shared → Prop}
theorem fill_set (Wk : WalksS prog w A.in1 it fp wr G n P St) (d : Addr) (off : d ∉ fp) (ys : List Str) (sz : ys.length = n) (room : n < 4000)
    (is : ∀ j u, P j u → ∃ t, u = .str (ys.getD j Str.empty) t) : ∀ (m j : Nat) (q : Shared), n - j = m → j ≤ n → St j q → q.heap.SetOf (PySem.strKind prog w) d (fun z => (ys.take j).any (· == z)) (dn ys j) →
      (∀ q', Moved (d :: wr) G q q' → q'.heap.SetOf (PySem.strKind prog w) d (fun z => (ys.take n).any (· == z)) (dn ys n) → R (.ok (.ret .none)) q') →
      codeAny (model prog w) A (.builtin "set.update.loop" ⟨[.ref d, .ref it], []⟩) R q := by
  have dw : d ∉ wr := fun e => off (Wk.sub _ e)
  have up : ∀ b ∈ wr, b ∈ d :: wr := fun b e => List.mem_cons_of_mem _ e
  have keep : ∀ {q q' : Shared} {S : Str → Bool} {c : Nat}, Moved wr G q q' → q.heap.SetOf (PySem.strKind prog w) d S c → q'.heap.SetOf (PySem.strKind prog w) d S c := fun mv ⟨o, es, ep, tb, ho, r⟩ => ⟨o, es, ep, tb, mv.heap d _ dw ho, r⟩
  intro m
  induction m with
  | zero =>
    intro j q hm hj hst hd hR
    obtain rfl : j = n := by omega
    refine codeAny_builtin PyProof.Rows.F.entry_set_update_loop (by
      rw [Around.under_plainId PyProof.Rows.F.plain_set_update_loop _]
      exact wpAny_bind (Wk.done q _ _ hst fun q' mv => wpAny_pure (hR q' (mv.mono up) (keep mv hd))))
  | succ m ih =>
    intro j q hm hj hst hd hR
    have lt : j < n := by omega
    have room2 : dn ys j + 1 < scanBound := by
      have := dn_le ys j
      unfold scanBound
      omega
    refine codeAny_builtin PyProof.Rows.F.entry_set_update_loop ?_
    rw [Around.under_plainId PyProof.Rows.F.plain_set_update_loop _]
    refine wpAny_bind (Wk.item j q _ _ lt hst fun u q' hP hst' mv => ?_)
    obtain ⟨t, rfl⟩ := is j u hP
    have hk := keep mv hd
    refine wpAny_bind (wpAny_holding ?_)
    unfold setAdd
    refine wpAny_holding (wpAny_bind ((PySem.strKind prog w).pyHash (k := ys.getD j Str.empty) (strKind_is _ _ _ _) ?_))
    refine wpAny_setAddHashed_of (knd := PySem.strKind prog w) (s := { q' with toks := q'.toks + 1 }) (strKind_is _ _ _ _) rfl hk room2 fun h' sb hd2 => ?_
    have hd3 : h'.SetOf (PySem.strKind prog w) d (fun z => (ys.take (j + 1)).any (· == z)) (dn ys (j + 1)) := SetOf_congr hd2 (fun z => (any_next ys (by omega) z).symm) rfl
    refine wpAny_pure ⟨plainId_quiet PyProof.Rows.F.plain_set_update_loop _, ih (j + 1) _ (by omega) lt (Wk.frame _ q' _ _ hst' (Nat.le_succ _) fun b hb o e => ?_) hd3 fun q2 mv2 hd4 => ?_⟩
    · rw [sb.2 b fun e2 : b = d => off (e2 ▸ hb)]
      exact e
    · refine hR q2 (Moved.trans Wk.gtrans ((mv.mono up).then_heap (Nat.le_succ _) fun b o hb e => ?_) mv2) hd4
      rw [sb.2 b fun e2 : b = d => hb (e2 ▸ List.mem_cons_self)]
      exact e
end
section
variable {prog : Program} {w : World} {A : Around} {E : Value → Shared → Prop} {s : Shared}
/-- the new empty set -/
abbrev setN (led : Bool) : Obj := { cls := .type "set", dict := none, data := .set #[] 0 (.fresh 0 0 led) }
/-- what the filled set says of the heap -/
def Full (prog : Program) (w : World) (s : Shared) (ys : List Str) (v : Value) (s2 : Shared) : Prop := v = .none ∧ ∃ h2 tk, s2 = { s with heap := h2, toks := tk } ∧ h2.SetOf (PySem.strKind prog w) s.heap.objs.size (fun z => (ys.take ys.length).any (· == z)) (dn ys ys.length) ∧ ∀ b o, b < s.heap.objs.size → s.heap.get? b = some o → h2.get? b = some o
set_option maxHeartbeats 3200000 in
theorem set_texts {l : Addr} {its : Array Value} {ys : List Str} {Q : Value → Shared → Prop} (calm : A.handled = none) (li : s.heap.IsList l its) (are : PyProof.Rows.StrsAre its.toList ys) (room : ys.length < 4000)
    (fin : ∀ (h2 : Heap) (tk : Nat), h2.SetOf (PySem.strKind prog w) s.heap.objs.size (fun z => (ys.take ys.length).any (· == z)) (dn ys ys.length) → (∀ b o, b < s.heap.objs.size → s.heap.get? b = some o → h2.get? b = some o) → Q (.ref s.heap.objs.size) { s with heap := h2, toks := tk }) :
    wpAny (model prog w) A (call (.type "set") [.ref l]) Q E s := by
  have ⟨c0, tl0, mro0⟩ := PySem.F.called_set.mro
  have made0 := PySem.F.called_set.made; have sub0 := PySem.F.called_set.sub
  refine wpAny_call (codeAny_of_tree (by
    show wpAny _ _ (callAny (.type "set") _) _ _ _
    refine wpAny_pure ⟨Code.quiet_builtin _ (by decide +kernel), codeAny_builtin PySem.F.entry_type_call ?_⟩
    rw [Around.under_plain (weight_type_call_type "set" [.ref l] []) rfl]
    have nt0 := PySem.F.called_set.notType; have cc0 := PySem.F.called_set.canCreate; have tc0 := PySem.F.typeCall_set_1 (.ref l)
    repeat (any_goals (first | assumption | wp_step))
    refine codeAny_mono (code_set_new_1 (.ref l) (E := E) (Q₁ := fun v s2 => ∃ led : Bool, v = .ref s.heap.objs.size ∧ s2 = { s with heap := s.heap.push (setN led) }) fun led => ⟨led, rfl, rfl⟩) fun r s2 hr => ?_
    match r, hr with
    | .error e, hr => exact hr
    | .ok (.ret v), ⟨led, e1, e2⟩ =>
      subst e1 e2
      have at0 : (s.heap.push (setN led)).get? s.heap.objs.size = some (setN led) := Heap.get?_push_size _ rfl
      have ty0 : Shared.TypeIs { s with heap := s.heap.push (setN led) } (.ref s.heap.objs.size) "set" := ⟨_, at0, rfl⟩
      have lk0 := PySem.F.called_set.init.lookup; have bi0 := PySem.F.called_set.init.bind (.ref s.heap.objs.size)
      repeat (any_goals (first | assumption | wp_step))
      refine codeAny_mono (codeAny_call_builtin (R := wants (Full prog w s ys) E) PySem.F.called_set.init.plain PySem.F.entry_set_init (check_set_init_1 ty0 ?_)) fun r2 s3 hr2 => ?_
      · have ⟨ol, gl, cl, nl, dl⟩ := li
        obtain ⟨oc, od, oda, osl⟩ := ol
        simp only at cl dl
        subst cl dl
        have gl2 : (s.heap.push (setN led)).get? l = some { cls := .type "list", dict := od, data := .seq its nl, slots := osl } := Heap.get?_push_of_some _ gl
        have ss0 := PySem.F.sub_list_set; have sf0 := PySem.F.sub_list_frozenset
        have nd0 : (Value.type "list" == Value.type "dict") = false := by decide
        have li2 : (s.heap.push (setN led)).IsList l its := ⟨_, gl2, rfl, nl, rfl⟩
        unfold Builtin.«set.__init__» noKeywords Builtin.Frozenset.updateFrom
        generalize ePI : pyIter = PI
        wp_walk
        subst ePI
        refine wpAny_pyIter_list li2 (wpAny_bind (wpAny_runValue ?_))
        have lS : l < s.heap.objs.size := Heap.lt_size gl
        have nI : l ≠ (s.heap.push (setN led)).objs.size := by
          rw [Heap.size_push]
          exact Nat.ne_of_lt (Nat.lt_succ_of_lt lS)
        have offS : s.heap.objs.size ∉ [(s.heap.push (setN led)).objs.size, l] := by
          rw [Heap.size_push]
          simp only [List.mem_cons, List.not_mem_nil, or_false, not_or]
          exact ⟨Nat.ne_of_lt (Nat.lt_succ_self _), Nat.ne_of_gt lS⟩
        have szz : ys.length = its.size := by rw [← StrsAre.len_eq are, Array.length_toList]
        refine fill_set ((Walks.list (by simp [calm]) _ l nI its).toS) s.heap.objs.size offS ys szz (szz ▸ room) (fun j u hu => SS.strs_at are j u (by rw [Array.getElem?_toList]; exact hu)) (its.size - 0) 0 _ (by omega) (Nat.zero_le _)
          ⟨⟨_, Heap.get?_push_size _ rfl, rfl, rfl⟩, (li2.push _)⟩ ?e0 ?eR
        case e0 =>
          refine PyProof.Rows.SetOf_congr ((PyProof.Rows.setObjOf_fresh (knd := PySem.strKind prog w) led).setOf (Heap.get?_push_of_some _ at0) (by unfold scanBound; omega)) (fun _ => rfl) rfl
        case eR =>
          rintro ⟨h2, g2, d2, tk2, os2⟩ mv hd
          have eg : g2 = s.gens := mv.gens
          have ed : d2 = s.drawn := mv.drawn
          have eo : os2 = s.os := mv.os
          subst eg ed eo
          show wpAny _ _ _ _ _ _
          refine wpAny_pure ?_
          show wpAny _ _ (ret Value.none) _ _ _
          refine wpAny_pure ⟨rfl, h2, tk2, rfl, by rw [szz]; exact hd, fun b o lb e => mv.heap b o ?_ (Heap.get?_push_of_some _ (Heap.get?_push_of_some _ e))⟩
          rw [Heap.size_push]
          simp only [List.mem_cons, List.not_mem_nil, or_false, not_or]
          exact ⟨Nat.ne_of_lt lb, Nat.ne_of_lt (Nat.lt_succ_of_lt lb)⟩
      · match r2, hr2 with
        | .error e, hr2 => exact hr2
        | .ok (.ret v2), ⟨e3, h2, tk, e4, hd, hk⟩ =>
          subst e3 e4
          repeat (any_goals (first | assumption | wp_step))
          exact fin _ _ hd hk
    | .ok .next, hr => exact hr.elim))
end
end VS
end
section
namespace VS
open PySem PySem.Spec PyProof.Rows L2
open VM (PV SO Store)
section
variable {X : Cx} {a : Expr} {ta : VM.TE} {p p2 q pos : Pos}
theorem strs_of : ∀ {ys : List Str} {us : List Value}, Vals (ys.map V.str) us → StrsAre us ys
  | [], _, .nil => .nil
  | y :: ys, _, .cons r t => by
    obtain ⟨k, rfl⟩ := r
    exact .cons y k (strs_of t)
def toS (s : List Nat) : Str := ⟨s.toArray⟩
theorem toS_inj {s t : List Nat} : toS s = toS t ↔ s = t := by
  unfold toS
  constructor
  · intro h
    have := congrArg (fun z : Str => z.cps.toList) h
    simpa using this
  · rintro rfl
    rfl
theorem strs_rep {K : PySem.W.Frag} {F : Hp} {μ : List Addr} : ∀ {xs : List PV} {ss : List (List Nat)} {vs : List V}, VM.asStrs xs = some ss → RepL K F μ xs vs → vs = (ss.map toS).map V.str ∧ ∀ s ∈ ss, sOk s
  | [], ss, vs, h, r => by
    unfold VM.asStrs at h
    cases h
    obtain rfl := repL_nil.mp r
    exact ⟨rfl, fun _ m => nomatch m⟩
  | x :: xs, ss, vs, h, r => by
    unfold VM.asStrs at h
    split at h
    · rename_i e
      cases e
    · rename_i s xs' e
      cases e
      split at h
      · rename_i ss' e2
        cases h
        obtain ⟨v, vs', rfl, rv, rr⟩ := repL_cons.mp r
        obtain ⟨ok, rfl⟩ := rep_str.mp rv
        obtain ⟨e3, oks⟩ := strs_rep e2 rr
        refine ⟨by rw [e3]; rfl, fun t m => ?_⟩
        rcases List.mem_cons.mp m with rfl | m
        · exact ok
        · exact oks t m
      · cases h
    · cases h
theorem dn_cnt (ss : List (List Nat)) : ∀ i, i ≤ ss.length → dn (ss.map toS) i = VM.dcnt (ss.take i).reverse
  | 0, _ => rfl
  | i + 1, h => by
    have lt : i < ss.length := h
    rw [List.take_succ_eq_append_getElem lt, List.reverse_append]
    show (if ((ss.map toS).take i).any (· == (ss.map toS).getD i Str.empty) then dn (ss.map toS) i else dn (ss.map toS) i + 1) = VM.dcnt (ss[i] :: (ss.take i).reverse)
    unfold VM.dcnt
    have e0 : (ss.map toS).getD i Str.empty = toS ss[i] := by simp [List.getD, lt]
    have e : ((ss.map toS).take i).any (· == (ss.map toS).getD i Str.empty) = (ss.take i).reverse.contains ss[i] := by
      rw [e0, Bool.eq_iff_iff, List.any_eq_true, List.contains_iff_mem, List.mem_reverse]
      constructor
      · rintro ⟨z, m, ez⟩
        rw [← List.map_take] at m
        obtain ⟨s, ms, rfl⟩ := List.mem_map.mp m
        have := toS_inj.mp (beq_iff_eq.mp ez)
        exact this ▸ ms
      · intro m
        exact ⟨toS ss[i], by rw [← List.map_take]; exact List.mem_map.mpr ⟨_, m, rfl⟩, beq_iff_eq.mpr rfl⟩
    rw [e, dn_cnt ss i (Nat.le_of_lt lt)]
theorem ve_lenSet (calm : X.calm = true) (hg : Gl X "len") (hm : X.mg "len" = none) (hg2 : Gl X "set") (hm2 : X.mg "set" = none) (ha : VE X a ta)
    (na : starEach [a] X.env = (false, eval a X.env) :: starEach [] X.env := by rfl) : VE X (.Call (.Name "len" p) [.Call (.Name "set" p2) [a] [] q] [] pos) (VM.eLenSet ta) := by
  refine ⟨fun pins s σ H Q I h => ?_⟩
  obtain ⟨G, F, μ, ρ, st, k, l, r, d, hk⟩ := h
  unfold VM.eLenSet at d
  have d2 := bind1 (W := fun v H1 => ∃ b, ∃ ys : List Str, v = .ref b ∧ H1 b = some (.lst (ys.map V.str)) ∧ ys.length < 4000 ∧ Q (.int (dn ys ys.length)) H1) l r d fun v H1 F1 μ1 px st1 e1 l1 r1 p1 q1 => by
    split at q1
    · rename_i xs ex
      split at q1
      · rename_i ss es
        obtain ⟨b, vs, rfl, hb, rl⟩ := asL_rep l1 p1 ex
        obtain ⟨rfl, _⟩ := strs_rep es rl
        refine ⟨b, ss.map toS, rfl, hb, by rw [List.length_map]; exact q1.1, ?_⟩
        rw [List.length_map, dn_cnt ss _ (Nat.le_refl _), List.take_length]
        exact hk _ _ _ _ _ _ e1 l1 (rep_int.mpr rfl) q1.2
      · exact q1.elim
    · exact q1.elim
  refine Call_ (ld_blt I hg hm boot_len (PyProof.Rows.callWith_builtin1 (PyProof.Rows.args_cons ?_ rfl) rfl rfl))
  refine Call_ (ld_blt I hg2 hm2 PyProof.Rows.boot_set ?_)
  refine PyProof.Rows.callWith_type1 (PyProof.Rows.args_cons (thn (ha.run pins s σ H _ I d2) fun v s1 ⟨x, H1, I1, r1, b, ys, ex, hb, room, q1⟩ => PyProof.Rows.args_nil ?_) na) na rfl
  subst ex
  cases r1
  obtain ⟨its, rr, pl, hz⟩ := I1.list (.inl (.inl hb))
  refine set_texts (I1.ok.hd calm) pl.isList (by simpa using strs_of rr) room fun h2 tk hd keep => ?_
  refine PyProof.Rows.args_nil ?_
  obtain ⟨o, es, ep, t, ho, hex, hdd, _, _, _, hf, hn⟩ := hd
  have I2 : Inv X pins σ H1 { s1 with heap := h2, toks := tk } := I1.kept fun b o e => keep b o (Heap.lt_size e) e
  have hle := dn_le ys ys.length
  exact call_len_set ho hex hdd hf (by rw [hn]; omega) ⟨.int (dn ys ys.length), H1, I2.tok _, ⟨_, by rw [hn]⟩, q1⟩
theorem join_toS (s : List Nat) : ∀ ss : List (List Nat), Str.join (toS s) (ss.map toS) = toS (VM.joinS s ss)
  | [] => rfl
  | [x] => rfl
  | x :: y :: r => by
    show toS x ++ toS s ++ Str.join (toS s) ((y :: r).map toS) = toS (x ++ s ++ VM.joinS s (y :: r))
    rw [join_toS s (y :: r)]
    unfold toS
    show Str.append (Str.append _ _) _ = _
    simp [Str.append]
theorem join_bound (s : List Nat) : ∀ ss : List (List Nat), (VM.joinS s ss).length ≤ (ss.map List.length).sum + ss.length * s.length
  | [] => Nat.zero_le _
  | [x] => by simp [VM.joinS]
  | x :: y :: r => by
    have h := join_bound s (y :: r)
    have e : VM.joinS s (x :: y :: r) = x ++ s ++ VM.joinS s (y :: r) := rfl
    rw [e, List.length_append, List.length_append, List.map_cons, List.sum_cons, List.length_cons, Nat.add_mul, Nat.one_mul]
    omega
theorem join_mem (s : List Nat) {c : Nat} : ∀ ss : List (List Nat), c ∈ VM.joinS s ss → c ∈ s ∨ ∃ x ∈ ss, c ∈ x
  | [], h => nomatch h
  | [x], h => .inr ⟨x, by simp, h⟩
  | x :: y :: r, h => by
    have e : VM.joinS s (x :: y :: r) = x ++ s ++ VM.joinS s (y :: r) := rfl
    rw [e] at h
    rcases List.mem_append.mp h with h | h
    · rcases List.mem_append.mp h with h | h
      · exact .inr ⟨x, by simp, h⟩
      · exact .inl h
    · rcases join_mem s (y :: r) h with h | ⟨z, m, h⟩
      · exact .inl h
      · exact .inr ⟨z, List.mem_cons_of_mem _ m, h⟩
theorem sum_map (ss : List (List Nat)) : ((ss.map toS).map (·.length)).sum = (ss.map List.length).sum := by
  rw [List.map_map]
  congr 1
variable {o e : Expr} {tb : VM.TE} {apos : Pos}
theorem seq_rep {K : PySem.W.Frag} {G F : Hp} {μ : List Addr} {H : Hp} {st : Store} {px : PV} {x : V} {xs : List PV} (l : Lay K G F μ st H) (r : Rep K F μ px x) (h : VM.seqOf st px = some xs) : ∃ a vs, x = .ref a ∧ (SqL K H a vs ∨ SqT K H a vs) ∧ RepL K F μ xs vs := by
  unfold VM.seqOf at h
  split at h
  · cases h
    obtain ⟨a, vs, rfl, h1, h2⟩ := rep_tup.mp r
    exact ⟨a, vs, rfl, .inr (SameD.seqT l.same h1), h2⟩
  · obtain ⟨a, vs, rfl, h1, h2⟩ := asL_rep l r h
    exact ⟨a, vs, rfl, .inl (.inl (.inl h1)), h2⟩
theorem ve_join (ho : VE X o ta) (he : VE X e tb) (hs : starEach [e] X.env = [(false, eval e X.env)] := by rfl) (hbase : attributeBase o "join" X.env (eval o X.env) = eval o X.env := by rfl) (hline : (apos.endLine == pos.line) = true := by rfl) :
    VE X (.Call (.Attribute o "join" apos) [e] [] pos) (VM.eJoin ta tb) := pe_imp (pe_join ho he hs hbase hline) fun σ H Q h => by
  obtain ⟨G, F, μ, ρ, st, k, l, r, d, hk⟩ := h
  unfold VM.eJoin at d
  refine bind1 l r d fun v H1 F1 μ1 px st1 e1 l1 r1 p1 q1 => ?_
  obtain ⟨iS, q1⟩ := q1
  cases px with
  | str s =>
    obtain ⟨ok, rfl⟩ := rep_str.mp p1
    refine ⟨⟨_, rfl⟩, bind1 l1 r1 q1 fun u H2 F2 μ2 py st2 e2 l2 r2 p2 q2 => ?_⟩
    split at q2
    · rename_i s' xs es ex
      cases es
      split at q2
      · rename_i ss e3
        obtain ⟨b, vs, rfl, hb, rl⟩ := seq_rep l2 p2 ex
        obtain ⟨rfl, oks⟩ := strs_rep e3 rl
        refine ⟨toS s, b, ss.map toS, rfl, rfl, hb, ?_, ?_⟩
        · rw [sum_map, List.length_map]
          exact q2.1
        · have ej : Txt.join (toS s) (ss.map toS) = toS (VM.joinS s ss) := by
            rw [← join_toS]
            exact StrLaws.glued_eq_join _ _
          rw [ej]
          refine hk _ _ _ _ _ _ (e1.trans e2) l2 (rep_str.mpr ⟨⟨Nat.le_trans (join_bound s ss) q2.1, fun c hc => ?_⟩, rfl⟩) q2.2
          rcases join_mem s ss hc with hc | ⟨x, m, hc⟩
          · exact ok.2 c hc
          · exact (oks x m).2 c hc
      · exact q2.elim
    · exact q2.elim
  | _ => cases iS
end
end VS
end
section
namespace VM
/-- s stands at the head of l -/
def pre (S l : List Nat) : Bool := l.take S.length == S
def spl (S : List Nat) : Nat → List Nat → List Nat → List (List Nat)
  | _, acc, [] => [acc]
  | 0, acc, c :: r => if pre S (c :: r) = true then acc :: spl S (S.length - 1) [] r else spl S 0 (acc ++ [c]) r
  | k + 1, acc, _ :: r => spl S k acc r
def par (S : List Nat) : List Nat → List Nat → Option (List Nat × List Nat)
  | _, [] => none
  | acc, c :: r => if pre S (c :: r) = true then some (acc, (c :: r).drop S.length) else par S (acc ++ [c]) r
def plain (s : List Nat) : Bool := !s.isEmpty && s.all fun c => Nat.blt c 256
def eSplit (a b : TE) : TE := fun ρ st k x => a ρ st (fun u st => isStr u = true ∧ b ρ st (fun v st => match u, v with
  | .str s, .str t => plain t = true ∧ s.length + 2 ≤ SZ ∧ k (.lst ((spl t 0 [] s).map .str)) st
  | _, _ => False) x) x
def parT (t s : List Nat) : List PV := match par t [] s with
  | some (a, b) => [.str a, .str t, .str b]
  | none => [.str s, .str [], .str []]
def ePartition (a b : TE) : TE := fun ρ st k x => a ρ st (fun u st => isStr u = true ∧ b ρ st (fun v st => match u, v with
  | .str s, .str t => t ≠ [] ∧ k (.tup (parT t s)) st
  | _, _ => False) x) x
def eStarts (a b : TE) : TE := fun ρ st k x => a ρ st (fun u st => isStr u = true ∧ b ρ st (fun v st => match u, v with
  | .str s, .str t => k (.bl (pre t s)) st
  | _, _ => False) x) x
/-- the text of a whole number -/
def digs (i : Int) : List Nat := (toString i).toList.map Char.toNat
/-- {e}, a part of an f-text -/
def eFmt (a : TE) : TE := fun ρ st k x => a ρ st (fun u st => match u with
  | .str s => k (.str s) st
  | .int i => i.natAbs.log2 < 1920 ∧ (digs i).length ≤ SZ ∧ k (.str (digs i)) st
  | _ => False) x
/-- the parts one behind the other -/
def fJs : List TE → List Nat → Env → Store → KV → KV → Prop
  | [], acc, _, st, k, _ => k (.str acc) st
  | t :: ts, acc, ρ, st, k, x => t ρ st (fun u st => match u with
    | .str s => (acc ++ s).length ≤ SZ ∧ fJs ts (acc ++ s) ρ st k x
    | _ => False) x
def eJs (ts : List TE) : TE := fun ρ st k x => fJs ts [] ρ st k x
/-- int(text), of the text of a whole number -/
def fIntT (u : PV) (st : Store) (k : KV) : Prop := match u with
  | .str s => ∃ i : Int, s = digs i ∧ s.length ≤ 600 ∧ k (.int i) st
  | _ => False
/-- every second one -/
def evens {α : Type} : List α → List α
  | [] => []
  | [a] => [a]
  | a :: _ :: r => a :: evens r
/-- xs[::2], a list of one or three -/
def eSl2 (a : TE) : TE := fun ρ st k x => a ρ st (fun u st => match asL st u with
  | some xs => (xs.length = 1 ∨ xs.length = 3) ∧ k (.lst (evens xs)) st
  | none => False) x
end VM
end
section
namespace VS
open PySem PySem.Spec PyProof.Rows L2
open VM (PV SO Store)
theorem pre_eq : VM.pre = TL.pre := rfl
theorem spl_eq (S : List Nat) : ∀ (k : Nat) (acc l : List Nat), VM.spl S k acc l = TL.spl S k acc l
  | 0, acc, [] => rfl
  | k + 1, acc, [] => rfl
  | 0, acc, c :: r => by
    show (if VM.pre S (c :: r) = true then acc :: VM.spl S (S.length - 1) [] r else VM.spl S 0 (acc ++ [c]) r) = if TL.pre S (c :: r) = true then acc :: TL.spl S (S.length - 1) [] r else TL.spl S 0 (acc ++ [c]) r
    rw [spl_eq S (S.length - 1) [] r, spl_eq S 0 (acc ++ [c]) r]
    rfl
  | k + 1, acc, c :: r => by
    show VM.spl S k acc r = TL.spl S k acc r
    exact spl_eq S k acc r
theorem par_eq (S : List Nat) : ∀ (acc l : List Nat), VM.par S acc l = TL.par S acc l
  | acc, [] => rfl
  | acc, c :: r => by
    show (if VM.pre S (c :: r) = true then some (acc, (c :: r).drop S.length) else VM.par S (acc ++ [c]) r) = if TL.pre S (c :: r) = true then some (acc, (c :: r).drop S.length) else TL.par S (acc ++ [c]) r
    rw [par_eq S (acc ++ [c]) r]
    rfl
theorem tl_toS (s : List Nat) : TL.tl (toS s) = s := rfl
theorem toS_tl (z : Str) : toS (TL.tl z) = z := TL.mk_tl z
/-- what is cut off is part of the text -/
theorem spl_mem (S : List Nat) : ∀ (k : Nat) (acc l : List Nat), ∀ p ∈ VM.spl S k acc l, p.length ≤ acc.length + l.length ∧ ∀ c ∈ p, c ∈ acc ∨ c ∈ l
  | 0, acc, [] => fun p m => by
    rw [List.mem_singleton.mp m]
    exact ⟨Nat.le_refl _, fun c h => .inl h⟩
  | k + 1, acc, [] => fun p m => by
    rw [List.mem_singleton.mp m]
    exact ⟨Nat.le_refl _, fun c h => .inl h⟩
  | 0, acc, c :: r => fun p m => by
    have e : VM.spl S 0 acc (c :: r) = if VM.pre S (c :: r) = true then acc :: VM.spl S (S.length - 1) [] r else VM.spl S 0 (acc ++ [c]) r := rfl
    rw [e] at m
    split at m
    · rcases List.mem_cons.mp m with rfl | m
      · exact ⟨Nat.le_add_right _ _, fun c h => .inl h⟩
      · obtain ⟨h1, h2⟩ := spl_mem S (S.length - 1) [] r p m
        refine ⟨by rw [List.length_cons]; simp at h1; omega, fun d hd => ?_⟩
        rcases h2 d hd with h | h
        · cases h
        · exact .inr (List.mem_cons_of_mem _ h)
    · obtain ⟨h1, h2⟩ := spl_mem S 0 (acc ++ [c]) r p m
      refine ⟨by rw [List.length_append, List.length_singleton] at h1; rw [List.length_cons]; omega, fun d hd => ?_⟩
      rcases h2 d hd with h | h
      · rcases List.mem_append.mp h with h | h
        · exact .inl h
        · rw [List.mem_singleton.mp h]
          exact .inr (List.mem_cons_self ..)
      · exact .inr (List.mem_cons_of_mem _ h)
  | k + 1, acc, c :: r => fun p m => by
    have e : VM.spl S (k + 1) acc (c :: r) = VM.spl S k acc r := rfl
    rw [e] at m
    obtain ⟨h1, h2⟩ := spl_mem S k acc r p m
    refine ⟨by rw [List.length_cons]; omega, fun d hd => ?_⟩
    rcases h2 d hd with h | h
    · exact .inl h
    · exact .inr (List.mem_cons_of_mem _ h)
theorem par_mem (S : List Nat) : ∀ (acc l : List Nat) {a b : List Nat}, VM.par S acc l = some (a, b) → a.length ≤ acc.length + l.length ∧ b.length ≤ l.length ∧ (∀ c ∈ a, c ∈ acc ∨ c ∈ l) ∧ ∀ c ∈ b, c ∈ l
  | acc, [], a, b, h => nomatch h
  | acc, c :: r, a, b, h => by
    have e : VM.par S acc (c :: r) = if VM.pre S (c :: r) = true then some (acc, (c :: r).drop S.length) else VM.par S (acc ++ [c]) r := rfl
    rw [e] at h
    split at h
    · cases h
      exact ⟨Nat.le_add_right _ _, by rw [List.length_drop]; omega, fun c h => .inl h, fun c h => List.mem_of_mem_drop h⟩
    · obtain ⟨h1, h2, h3, h4⟩ := par_mem S (acc ++ [c]) r h
      rw [List.length_append, List.length_singleton] at h1
      refine ⟨by rw [List.length_cons]; omega, by rw [List.length_cons]; omega, fun d hd => ?_, fun d hd => List.mem_cons_of_mem _ (h4 d hd)⟩
      rcases h3 d hd with h | h
      · rcases List.mem_append.mp h with h | h
        · exact .inl h
        · rw [List.mem_singleton.mp h]
          exact .inr (List.mem_cons_self ..)
      · exact .inr (List.mem_cons_of_mem _ h)
theorem repL_strs {K : PySem.W.Frag} {F : Hp} {μ : List Addr} : ∀ (ss : List (List Nat)), (∀ s ∈ ss, sOk s) → RepL K F μ (ss.map PV.str) (ss.map fun s => V.str (toS s))
  | [], _ => repL_nil.mpr rfl
  | s :: ss, h => repL_cons.mpr ⟨_, _, rfl, rep_str.mpr ⟨h s (List.mem_cons_self ..), rfl⟩, repL_strs ss fun t m => h t (List.mem_cons_of_mem _ m)⟩
section
variable {X : Cx} {o e : Expr} {ta tb : VM.TE} {apos pos : Pos}
theorem ve_split (ho : VE X o ta) (he : VE X e tb) (hs : starEach [e] X.env = [(false, eval e X.env)] := by rfl) (hbase : attributeBase o "split" X.env (eval o X.env) = eval o X.env := by rfl) (hline : (apos.endLine == pos.line) = true := by rfl) :
    VE X (.Call (.Attribute o "split" apos) [e] [] pos) (VM.eSplit ta tb) := pe_imp (pe_split ho he hs hbase hline) fun σ H Q h => by
  obtain ⟨G, F, μ, ρ, st, k, l, r, d, hk⟩ := h
  unfold VM.eSplit at d
  refine bind1 l r d fun v H1 F1 μ1 px st1 e1 l1 r1 p1 q1 => ?_
  obtain ⟨iS, q1⟩ := q1
  cases px with
  | str s =>
    obtain ⟨ok, rfl⟩ := rep_str.mp p1
    refine ⟨⟨_, rfl⟩, bind1 l1 r1 q1 fun u H2 F2 μ2 py st2 e2 l2 r2 p2 q2 => ?_⟩
    cases py with
    | str t =>
      obtain ⟨ok2, rfl⟩ := rep_str.mp p2
      obtain ⟨pl, hl, q3⟩ := q2
      have ht : t ≠ [] := by
        intro z
        subst z
        cases pl
      have all : (toS t).cps.all (· < 256) = true := by
        unfold VM.plain at pl
        rw [Bool.and_eq_true] at pl
        have h2 := List.all_eq_true.mp pl.2
        rw [Array.all_eq_true_iff_forall_mem]
        intro c hc
        have := h2 c (by simpa [toS] using hc)
        simpa using this
      have es : (Txt.split (toS s) (toS t)) = (VM.spl t 0 [] s).map toS := by
        have h := TL.split_spl (toS s) (toS t) ht (TL.kind_ok all)
        rw [tl_toS, tl_toS, ← spl_eq] at h
        refine TL.map_tl_inj ?_
        rw [h, List.map_map]
        exact (List.map_id _).symm
      refine ⟨toS s, toS t, rfl, rfl, ?_, ?_, fun p hp => ?_⟩
      · cases t with
        | nil => exact (ht rfl).elim
        | cons c t => rfl
      · exact hl
      · rw [es, List.map_map]
        refine (hk.mono (e1.trans e2)).lst l2 (repL_strs _ fun z m => ?_) q3 p hp
        obtain ⟨h1, h2⟩ := spl_mem t 0 [] s z m
        refine ⟨by have := ok.1; simp at h1; omega, fun c hc => ?_⟩
        rcases h2 c hc with h | h
        · cases h
        · exact ok.2 c h
    | _ => exact q2.elim
  | _ => cases iS
theorem ve_partition (ho : VE X o ta) (he : VE X e tb) (hs : starEach [e] X.env = [(false, eval e X.env)] := by rfl) (hbase : attributeBase o "partition" X.env (eval o X.env) = eval o X.env := by rfl) (hline : (apos.endLine == pos.line) = true := by rfl) :
    VE X (.Call (.Attribute o "partition" apos) [e] [] pos) (VM.ePartition ta tb) := pe_imp (pe_partition ho he hs hbase hline) fun σ H Q h => by
  obtain ⟨G, F, μ, ρ, st, k, l, r, d, hk⟩ := h
  unfold VM.ePartition at d
  refine bind1 l r d fun v H1 F1 μ1 px st1 e1 l1 r1 p1 q1 => ?_
  obtain ⟨iS, q1⟩ := q1
  cases px with
  | str s =>
    obtain ⟨ok, rfl⟩ := rep_str.mp p1
    refine ⟨⟨_, rfl⟩, bind1 l1 r1 q1 fun u H2 F2 μ2 py st2 e2 l2 r2 p2 q2 => ?_⟩
    cases py with
    | str t =>
      obtain ⟨ok2, rfl⟩ := rep_str.mp p2
      obtain ⟨ht, q3⟩ := q2
      have e0 : sOk [] := ⟨Nat.zero_le _, fun _ m => nomatch m⟩
      have ep := TL.partition_par (toS s) (toS t) ht
      rw [tl_toS, tl_toS, ← par_eq] at ep
      refine ⟨toS s, toS t, rfl, rfl, ?_, ok.1, fun p hp => ?_⟩
      · cases t with
        | nil => exact (ht rfl).elim
        | cons c t => rfl
      · unfold VM.parT at q3
        cases hpar : VM.par t [] s with
        | none =>
          rw [hpar] at ep q3
          rw [ep]
          exact (hk.mono (e1.trans e2)).tup l2 (repL_strs [s, [], []] fun z m => by
            simp only [List.mem_cons, List.not_mem_nil, or_false] at m
            rcases m with rfl | rfl | rfl
            · exact ok
            · exact e0
            · exact e0) q3 p hp
        | some ab =>
          obtain ⟨a, b⟩ := ab
          rw [hpar] at ep q3
          rw [ep]
          obtain ⟨h1, h2, h3, h4⟩ := par_mem t [] s hpar
          exact (hk.mono (e1.trans e2)).tup l2 (repL_strs [a, t, b] fun z m => by
            simp only [List.mem_cons, List.not_mem_nil, or_false] at m
            have := ok.1
            rcases m with rfl | rfl | rfl
            · exact ⟨by simp at h1; omega, fun c hc => by
                rcases h3 c hc with h | h
                · cases h
                · exact ok.2 c h⟩
            · exact ok2
            · exact ⟨by omega, fun c hc => ok.2 c (h4 c hc)⟩) q3 p hp
    | _ => exact q2.elim
  | _ => cases iS
end
end VS
end
section
namespace VS
open PySem PySem.Spec PyProof.Rows L2
open VM (PV SO Store)
theorem pick2 (items : Array Value) (h : items.size = 1 ∨ items.size = 3) : slicePick items none none (some 2) = (VM.evens items.toList).toArray := by
  obtain ⟨l⟩ := items
  rcases h with h | h
  · match l, h with
    | [a], _ =>
      have e1 : sliceBounds none none (some 2) 1 = (0, 1, 2) := by decide
      have e2 : sliceRange 0 1 2 = [0] := by decide
      unfold slicePick
      show ((sliceRange (sliceBounds none none (some 2) 1).1 (sliceBounds none none (some 2) 1).2.1 (sliceBounds none none (some 2) 1).2.2).filterMap _).toArray = _
      rw [e1]
      show ((sliceRange 0 1 2).filterMap _).toArray = _
      rw [e2]
      rfl
  · match l, h with
    | [a, b, c], _ =>
      have e1 : sliceBounds none none (some 2) 3 = (0, 3, 2) := by decide
      have e2 : sliceRange 0 3 2 = [0, 2] := by decide
      unfold slicePick
      show ((sliceRange (sliceBounds none none (some 2) 3).1 (sliceBounds none none (some 2) 3).2.1 (sliceBounds none none (some 2) 3).2.2).filterMap _).toArray = _
      rw [e1]
      show ((sliceRange 0 3 2).filterMap _).toArray = _
      rw [e2]
      rfl
theorem starts_pre {s t : List Nat} (ht : t ≠ []) : Txt.startswith (toS s) (toS t) = VM.pre t s := by
  have h := TL.at_iff (x := toS s) (y := toS t) ht 0
  rw [tl_toS, tl_toS, List.drop_zero] at h
  have e : Txt.startswith (toS s) (toS t) = true ↔ StrLaws.At (toS s) (toS t) (toS s).length 0 := by
    unfold Txt.startswith StrLaws.At
    rw [Bool.and_eq_true, decide_eq_true_iff]
  rw [Bool.eq_iff_iff, e]
  exact h
theorem evens_rep {K : PySem.W.Frag} {F : Hp} {μ : List Addr} {xs : List PV} {vs : List V} (r : RepL K F μ xs vs) (h : xs.length = 1 ∨ xs.length = 3) : RepL K F μ (VM.evens xs) (VM.evens vs) := by
  rcases h with h | h
  · match xs, h with
    | [a], _ =>
      obtain ⟨v, vs', rfl, rv, r⟩ := repL_cons.mp r
      obtain rfl := repL_nil.mp r
      exact repL_cons.mpr ⟨_, _, rfl, rv, repL_nil.mpr rfl⟩
  · match xs, h with
    | [a, b, c], _ =>
      obtain ⟨v, vs', rfl, rv, r⟩ := repL_cons.mp r
      obtain ⟨v2, vs', rfl, rv2, r⟩ := repL_cons.mp r
      obtain ⟨v3, vs', rfl, rv3, r⟩ := repL_cons.mp r
      obtain rfl := repL_nil.mp r
      exact repL_cons.mpr ⟨_, _, rfl, rv, repL_cons.mpr ⟨_, _, rfl, rv3, repL_nil.mpr rfl⟩⟩
theorem vals_evens {vs : List V} {us : List Value} (r : Vals vs us) (h : vs.length = 1 ∨ vs.length = 3) : Vals (VM.evens vs) (VM.evens us) := by
  rcases h with h | h
  · match vs, h with
    | [a], _ => match us, r with
      | [u], .cons r .nil => exact .cons r .nil
  · match vs, h with
    | [a, b, c], _ => match us, r with
      | [u, v, w], .cons r (.cons r2 (.cons r3 .nil)) => exact .cons r (.cons r3 .nil)
theorem repL_len {K : PySem.W.Frag} {F : Hp} {μ : List Addr} : ∀ {xs : List PV} {vs : List V}, RepL K F μ xs vs → vs.length = xs.length
  | [], vs, r => by
    rw [repL_nil.mp r]
    rfl
  | x :: xs, vs, r => by
    obtain ⟨v, vs', rfl, _, r⟩ := repL_cons.mp r
    rw [List.length_cons, List.length_cons, repL_len r]
/-- xs[::2] -/
def tSl2 (te : L2.TE) : L2.TE := fun σ H Q => te σ H fun x H1 => ∃ a xs, x = .ref a ∧ H1 a = some (.lst xs) ∧ (xs.length = 1 ∨ xs.length = 3) ∧ ∀ p, H1 p = none → Q (.ref p) (upd H1 p (.lst (VM.evens xs)))
theorem pe_sl2 {X : Cx} {e : Expr} {te : L2.TE} {k : Nat} {p1 p3 pos : Pos} (he : PE X e te) : PE X (.Subscript e (.Slice none none (some (.Constant (.int 2) k p1)) p3) pos) (tSl2 te) := by
  refine ⟨fun pins s σ H Q I h => Subscript_ (thn (he.run pins s σ H _ I h) fun v s1 ⟨x, H1, I1, r1, a, xs, ex, hx, h13, q⟩ => ?_)⟩
  subst ex
  cases r1
  have sec : PO X (some (.Constant (.int 2) k p1)) (tPart (tC (.int 2))) := po_some pe_int
  refine wpAny_Slice (thn (po_none.run pins s1 σ H1 (fun o H2 => o = none ∧ H2 = H1) I1 ⟨rfl, rfl⟩) fun vl s2 ⟨l, H2, I2, pl, el, e2⟩ => ?_)
  subst el e2
  refine thn (po_none.run pins s2 σ H2 (fun o H3 => o = none ∧ H3 = H2) I2 ⟨rfl, rfl⟩) fun vu s3 ⟨u, H3, I3, pu, eu, e3⟩ => ?_
  subst eu e3
  refine thn (sec.run pins s3 σ H3 (fun o H4 => o = some 2 ∧ H4 = H3) I3 ⟨2, rfl, rfl, rfl⟩) fun vs s4 ⟨o, H4, I4, ps, eo, e4⟩ => ?_
  subst eo e4
  have I5 : Inv X pins σ H4 { s4 with heap := s4.heap.push { cls := .type "slice", data := .fields #[vl, vu, vs] } } := I4.kept (t' := s4.toks) fun b ob q => Heap.get?_push_of_some _ q
  obtain ⟨its, r, ht, hz⟩ := I5.list (.inl (.inl hx))
  have len := r.length
  show wpAny (model X.prog X.w) X.A (subscriptTail e (.Slice none none (some (.Constant (.int 2) k p1)) p3) (.ref a) (.ref s4.heap.objs.size)) (EP X pins σ Q) X.xe { s4 with heap := s4.heap.push { cls := .type "slice", data := .fields #[vl, vu, vs] } }
  refine tail_any (ops := [.ref a, .ref s4.heap.objs.size]) ht.isList.typeIs (PySem.slot_list_getitem.lookup) ?_ (by with_unfolding_all rfl)
  refine wpAny_getItem_list_slice ht.isList (Heap.IsSliceOf.new _ vl vu vs) pl pu ps (by decide) ?_ (by rw [List.size_toArray]; omega)
  rw [pick2 _ (by rw [List.size_toArray, ← len]; exact h13)]
  refine ⟨.ref _, _, I5.laid (t' := s4.toks) (o := .lst (VM.evens xs)) (fun b ob q => Heap.get?_push_of_some _ q) (Nat.le_refl _) ?_, rfl, q _ (I5.hok.fresh (Nat.le_refl _))⟩
  refine ⟨?_, _, 0, vals_evens r h13, Heap.get?_push_size _ rfl⟩
  rcases h13 with h | h
  · match xs, h with
    | [a], _ => exact hz
  · match xs, h with
    | [a, b, c], _ => exact Nat.le_trans (show 2 ≤ 3 by decide) hz
section
variable {X : Cx} {o e a : Expr} {ta tb : VM.TE} {apos pos p p3 p1 : Pos} {kk : Nat}
theorem ve_sl2 (ha : VE X a ta) : VE X (.Subscript a (.Slice none none (some (.Constant (.int 2) kk p1)) p3) pos) (VM.eSl2 ta) := pe_imp (pe_sl2 ha) fun σ H Q h => by
  obtain ⟨G, F, μ, ρ, st, k, l, r, d, hk⟩ := h
  unfold VM.eSl2 at d
  refine bind1 l r d fun v H1 F1 μ1 px st1 e1 l1 r1 p1 q1 => ?_
  split at q1
  · rename_i xs ex
    obtain ⟨b, vs, rfl, hb, rl⟩ := asL_rep l1 p1 ex
    exact ⟨b, vs, rfl, hb, by rw [repL_len rl]; exact q1.1, fun q hq => (hk.mono e1).lst l1 (evens_rep rl q1.1) q1.2 q hq⟩
  · exact q1.elim
theorem ve_starts {c : Nat} {t : List Nat} (ho : VE X o ta) (he : VE X e (VM.eC (.str (c :: t)))) (hs : starEach [e] X.env = [(false, eval e X.env)] := by rfl) (hbase : attributeBase o "startswith" X.env (eval o X.env) = eval o X.env := by rfl) (hline : (apos.endLine == pos.line) = true := by rfl) :
    VE X (.Call (.Attribute o "startswith" apos) [e] [] pos) (VM.eStarts ta (VM.eC (.str (c :: t)))) := pe_imp (pe_m1 F.slot_str_startswith F.type_str_startswith mt_startswith ho he hs hbase hline) fun σ H Q h => by
  obtain ⟨G, F, μ, ρ, st, k, l, r, d, hk⟩ := h
  unfold VM.eStarts at d
  refine bind1 l r d fun v H1 F1 μ1 px st1 e1 l1 r1 p1 q1 => ?_
  obtain ⟨iS, q1⟩ := q1
  cases px with
  | str s =>
    obtain ⟨ok, rfl⟩ := rep_str.mp p1
    refine ⟨⟨_, rfl⟩, bind1 (k := fun v st => v = .str (c :: t) ∧ k (.bl (VM.pre (c :: t) s)) st) l1 r1 ⟨rfl, q1⟩ fun u H2 F2 μ2 py st2 e2 l2 r2 p2 q2 => ?_⟩
    obtain ⟨rfl, q2⟩ := q2
    obtain ⟨ok2, rfl⟩ := rep_str.mp p2
    refine ⟨toS s, toS (c :: t), rfl, rfl, ?_⟩
    rw [starts_pre (by simp)]
    exact (hk.mono (e1.trans e2)).same l2 (rep_bl.mpr rfl) q2
  | _ => cases iS
theorem digs_ok {i : Int} (h : (VM.digs i).length ≤ VM.SZ) : sOk (VM.digs i) ∧ ((toString i : String) : Str) = toS (VM.digs i) := digits_ok (toString i) (by
  unfold VM.digs at h
  rw [List.length_map] at h
  exact h)
theorem ve_fmt (ha : VE X a ta) : VE X (.FormattedValue a (-1) none pos) (VM.eFmt ta) := pe_imp (pe_fmt ha) fun σ H Q h => by
  obtain ⟨G, F, μ, ρ, st, k, l, r, d, hk⟩ := h
  unfold VM.eFmt at d
  refine bind1 l r d fun v H1 F1 μ1 px st1 e1 l1 r1 p1 q1 => ?_
  cases px with
  | str s =>
    obtain ⟨ok, rfl⟩ := rep_str.mp p1
    exact .inl ⟨_, rfl, ok.1, (hk.mono e1).same l1 p1 q1⟩
  | int i =>
    obtain rfl := rep_int.mp p1
    obtain ⟨h1, h2, q1⟩ := q1
    obtain ⟨ok, ed⟩ := digs_ok h2
    refine .inr ⟨i, rfl, h1, ?_⟩
    rw [ed]
    exact (hk.mono e1).same l1 (rep_str.mpr ⟨ok, rfl⟩) q1
  | _ => exact q1.elim
/-- the parts of an f-text -/
inductive PJV (X : Cx) : List Expr → List VM.TE → Prop where
  | nil : PJV X [] []
  | cons {e : Expr} {t : VM.TE} {es : List Expr} {ts : List VM.TE} (h : VE X e t) (r : PJV X es ts) : PJV X (e :: es) (t :: ts)
theorem pjv_pj {es : List Expr} {ts : List VM.TE} (h : PJV X es ts) : PJ X es (ts.map fun t => rE X.K t) := by
  induction h with
  | nil => exact .nil
  | cons h r ih => exact .cons h ih
theorem js_run {K : PySem.W.Frag} {σ : L2.St} {Q : VK} {k : VM.KV} : ∀ (ts : List VM.TE) {G F : Hp} {μ : List Addr} {ρ : VM.Env} {st : Store} {H : Hp} (acc : List Nat), Lay K G F μ st H → EnvR K F μ σ ρ → sOk acc → VM.fJs ts acc ρ st k nox → Kon K G F μ k Q →
    tJs (ts.map fun t => rE K t) (toS acc) σ H fun out H1 => Q (.str out) H1
  | [], G, F, μ, ρ, st, H, acc, l, r, ok, d, hk => hk.same l (rep_str.mpr ⟨ok, rfl⟩) d
  | t :: ts, G, F, μ, ρ, st, H, acc, l, r, ok, d, hk => by
    unfold VM.fJs at d
    refine bind1 l r d fun v H1 F1 μ1 px st1 e1 l1 r1 p1 q1 => ?_
    cases px with
    | str s =>
      obtain ⟨ok2, rfl⟩ := rep_str.mp p1
      have ea : toS acc ++ toS s = toS (acc ++ s) := by
        show Str.append _ _ = _
        simp [Str.append, toS]
      refine ⟨toS s, rfl, ?_, ?_⟩
      · rw [ea]
        exact q1.1
      · rw [ea]
        exact js_run ts (acc ++ s) l1 r1 ⟨q1.1, fun c hc => by
          rcases List.mem_append.mp hc with hc | hc
          · exact ok.2 c hc
          · exact ok2.2 c hc⟩ q1.2 (hk.mono e1)
    | _ => exact q1.elim
theorem ve_js {v1 v2 : Expr} {rest : List Expr} {ts : List VM.TE} (h : PJV X (v1 :: v2 :: rest) ts) : VE X (.JoinedStr (v1 :: v2 :: rest) pos) (VM.eJs ts) := pe_imp (pe_joined (pjv_pj h)) fun σ H Q h => by
  obtain ⟨G, F, μ, ρ, st, k, l, r, d, hk⟩ := h
  exact js_run ts [] l r ⟨Nat.zero_le _, fun _ m => nomatch m⟩ d hk
theorem int_digs {i : Int} (hl : (VM.digs i).length ≤ 600) : PySem.intText? (toS (VM.digs i)) = some i := by
  have ok := digs_ok (i := i) (by show _ ≤ 16777216; omega)
  cases i with
  | ofNat n =>
    rw [← ok.2]
    have e := TL.tl_num n
    refine TL.int_num ?_
    rw [← e]
    show ((Str.ofString (toString ((n : Nat) : Int))).cps.toList).length ≤ 4300
    have : (Str.ofString (toString ((n : Nat) : Int))) = toS (VM.digs (Int.ofNat n)) := ok.2
    rw [this]
    show (VM.digs (Int.ofNat n)).length ≤ 4300
    omega
  | negSucc n =>
    have e : VM.digs (Int.negSucc n) = 45 :: TL.numL (n + 1) := by
      show ((String.append "-" (n + 1).repr).toList.map Char.toNat) = _
      rw [show String.append "-" (n + 1).repr = "-" ++ (n + 1).repr from rfl]
      simp [Nat.repr, TL.numL]
    have hl2 : (TL.numL (n + 1)).length ≤ 599 := by
      rw [e, List.length_cons] at hl
      omega
    have h := PySem.intText_neg (x := toS (VM.digs (Int.negSucc n))) (cs := TL.numL (n + 1)) (by rw [e]; rfl) (TL.numL_digits _) (TL.numL_ne _) (by
      show (VM.digs (Int.negSucc n)).length ≤ 4300
      omega)
    rw [h, TL.numL_val]
    rfl
theorem ve_intT (ha : VE X a ta) (hg : Gl X "int") (hm : X.mg "int" = none) (he : starEach [a] X.env = (false, eval a X.env) :: starEach [] X.env := by rfl) : VE X (.Call (.Name "int" p) [a] [] pos) (VM.eB1 VM.fIntT ta) :=
  ve_t1 call_int_str (fun G F μ st H px v k Q l r d hk => by
    unfold VM.fIntT at d
    split at d
    · rename_i s
      obtain ⟨ok, rfl⟩ := rep_str.mp r
      obtain ⟨i, rfl, hl, d⟩ := d
      exact ⟨toS (VM.digs i), i, rfl, int_digs hl, by show (VM.digs i).length ≤ 640; omega, hk.same l (rep_int.mpr rfl) d⟩
    · exact d.elim) ha hg hm boot_int (he := he)
end
end VS
end
namespace VP
open VM
def T_law_k62 (cs : CS) : TS :=
  (sCons (sSet (gName 1) (eCall cs 0 (aCons (eVar 0) aNil)))
    (sCons (sSet (gName 2) (eCall cs 46 (aCons (eVar 1) (aCons (eC (.int 11)) aNil))))
    (sCons (sFor (iRange1 (eC (.int 4))) (gName 3)
    (sCons (sPar [4, 5] (aCons (eCall cs 51 (aCons (eVar 1) (aCons (eVar 2) (aCons (eC (.int 11)) aNil)))) (aCons (eCall cs 2 (aCons (eVar 1) (aCons (eLst (aCons (eCall cs 26 (aCons (eVar 1) aNil)) (aCons (eBin .pow (eC (.int 10)) (eC (.int 12))) (aCons (eBin .sub (eC (.int 0)) (eBin .pow (eC (.int 10)) (eC (.int 12)))) aNil)))) aNil))) aNil)))
    (sCons (sSet (gName 6) (eTup (aCons (eVar 4) (aCons (eVar 5) (aCons (eCall cs 22 (aCons (eVar 1) aNil)) aNil)))))
    (sCons (sIf (tNot (tOf (eCall cs 16 (aCons (eLst (aCons (eCall cs 53 (aCons (eVar 6) aNil)) (aCons (eCall cs 52 (aCons (eVar 4) aNil)) aNil))) (aCons (eLst (aCons (eCall cs 55 (aCons (eVar 6) aNil)) (aCons (eCall cs 54 (aCons (eVar 4) aNil)) aNil))) aNil)))))
    (sRet (eC (.bl false)))
    sNil)
    (sCons (sIf (tNot (tOf (eCall cs 16 (aCons (eLst (aCons (eCall cs 59 (aCons (eCall cs 53 (aCons (eVar 6) aNil)) aNil)) (aCons (eCall cs 58 (aCons (eCall cs 52 (aCons (eVar 4) aNil)) aNil)) aNil))) (aCons (eLst (aCons (eVar 6) (aCons (eVar 4) aNil))) aNil)))))
    (sRet (eC (.bl false)))
    sNil)
    (sCons (sSet (gName 7) (eB1 fTuple (eComp (iRange1 (eCall cs 1 (aCons (eVar 1) (aCons (eC (.int 4)) aNil)))) (gName 8) tYes (eTup (aCons (eCall cs 2 (aCons (eVar 1) (aCons (eLst (aCons (eC (.str [65])) (aCons (eC (.str [97, 45, 98])) (aCons (eC (.str [109, 111, 100])) (aCons (eC (.str [55])) (aCons (eC (.str [108, 111, 110, 103, 108, 111, 110, 103, 108, 111, 110, 103])) (aCons (eC (.str [43])) (aCons (eC (.str [97, 10, 98])) (aCons (eIx (eVar 2) (eC (.int 0))) aNil))))))))) aNil))) (aCons (eCall cs 2 (aCons (eVar 1) (aCons (eLst (aCons (eBin .sub (eC (.int 5)) (eBin .pow (eC (.int 10)) (eC (.int 59)))) (aCons (eBin .sub (eBin .pow (eC (.int 10)) (eC (.int 60))) (eC (.int 1))) (aCons (eC (.int 0)) (aCons (eC (.int 2)) aNil))))) aNil))) aNil))) [8])))
    (sCons (sSet (gName 9) (eTup (aCons (eVar 7) (aCons (eCall cs 2 (aCons (eVar 1) (aCons (eLst (aCons (eBin .sub (eBin .pow (eC (.int 10)) (eC (.int 60))) (eC (.int 1))) (aCons (eBin .sub (eC (.int 0)) (eBin .pow (eC (.int 10)) (eC (.int 59)))) (aCons (eC (.int 0)) aNil)))) aNil))) (aCons (eCall cs 2 (aCons (eVar 1) (aCons (eLst (aCons (eC (.int 0)) (aCons (eC (.int 1)) (aCons (eNeg (eC (.int 7))) (aCons (eBin .sub (eBin .pow (eC (.int 10)) (eC (.int 60))) (eC (.int 1))) aNil))))) aNil))) aNil)))))
    (sCons (sSet (gName 10) (eBin .add (eBin .add (eCall cs 54 (aCons (eVar 7) aNil)) (eC (.str [32, 61, 32]))) (eB1 fStr (eIx (eVar 9) (eC (.int 1))))))
    (sCons (sIf (tCmp .ne (eIx (eVar 9) (eC (.int 2))) (eC (.int 0)))
    (sSet (gName 10) (eBin .add (eBin .add (eVar 10) (eC (.str [32, 109, 111, 100, 32]))) (eB1 fStr (eIx (eVar 9) (eC (.int 2))))))
    sNil)
    (sIf (tNot (tOf (eCall cs 16 (aCons (eLst (aCons (eCall cs 59 (aCons (eVar 10) aNil)) (aCons (eCall cs 58 (aCons (eCall cs 54 (aCons (eVar 7) aNil)) aNil)) aNil))) (aCons (eLst (aCons (eVar 9) (aCons (eVar 7) aNil))) aNil)))))
    (sRet (eC (.bl false)))
    sNil))))))))))
    (sCons (sSet (gName 11) (eB1 fTuple (eComp (iRange1 (eBin .add (eC (.int 13)) (eCall cs 1 (aCons (eVar 1) (aCons (eC (.int 20)) aNil))))) (gName 8) tYes (eTup (aCons (eIx (eVar 2) (eBin .mod (eB1 fInt (eVar 8)) (eC (.int 11)))) (aCons (eBin .sub (eVar 8) (eC (.int 6))) aNil))) [8])))
    (sCons (sSet (gName 10) (eCall cs 54 (aCons (eVar 11) aNil)))
    (sCons (sIf (tNot (tOf (eCall cs 16 (aCons (eLst (aCons (eCall cs 58 (aCons (eVar 10) aNil)) (aCons (eCall cs 59 (aCons (eBin .add (eVar 10) (eC (.str [32, 61, 32, 53, 32, 109, 111, 100, 32, 51]))) aNil)) aNil))) (aCons (eLst (aCons (eVar 11) (aCons (eTup (aCons (eVar 11) (aCons (eC (.int 5)) (aCons (eC (.int 3)) aNil)))) aNil))) aNil)))))
    (sRet (eC (.bl false)))
    sNil)
    (sRet (eCall cs 16 (aCons (eLst (aCons (eCall cs 53 (aCons (eTup (aCons (eTup aNil) (aCons (eC (.int 0)) (aCons (eC (.int 0)) aNil)))) aNil)) (aCons (eCall cs 59 (aCons (eC (.str [48, 32, 61, 32, 45, 51, 32, 109, 111, 100, 32, 50])) aNil)) (aCons (eCall cs 58 (aCons (eC (.str [48])) aNil)) aNil)))) (aCons (eLst (aCons (eC (.str [48, 32, 61, 32, 48])) (aCons (eTup (aCons (eTup aNil) (aCons (eNeg (eC (.int 3))) (aCons (eC (.int 2)) aNil)))) (aCons (eTup aNil) aNil)))) aNil))))))))))
def T__law_bag (cs : CS) : TS :=
  (sCons (sSet (gName 1) (eComp (iE (eSl (eVar 0) none (some (eC (.int 63))))) (gName 2) tYes (eB1 fInt (eVar 2)) [2]))
    (sCons (sSet (gName 3) (eBin .add (eC (.int 120170)) (eBin .mul (eC (.int 83)) (eB1 fLen (eVar 1)))))
    (sCons (sFor (iE (eVar 1)) (gName 2)
    (sSet (gName 3) (eBin .mod (eB1 fInt (eBin .add (eBin .mul (eVar 3) (eC (.int 6863))) (eVar 2))) (eC (.int 2147483549)))))
    (sRet (eLstM (aCons (eVar 1) (aCons (eC (.int 0)) (aCons (eC (.int 0)) (aCons (eVar 3) (aCons (eC (.int 0)) aNil))))))))))
def T__law_take (cs : CS) : TS :=
  (sCons (sSetIx (eVar 0) (eC (.int 4)) (eBin .add (eIx (eVar 0) (eC (.int 4))) (eC (.int 1))))
    (sCons (sIf (tAnd (tCmp .lt (eIx (eVar 0) (eC (.int 2))) (eC (.int 2))) (tCmp .lt (eIx (eVar 0) (eC (.int 1))) (eB1 fLen (eIx (eVar 0) (eC (.int 0))))))
    (sCons (sSet (gName 2) (eIx (eIx (eVar 0) (eC (.int 0))) (eIx (eVar 0) (eC (.int 1)))))
    (sCons (sSetIx (eVar 0) (eC (.int 1)) (eBin .add (eIx (eVar 0) (eC (.int 1))) (eC (.int 1))))
    (sCons (sSetIx (eVar 0) (eC (.int 3)) (eBin .mod (eB1 fInt (eBin .add (eBin .add (eBin .mul (eIx (eVar 0) (eC (.int 3))) (eC (.int 40063))) (eBin .mul (eBin .mod (eB1 fInt (eVar 2)) (eC (.int 2147483497))) (eC (.int 61)))) (eIx (eVar 0) (eC (.int 1))))) (eC (.int 2147483549))))
    (sSetIx (eVar 0) (eC (.int 2)) (eIf (tCmp .ge (eVar 2) (eBin .pow (eC (.int 10)) (eC (.int 18)))) (eVar 2) (eC (.int 0)))))))
    sNil)
    (sCons (sIf (tCmp .gt (eIx (eVar 0) (eC (.int 2))) (eC (.int 1)))
    (sCons (sSet (gName 3) (eBin .mod (eB1 fInt (eIx (eVar 0) (eC (.int 2)))) (eVar 1)))
    (sCons (sSetIx (eVar 0) (eC (.int 2)) (eBin .fdiv (eIx (eVar 0) (eC (.int 2))) (eVar 1)))
    (sRet (eVar 3))))
    sNil)
    (sCons (sSet (gName 4) (eBin .mod (eB1 fInt (eBin .add (eIx (eVar 0) (eC (.int 3))) (eBin .mul (eIx (eVar 0) (eC (.int 4))) (eC (.int 9547))))) (eC (.int 2147483549))))
    (sCons (sSetIx (eVar 0) (eC (.int 3)) (eBin .mod (eB1 fInt (eBin .add (eBin .add (eBin .mul (eVar 4) (eVar 4)) (eBin .mul (eVar 4) (eC (.int 33757)))) (eC (.int 90263)))) (eC (.int 2147483549))))
    (sRet (eBin .mod (eB1 fInt (eBin .add (eBin .fdiv (eIx (eVar 0) (eC (.int 3))) (eC (.int 71))) (eBin .mul (eBin .mod (eB1 fInt (eIx (eVar 0) (eC (.int 3)))) (eC (.int 7877))) (eC (.int 191))))) (eVar 1))))))))
def T__law_of (cs : CS) : TS :=
  (sRet (eIx (eVar 1) (eCall cs 1 (aCons (eVar 0) (aCons (eB1 fLen (eVar 1)) aNil)))))
def T__law_names (cs : CS) : TS :=
  (sCons (sSet (gName 2) (eC (.str [97, 98, 99, 100, 101, 102, 103, 104, 105, 106, 107, 108, 109, 110, 112, 113, 114, 115, 116, 117, 118, 119, 120, 121, 122])))
    (sCons (sSet (gName 3) (eJoin (eC (.str [])) (eComp (iRange1 (eCall cs 1 (aCons (eVar 0) (aCons (eC (.int 6)) aNil)))) (gName 4) tYes (eCall cs 2 (aCons (eVar 0) (aCons (eVar 2) aNil))) [4])))
    (sCons (sSet (gTup [(gName 5), (gName 6)]) (eTup (aCons (eCall cs 1 (aCons (eVar 0) (aCons (eBin .add (eB1 fLen (eVar 3)) (eC (.int 1))) aNil))) (aCons (eCall cs 1 (aCons (eVar 0) (aCons (eC (.int 25)) aNil))) aNil))))
    (sCons (sSet (gName 7) (eCall cs 2 (aCons (eVar 0) (aCons (eLst (aCons (eC (.int 1)) (aCons (eC (.int 2)) (aCons (eC (.int 3)) (aCons (eC (.int 4)) (aCons (eC (.int 6)) (aCons (eC (.int 7)) (aCons (eC (.int 8)) (aCons (eC (.int 9)) (aCons (eC (.int 11)) (aCons (eC (.int 12)) aNil))))))))))) aNil))))
    (sRet (eComp (iRange1 (eVar 1)) (gName 4) tYes (eBin .add (eBin .add (eSl (eVar 3) none (some (eVar 5))) (eIx (eVar 2) (eBin .mod (eB1 fInt (eBin .add (eVar 6) (eBin .mul (eVar 4) (eVar 7)))) (eC (.int 25))))) (eSl (eVar 3) (some (eVar 5)) none)) [4]))))))
def T__law_mixed (cs : CS) : TS :=
  (sCons (sSet (gName 2) (eLstM aNil))
    (sCons (sFor (iE (eVar 1)) (gName 3)
    (sExpr (eInsert (eVar 2) (eCall cs 1 (aCons (eVar 0) (aCons (eBin .add (eB1 fLen (eVar 2)) (eC (.int 1))) aNil))) (eVar 3))))
    (sRet (eVar 2))))
def T__law_small (cs : CS) : TS :=
  (sRet (eCall cs 2 (aCons (eVar 0) (aCons (eLst (aCons (eC (.int 1)) (aCons (eC (.int 1)) (aCons (eNeg (eC (.int 1))) (aCons (eC (.int 2)) (aCons (eNeg (eC (.int 2))) (aCons (eC (.int 3)) (aCons (eNeg (eC (.int 3))) (aCons (eC (.int 4)) (aCons (eC (.int 0)) (aCons (eC (.int 6)) (aCons (eC (.int 5)) (aCons (eC (.int 12)) aNil))))))))))))) aNil))))
def T__law_big_factor (cs : CS) : TS :=
  (sRet (eIf (tCmp .gt (eCall cs 1 (aCons (eVar 0) (aCons (eC (.int 5)) aNil))) (eC (.int 0))) (eCall cs 3 (aCons (eVar 0) aNil)) (eBin .sub (eCall cs 1 (aCons (eVar 0) (aCons (eC (.int 2001)) aNil))) (eC (.int 1000)))))
def T__law_terms (cs : CS) : TS :=
  (sCons (sSet (gName 3) (eSl (eCall cs 17 (aCons (eVar 0) (aCons (eVar 1) aNil))) none (some (eCall cs 1 (aCons (eVar 0) (aCons (eBin .add (eVar 2) (eC (.int 1))) aNil))))))
    (sRet (eB1 fTuple (eComp (iE (eVar 3)) (gName 4) tYes (eTup (aCons (eVar 4) (aCons (eCall cs 4 (aCons (eVar 0) aNil)) aNil))) [4]))))
def T__law_number (cs : CS) : TS :=
  (sRet (eCall cs 2 (aCons (eVar 0) (aCons (eLst (aCons (eC (.int 0)) (aCons (eC (.int 1)) (aCons (eNeg (eC (.int 1))) (aCons (eC (.int 2)) (aCons (eC (.int 7)) (aCons (eBin .sub (eCall cs 1 (aCons (eVar 0) (aCons (eC (.int 41)) aNil))) (eC (.int 20))) (aCons (eCall cs 1 (aCons (eVar 0) (aCons (eBin .pow (eC (.int 10)) (eC (.int 6))) aNil))) (aCons (eBin .sub (eC (.int 5)) (eCall cs 1 (aCons (eVar 0) (aCons (eBin .pow (eC (.int 10)) (eC (.int 9))) aNil)))) aNil))))))))) aNil))))
def T__law_modulus (cs : CS) : TS :=
  (sRet (eCall cs 2 (aCons (eVar 0) (aCons (eLst (aCons (eC (.int 0)) (aCons (eC (.int 0)) (aCons (eC (.int 0)) (aCons (eC (.int 2)) (aCons (eC (.int 3)) (aCons (eC (.int 4)) (aCons (eC (.int 6)) (aCons (eC (.int 5)) (aCons (eBin .add (eC (.int 2)) (eCall cs 1 (aCons (eVar 0) (aCons (eC (.int 40)) aNil)))) (aCons (eBin .add (eC (.int 2)) (eCall cs 1 (aCons (eVar 0) (aCons (eBin .sub (eBin .pow (eC (.int 10)) (eC (.int 6))) (eC (.int 1))) aNil)))) aNil))))))))))) aNil))))
def T_terms_text (cs : CS) : TS :=
  (sCons (sIf (tCmp .eq (eVar 0) (eTup aNil))
    (sRet (eC (.str [48])))
    sNil)
    (sRet (eJoin (eC (.str [32, 43, 32])) (eComp (iE (eVar 0)) (gTup [(gName 1), (gName 2)]) tYes (eJs [(eFmt (eVar 2)), (eC (.str [42])), (eFmt (eVar 1))]) [1, 2]))))
def T_row_text (cs : CS) : TS :=
  (sCons (sSet (gName 1) (eJs [(eFmt (eCall cs 52 (aCons (eIx (eVar 0) (eC (.int 0))) aNil))), (eC (.str [32, 61, 32])), (eFmt (eIx (eVar 0) (eC (.int 1))))]))
    (sRet (eIf (tCmp .gt (eIx (eVar 0) (eC (.int 2))) (eC (.int 0))) (eJs [(eFmt (eVar 1)), (eC (.str [32, 109, 111, 100, 32])), (eFmt (eIx (eVar 0) (eC (.int 2))))]) (eVar 1))))
def T__law_terms_text (cs : CS) : TS :=
  (sRet (eIf (tCmp .ne (eVar 0) (eTup aNil)) (eJoin (eC (.str [32, 43, 32])) (eComp (iE (eVar 0)) (gTup [(gName 1), (gName 2)]) tYes (eBin .add (eBin .add (eB1 fStr (eVar 2)) (eC (.str [42]))) (eVar 1)) [1, 2])) (eC (.str [48]))))
def T__law_row_text (cs : CS) : TS :=
  (sCons (sSet (gName 1) (eBin .add (eBin .add (eCall cs 54 (aCons (eIx (eVar 0) (eC (.int 0))) aNil)) (eC (.str [32, 61, 32]))) (eB1 fStr (eIx (eVar 0) (eC (.int 1))))))
    (sRet (eIf (tCmp .gt (eIx (eVar 0) (eC (.int 2))) (eC (.int 0))) (eBin .add (eBin .add (eVar 1) (eC (.str [32, 109, 111, 100, 32]))) (eB1 fStr (eIx (eVar 0) (eC (.int 2))))) (eVar 1))))
def T__law_same (cs : CS) : TS :=
  (sCons (sIf (tCmp .isN (eVar 1) (eC .non))
    (sRet (eCmp .isN (eVar 0) (eC .non)))
    sNil)
    (sCons (sIf (tOr (tOf (eB1 (fIsi [.bool]) (eVar 1))) (tOf (eB1 (fIsi [.bool]) (eVar 0))))
    (sRet (eAnd (eB1 (fIsi [.bool]) (eVar 1)) (eAnd (eB1 (fIsi [.bool]) (eVar 0)) (eCmp .eq (eVar 0) (eVar 1)))))
    sNil)
    (sCons (sIf (tOf (eB1 (fIsi [.int, .str]) (eVar 1)))
    (sRet (eAnd (eB1 (fIsi [.int, .str]) (eVar 0)) (eAnd (eCmp .eq (eB1 (fIsi [.int]) (eVar 0)) (eB1 (fIsi [.int]) (eVar 1))) (eCmp .eq (eVar 0) (eVar 1)))))
    sNil)
    (sCons (sIf (tOr (tCmp .ne (eB1 (fIsi [.list]) (eVar 1)) (eB1 (fIsi [.list]) (eVar 0))) (tCmp .ne (eB1 (fIsi [.tuple]) (eVar 1)) (eB1 (fIsi [.tuple]) (eVar 0))))
    (sRet (eC (.bl false)))
    sNil)
    (sCons (sIf (tOr (tNot (tOf (eB1 (fIsi [.list, .tuple]) (eVar 0)))) (tCmp .ne (eB1 fLen (eVar 0)) (eB1 fLen (eVar 1))))
    (sRet (eC (.bl false)))
    sNil)
    (sRet (eB1 fAll (eComp (iZip (eVar 0) (eVar 1)) (gTup [(gName 2), (gName 3)]) tYes (eCall cs 16 (aCons (eVar 2) (aCons (eVar 3) aNil))) [2, 3]))))))))
def T_is_number (cs : CS) : TS :=
  (sCons (sSet (gName 1) (eIf (tOf (eStarts (eVar 0) (eC (.str [45])))) (eSl (eVar 0) (some (eC (.int 1))) none) (eVar 0)))
    (sCons (sIf (tOr (tNot (tChain .le .le (eC (.int 1)) (eB1 fLen (eVar 1)) (eC (.int 60)))) (tNot (tOf (eB1 fAll (eComp (iE (eVar 1)) (gName 2) tYes (eCmp .isin (eVar 2) (eC (.str [48, 49, 50, 51, 52, 53, 54, 55, 56, 57]))) [2])))))
    (sRet (eC (.bl false)))
    sNil)
    (sRet (eOr (eCmp .ne (eIx (eVar 1) (eC (.int 0))) (eC (.str [48]))) (eCmp .eq (eVar 0) (eC (.str [48])))))))
def T_is_word (cs : CS) : TS :=
  (sRet (eAnd (eCmp .ne (eVar 0) (eC (.str []))) (eNot (eB1 fAny (eComp (iE (eTup (aCons (eC (.str [32])) (aCons (eC (.str [42])) (aCons (eC (.str [61])) aNil))))) (gName 1) tYes (eCmp .isin (eVar 1) (eVar 0)) [1])))))
def T_read_terms (cs : CS) : TS :=
  (sCons (sIf (tNot (tOf (eB1 (fIsi [.str]) (eVar 0))))
    sNever
    sNil)
    (sCons (sIf (tCmp .eq (eVar 0) (eC (.str [48])))
    (sRet (eTup aNil))
    sNil)
    (sCons (sSet (gName 1) (eLstM aNil))
    (sCons (sFor (iE (eSplit (eVar 0) (eC (.str [32, 43, 32])))) (gName 2)
    (sCons (sSet (gTup [(gName 3), (gName 4), (gName 5)]) (ePartition (eVar 2) (eC (.str [42]))))
    (sCons (sIf (tOr (tCmp .eq (eVar 4) (eC (.str []))) (tOr (tNot (tOf (eCall cs 56 (aCons (eVar 3) aNil)))) (tNot (tOf (eCall cs 57 (aCons (eVar 5) aNil))))))
    sNever
    sNil)
    (sExpr (eAppend (eVar 1) (eTup (aCons (eVar 5) (aCons (eB1 fIntT (eVar 3)) aNil))))))))
    (sRet (eB1 fTuple (eVar 1)))))))
def T_read_row (cs : CS) : TS :=
  (sCons (sIf (tNot (tOf (eB1 (fIsi [.str]) (eVar 0))))
    sNever
    sNil)
    (sCons (sSet (gTup [(gName 1), (gName 2), (gName 3)]) (ePartition (eVar 0) (eC (.str [32, 61, 32]))))
    (sCons (sSet (gName 4) (eCall cs 58 (aCons (eVar 1) aNil)))
    (sCons (sSet (gName 5) (eSplit (eVar 3) (eC (.str [32]))))
    (sCons (sIf (tOr (tCmp .eq (eVar 2) (eC (.str []))) (tOr (tNot (tOf (eB1 fAll (eComp (iE (eSl2 (eVar 5))) (gName 6) tYes (eCall cs 56 (aCons (eVar 6) aNil)) [6])))) (tCmp .notin (eB1 fLen (eVar 5)) (eTup (aCons (eC (.int 1)) (aCons (eC (.int 3)) aNil))))))
    sNever
    sNil)
    (sCons (sIf (tCmp .eq (eB1 fLen (eVar 5)) (eC (.int 1)))
    (sRet (eTup (aCons (eVar 4) (aCons (eB1 fIntT (eIx (eVar 5) (eC (.int 0)))) (aCons (eC (.int 0)) aNil)))))
    sNil)
    (sCons (sIf (tOr (tCmp .ne (eIx (eVar 5) (eC (.int 1))) (eC (.str [109, 111, 100]))) (tCmp .eq (eIx (eVar 5) (eC (.int 2))) (eC (.str [48]))))
    sNever
    sNil)
    (sRet (eTup (aCons (eVar 4) (aCons (eB1 fIntT (eIx (eVar 5) (eC (.int 0)))) (aCons (eB1 fIntT (eIx (eVar 5) (eC (.int 2)))) aNil))))))))))))
end VP
namespace VP
open VM
def T__law_drawn_vectors (cs : CS) : TS :=
  (sCons (sSet (gName 3) (eLstM aNil))
    (sCons (sFor (iRange1 (eVar 1)) (gName 4)
    (sCons (sSet (gName 5) (eCall cs 1 (aCons (eVar 0) (aCons (eC (.int 5)) aNil))))
    (sCons (sSet (gName 6) (eComp (iRange1 (eVar 2)) (gName 7) tYes (eCall cs 4 (aCons (eVar 0) aNil)) [7]))
    (sCons (sIf (tAnd (tCmp .eq (eVar 5) (eC (.int 0))) (tCmp .ne (eVar 3) (eLst aNil)))
    (sSet (gName 6) (eComp (iE (eCall cs 2 (aCons (eVar 0) (aCons (eVar 3) aNil)))) (gName 8) tYes (eBin .mul (eC (.int 2)) (eVar 8)) [8]))
    sNil)
    (sCons (sIf (tCmp .eq (eVar 5) (eC (.int 1)))
    (sSet (gName 6) (eComp (iRange1 (eVar 2)) (gName 7) tYes (eIf (tCmp .lt (eVar 7) (eCall cs 1 (aCons (eVar 0) (aCons (eBin .add (eVar 2) (eC (.int 1))) aNil)))) (eC (.int 0)) (eIx (eVar 6) (eVar 7))) [7]))
    sNil)
    (sExpr (eAppend (eVar 3) (eB1 fTuple (eVar 6)))))))))
    (sRet (eVar 3))))
def T_minus (cs : CS) : TS :=
  (sRet (eComp (iZip (eVar 0) (eVar 1)) (gTup [(gName 3), (gName 4)]) tYes (eBin .sub (eVar 3) (eBin .mul (eVar 4) (eVar 2))) [3, 4]))
def T_cleared (cs : CS) : TS :=
  (sCons (sSet (gName 2) (eComp (iE (eVar 0)) (gName 3) (tCmp .ne (eIx (eVar 3) (eVar 1)) (eC (.int 0))) (eVar 3) [3]))
    (sCons (sSet (gName 4) (eComp (iE (eVar 0)) (gName 3) (tCmp .eq (eIx (eVar 3) (eVar 1)) (eC (.int 0))) (eVar 3) [3]))
    (sCons (sWhile (tCmp .gt (eB1 fLen (eVar 2)) (eC (.int 1)))
    (sCons (sSet (gName 5) (eC (.int 0)))
    (sCons (sFor (iRange1 (eB1 fLen (eVar 2))) (gName 6)
    (sIf (tCmp .lt (eB1 fAbs (eIx (eIx (eVar 2) (eVar 6)) (eVar 1))) (eB1 fAbs (eIx (eIx (eVar 2) (eVar 5)) (eVar 1))))
    (sSet (gName 5) (eVar 6))
    sNil))
    (sCons (sSet (gName 7) (eIx (eVar 2) (eVar 5)))
    (sCons (sSet (gName 8) (eLst (aCons (eVar 7) aNil)))
    (sCons (sFor (iRange1 (eB1 fLen (eVar 2))) (gName 6)
    (sIf (tCmp .ne (eVar 6) (eVar 5))
    (sCons (sSet (gName 3) (eCall cs 6 (aCons (eIx (eVar 2) (eVar 6)) (aCons (eVar 7) (aCons (eBin .fdiv (eIx (eIx (eVar 2) (eVar 6)) (eVar 1)) (eIx (eVar 7) (eVar 1))) aNil)))))
    (sIf (tCmp .ne (eIx (eVar 3) (eVar 1)) (eC (.int 0)))
    (sSet (gName 8) (eBin .add (eVar 8) (eLst (aCons (eVar 3) aNil))))
    (sSet (gName 4) (eBin .add (eVar 4) (eLst (aCons (eVar 3) aNil))))))
    sNil))
    (sSet (gName 2) (eVar 8))))))))
    (sRet (eTup (aCons (eVar 2) (aCons (eVar 4) aNil)))))))
def T_times (cs : CS) : TS :=
  (sRet (eComp (iE (eVar 0)) (gName 2) tYes (eBin .mul (eVar 2) (eVar 1)) [2]))
def T_is_whole_number (cs : CS) : TS :=
  (sRet (eAnd (eB1 (fIsi [.int]) (eVar 0)) (eNot (eB1 (fIsi [.bool]) (eVar 0)))))
def T_Share___init__ (cs : CS) : TS :=
  (sCons (sIf (tNot (tOf (eCall cs 27 (aCons (eVar 1) aNil))))
    sNever
    sNil)
    (sCons (sIf (tOr (tNot (tOf (eCall cs 27 (aCons (eVar 2) aNil)))) (tCmp .lt (eVar 2) (eC (.int 1))))
    sNever
    sNil)
    (sCons (sSet (gName 3) (eGcd (eVar 1) (eVar 2)))
    (sCons (sSetFld [0] 85 (eVar 0) (eBin .fdiv (eVar 1) (eVar 3)))
    (sSetFld [0] 69 (eVar 0) (eBin .fdiv (eVar 2) (eVar 3)))))))
def T_Share___add__ (cs : CS) : TS :=
  (sCons (sIf (tOf (eB1 (fIsiO [0] [0]) (eVar 1)))
    (sCons (sSet (gName 2) (eBin .add (eBin .mul (eFld cs [] [0] 85 (eVar 0)) (eFld cs [] [0] 69 (eVar 1))) (eBin .mul (eFld cs [] [0] 85 (eVar 1)) (eFld cs [] [0] 69 (eVar 0)))))
    (sRet (eNew cs 0 28 (aDfl (aCons (eVar 2) (aCons (eBin .mul (eFld cs [] [0] 69 (eVar 0)) (eFld cs [] [0] 69 (eVar 1))) aNil)) []))))
    sNil)
    (sCons (sIf (tOf (eCall cs 27 (aCons (eVar 1) aNil)))
    (sRet (eNew cs 0 28 (aDfl (aCons (eBin .add (eFld cs [] [0] 85 (eVar 0)) (eBin .mul (eVar 1) (eFld cs [] [0] 69 (eVar 0)))) (aCons (eFld cs [] [0] 69 (eVar 0)) aNil)) [])))
    sNil)
    sNever))
def T_Share___radd__ (cs : CS) : TS :=
  (sCons (sIf (tOf (eCall cs 27 (aCons (eVar 1) aNil)))
    (sRet (eNew cs 0 28 (aDfl (aCons (eBin .add (eFld cs [] [0] 85 (eVar 0)) (eBin .mul (eVar 1) (eFld cs [] [0] 69 (eVar 0)))) (aCons (eFld cs [] [0] 69 (eVar 0)) aNil)) [])))
    sNil)
    sNever)
def T_Share_bottom (cs : CS) : TS :=
  (sRet (eFld cs [] [0] 69 (eVar 0)))
def T_Share_top (cs : CS) : TS :=
  (sRet (eFld cs [] [0] 85 (eVar 0)))
def T__law_is (cs : CS) : TS :=
  (sCons (sIf (tOr (tNot (tOf (eB1 (fIsiO [0] [0]) (eVar 0)))) (tOr (tCmp .lt (eFld cs [(0, 31)] [] 17 (eVar 0)) (eC (.int 1))) (tCmp .ne (eBin .mul (eFld cs [(0, 32)] [] 113 (eVar 0)) (eVar 2)) (eBin .mul (eVar 1) (eFld cs [(0, 31)] [] 17 (eVar 0))))))
    (sRet (eC (.bl false)))
    sNil)
    (sCons (sPar [3, 4] (aCons (eFld cs [(0, 32)] [] 113 (eVar 0)) (aCons (eFld cs [(0, 31)] [] 17 (eVar 0)) aNil)))
    (sCons (sWhile (tCmp .ne (eVar 4) (eC (.int 0)))
    (sPar [3, 4] (aCons (eVar 4) (aCons (eBin .mod (eB1 fInt (eVar 3)) (eVar 4)) aNil))))
    (sRet (eCmp .eq (eB1 fAbs (eVar 3)) (eC (.int 1)))))))
def T_Share___sub__ (cs : CS) : TS :=
  (sCons (sIf (tOf (eB1 (fIsiO [0] [0]) (eVar 1)))
    (sCons (sSet (gName 2) (eBin .sub (eBin .mul (eFld cs [] [0] 85 (eVar 0)) (eFld cs [] [0] 69 (eVar 1))) (eBin .mul (eFld cs [] [0] 85 (eVar 1)) (eFld cs [] [0] 69 (eVar 0)))))
    (sRet (eNew cs 0 28 (aDfl (aCons (eVar 2) (aCons (eBin .mul (eFld cs [] [0] 69 (eVar 0)) (eFld cs [] [0] 69 (eVar 1))) aNil)) []))))
    sNil)
    (sCons (sIf (tOf (eCall cs 27 (aCons (eVar 1) aNil)))
    (sRet (eNew cs 0 28 (aDfl (aCons (eBin .sub (eFld cs [] [0] 85 (eVar 0)) (eBin .mul (eVar 1) (eFld cs [] [0] 69 (eVar 0)))) (aCons (eFld cs [] [0] 69 (eVar 0)) aNil)) [])))
    sNil)
    sNever))
def T_Share___rsub__ (cs : CS) : TS :=
  (sCons (sIf (tOf (eCall cs 27 (aCons (eVar 1) aNil)))
    (sRet (eNew cs 0 28 (aDfl (aCons (eBin .sub (eBin .mul (eVar 1) (eFld cs [] [0] 69 (eVar 0))) (eFld cs [] [0] 85 (eVar 0))) (aCons (eFld cs [] [0] 69 (eVar 0)) aNil)) [])))
    sNil)
    sNever)
def T_Share___mul__ (cs : CS) : TS :=
  (sCons (sIf (tOf (eB1 (fIsiO [0] [0]) (eVar 1)))
    (sRet (eNew cs 0 28 (aDfl (aCons (eBin .mul (eFld cs [] [0] 85 (eVar 0)) (eFld cs [] [0] 85 (eVar 1))) (aCons (eBin .mul (eFld cs [] [0] 69 (eVar 0)) (eFld cs [] [0] 69 (eVar 1))) aNil)) [])))
    sNil)
    (sCons (sIf (tOf (eCall cs 27 (aCons (eVar 1) aNil)))
    (sRet (eNew cs 0 28 (aDfl (aCons (eBin .mul (eFld cs [] [0] 85 (eVar 0)) (eVar 1)) (aCons (eFld cs [] [0] 69 (eVar 0)) aNil)) [])))
    sNil)
    sNever))
def T_Share___rmul__ (cs : CS) : TS :=
  (sCons (sIf (tOf (eCall cs 27 (aCons (eVar 1) aNil)))
    (sRet (eNew cs 0 28 (aDfl (aCons (eBin .mul (eFld cs [] [0] 85 (eVar 0)) (eVar 1)) (aCons (eFld cs [] [0] 69 (eVar 0)) aNil)) [])))
    sNil)
    sNever)
def T_Share___neg__ (cs : CS) : TS :=
  (sRet (eNew cs 0 28 (aDfl (aCons (eNeg (eFld cs [] [0] 85 (eVar 0))) (aCons (eFld cs [] [0] 69 (eVar 0)) aNil)) [])))
def T_Share___eq__ (cs : CS) : TS :=
  (sCons (sIf (tOf (eB1 (fIsiO [0] [0]) (eVar 1)))
    (sRet (eAnd (eCmp .eq (eFld cs [] [0] 85 (eVar 0)) (eFld cs [] [0] 85 (eVar 1))) (eCmp .eq (eFld cs [] [0] 69 (eVar 0)) (eFld cs [] [0] 69 (eVar 1)))))
    sNil)
    (sRet (eAnd (eCall cs 27 (aCons (eVar 1) aNil)) (eAnd (eCmp .eq (eFld cs [] [0] 69 (eVar 0)) (eC (.int 1))) (eCmp .eq (eFld cs [] [0] 85 (eVar 0)) (eVar 1))))))
def T_is_name (cs : CS) : TS :=
  (sCons (sIf (tOr (tNot (tOf (eB1 (fIsi [.str]) (eVar 0)))) (tNot (tChain .le .le (eC (.int 1)) (eB1 fLen (eVar 0)) (eC (.int 6)))))
    (sRet (eC (.bl false)))
    sNil)
    (sRet (eB1 fAll (eComp (iE (eVar 0)) (gName 1) tYes (eCmp .isin (eVar 1) (eC (.str [97, 98, 99, 100, 101, 102, 103, 104, 105, 106, 107, 108, 109, 110, 111, 112, 113, 114, 115, 116, 117, 118, 119, 120, 121, 122]))) [1]))))
def T__law_right_name (cs : CS) : TS :=
  (sCons (sIf (tOr (tNot (tOf (eB1 (fIsi [.str]) (eVar 0)))) (tNot (tChain .le .le (eC (.int 1)) (eB1 fLen (eVar 0)) (eC (.int 6)))))
    (sRet (eC (.bl false)))
    sNil)
    (sRet (eB1 fAll (eComp (iE (eVar 0)) (gName 1) tYes (eCmp .isin (eVar 1) (eC (.str [97, 98, 99, 100, 101, 102, 103, 104, 105, 106, 107, 108, 109, 110, 111, 112, 113, 114, 115, 116, 117, 118, 119, 120, 121, 122]))) [1]))))
def T__law_nest (cs : CS) : TS :=
  (sCons (sSet (gName 0) (eTup aNil))
    (sCons (sFor (iRange1 (eC (.int 5))) (gName 1)
    (sSet (gName 0) (eTup (aCons (eVar 0) aNil))))
    (sRet (eVar 0))))
def T__law_odd (cs : CS) : TS :=
  (sRet (eCall cs 2 (aCons (eVar 0) (aCons (eLst (aCons (eC .non) (aCons (eC (.str [])) (aCons (eC (.int 3)) (aCons (eC (.bl true)) (aCons (eC (.str [65])) (aCons (eC (.str [115, 101, 118, 101, 110, 101, 111])) (aCons (eC (.str [97, 32, 98])) (aCons (eC (.str [97, 49])) (aCons (eTup (aCons (eC (.str [97])) aNil)) (aCons (eLst (aCons (eC (.str [97])) aNil)) (aCons (eNeg (eC (.int 1))) (aCons (eC (.str [122, 111, 10])) (aCons (eCall cs 43 aNil) aNil)))))))))))))) aNil))))
def T_is_integer (cs : CS) : TS :=
  (sRet (eAnd (eB1 (fIsi [.int]) (eVar 0)) (eAnd (eNot (eB1 (fIsi [.bool]) (eVar 0))) (eChain .le .le (eVar 1) (eVar 0) (eVar 2)))))
def T_is_term (cs : CS) : TS :=
  (sCons (sIf (tOr (tNot (tOf (eB1 (fIsi [.tuple]) (eVar 0)))) (tCmp .ne (eB1 fLen (eVar 0)) (eC (.int 2))))
    (sRet (eC (.bl false)))
    sNil)
    (sRet (eAnd (eCall cs 41 (aCons (eIx (eVar 0) (eC (.int 0))) aNil)) (eCall cs 45 (aCons (eIx (eVar 0) (eC (.int 1))) (aCons (eNeg (eC (.int 1000))) (aCons (eC (.int 1000)) aNil)))))))
def T_is_terms (cs : CS) : TS :=
  (sCons (sIf (tOr (tNot (tOf (eB1 (fIsi [.tuple]) (eVar 0)))) (tCmp .gt (eB1 fLen (eVar 0)) (eC (.int 12))))
    (sRet (eC (.bl false)))
    sNil)
    (sCons (sIf (tNot (tOf (eB1 fAll (eComp (iE (eVar 0)) (gName 1) tYes (eCall cs 47 (aCons (eVar 1) aNil)) [1]))))
    (sRet (eC (.bl false)))
    sNil)
    (sCons (sSet (gName 2) (eComp (iE (eVar 0)) (gName 1) tYes (eIx (eVar 1) (eC (.int 0))) [1]))
    (sRet (eCmp .eq (eLenSet (eVar 2)) (eB1 fLen (eVar 2)))))))
def T_is_row (cs : CS) : TS :=
  (sCons (sIf (tOr (tNot (tOf (eB1 (fIsi [.tuple]) (eVar 0)))) (tOr (tCmp .ne (eB1 fLen (eVar 0)) (eC (.int 3))) (tNot (tOf (eCall cs 48 (aCons (eIx (eVar 0) (eC (.int 0))) aNil))))))
    (sRet (eC (.bl false)))
    sNil)
    (sCons (sIf (tNot (tOf (eCall cs 45 (aCons (eIx (eVar 0) (eC (.int 1))) (aCons (eNeg (eC (.int 1000000000000))) (aCons (eC (.int 1000000000000)) aNil))))))
    (sRet (eC (.bl false)))
    sNil)
    (sRet (eAnd (eCall cs 45 (aCons (eIx (eVar 0) (eC (.int 2))) (aCons (eC (.int 0)) (aCons (eC (.int 1000000)) aNil)))) (eCmp .ne (eIx (eVar 0) (eC (.int 2))) (eC (.int 1)))))))
end VP
section
namespace VM
abbrev pvis (v : List Int) : List PV := v.map PV.int
abbrev ilst (v : List Int) : PV := .lst (v.map PV.int)
abbrev itup (v : List Int) : PV := .tup (v.map PV.int)
def D0 (k x : KV) : Ends := { nx := fun _ st => k .non st, rt := k, bk := fun _ _ => False, ct := fun _ _ => False, xk := x }
theorem call_of {FT : Nat → Option FD} {n f np ns : Nat} {body : CS → TS} {vs : List PV} {st : Store} {k x : KV} (hF : FT f = some ⟨np, ns, body⟩) (hl : vs.length = np)
    (h : body (callN FT n) (D0 k x) (vs.map some ++ List.replicate (ns - np) none) st) : callN FT (n + 1) f vs st k x := by
  unfold callN
  rw [hF]
  exact ⟨hl, h⟩
/-- what holds from some depth on -/
def At (FT : Nat → Option FD) (d : Nat) (S : CS → Prop) : Prop := ∀ n, d ≤ n → S (callN FT n)
theorem At.mono {FT : Nat → Option FD} {d d' : Nat} {S : CS → Prop} (h : At FT d S) (hd : d ≤ d') : At FT d' S := fun n hn => h n (Nat.le_trans hd hn)
theorem At.imp {FT : Nat → Option FD} {d : Nat} {S S' : CS → Prop} (h : At FT d S) (hi : ∀ cs, S cs → S' cs) : At FT d S' := fun n hn => hi _ (h n hn)
theorem at_of {FT : Nat → Option FD} {d f np ns : Nat} {body : CS → TS} {S : CS → Prop} {C : CS → Prop} (hF : FT f = some ⟨np, ns, body⟩) (hC : At FT d C)
    (h : ∀ cs cs' : CS, C cs → (∀ vs st k x, vs.length = np → body cs (D0 k x) (vs.map some ++ List.replicate (ns - np) none) st → cs' f vs st k x) → S cs') : At FT (d + 1) S := fun n hn => by
  obtain ⟨m, rfl⟩ : ∃ m, n = m + 1 := ⟨n - 1, by omega⟩
  exact h (callN FT m) _ (hC m (by omega)) fun vs st k x hl hb => call_of hF hl hb
/-- one turn of a comprehension: what it gives -/
def turn (g : TG) (t : TT) (e : TE) (ρ : Env) (st : Store) (v : PV) (k : Option PV → Store → Prop) : Prop :=
  g v ρ st fun ρ' st => t ρ' st (fun b st => if b = true then e ρ' st (fun y st => k (some y) st) (fun _ _ => False) else k none st) (fun _ _ => False)
/-- a comprehension that leaves the store -/
theorem comp_pure {g : TG} {t : TT} {e : TE} {own : List Nat} {stay : Store → Prop} {ρ : Env} {k : List PV → Store → Prop} {st : Store} (f : PV → Option PV) (hst : stay st) : ∀ (xs acc : List PV),
    (∀ v ∈ xs, ∀ k' : Option PV → Store → Prop, k' (f v) st → turn g t e ρ st v k') → acc.length + xs.length ≤ SZ → k (acc ++ xs.filterMap f) st → compGo g t e own stay xs acc ρ st k
  | [], acc, h, hl, hk => by
    unfold compGo
    rw [List.filterMap_nil, List.append_nil] at hk
    exact ⟨hst, hk⟩
  | v :: r, acc, h, hl, hk => by
    unfold compGo
    rw [List.length_cons] at hl
    refine ⟨hst, ?_⟩
    refine h v (List.mem_cons_self ..) (fun o st => match o with | some y => acc.length < SZ ∧ compGo g t e own stay r (acc ++ [y]) ρ st k | none => compGo g t e own stay r acc ρ st k) ?_
    have hr : ∀ v ∈ r, ∀ k' : Option PV → Store → Prop, k' (f v) st → turn g t e ρ st v k' := fun x m => h x (List.mem_cons_of_mem _ m)
    cases e1 : f v with
    | none =>
      rw [List.filterMap_cons_none e1] at hk
      exact comp_pure f hst r acc hr (by omega) hk
    | some y =>
      rw [List.filterMap_cons_some e1] at hk
      refine ⟨by omega, comp_pure f hst r (acc ++ [y]) hr (by rw [List.length_append, List.length_singleton]; omega) ?_⟩
      rw [List.append_assoc]
      exact hk
theorem comp_map {g : TG} {t : TT} {e : TE} {own : List Nat} {stay : Store → Prop} {ρ : Env} {k : List PV → Store → Prop} {st : Store} (f : PV → PV) (hst : stay st) (xs : List PV)
    (h : ∀ v ∈ xs, ∀ k' : Option PV → Store → Prop, k' (some (f v)) st → turn g t e ρ st v k') (hl : xs.length ≤ SZ) (hk : k (xs.map f) st) : compGo g t e own stay xs [] ρ st k :=
  comp_pure (fun v => some (f v)) hst xs [] h (by simpa using hl) (by
    have e : xs.filterMap (fun v => some (f v)) = xs.map f := by rw [← List.filterMap_eq_map]; rfl
    rw [List.nil_append, e]
    exact hk)
/-- the invariant version: each turn ends in whatever continuation -/
theorem comp_inv {g : TG} {t : TT} {e : TE} {own : List Nat} {stay : Store → Prop} {ρ : Env} {k : List PV → Store → Prop} (J : List PV → List PV → Store → Prop)
    (hs : ∀ v r acc st, J (v :: r) acc st → stay st ∧ ∀ k' : Option PV → Store → Prop, (∀ o st', (match o with | some y => acc.length < SZ ∧ J r (acc ++ [y]) st' | none => J r acc st') → k' o st') → turn g t e ρ st v k')
    (hn : ∀ acc st, J [] acc st → stay st ∧ k acc st) : ∀ xs acc st, J xs acc st → compGo g t e own stay xs acc ρ st k
  | [], acc, st, j => by
    unfold compGo
    exact hn acc st j
  | v :: r, acc, st, j => by
    unfold compGo
    obtain ⟨h1, h2⟩ := hs v r acc st j
    refine ⟨h1, ?_⟩
    refine h2 (fun o st => match o with | some y => acc.length < SZ ∧ compGo g t e own stay r (acc ++ [y]) ρ st k | none => compGo g t e own stay r acc ρ st k) fun o st' ho => ?_
    cases o with
    | some y => exact ⟨ho.1, comp_inv J hs hn r _ st' ho.2⟩
    | none => exact comp_inv J hs hn r acc st' ho
/-- a for by an invariant -/
theorem for_inv {g : TG} {b : TS} {stay : Store → Prop} {D : Ends} (J : List PV → Env → Store → Prop)
    (hs : ∀ v r ρ st, J (v :: r) ρ st → stay st ∧ ∀ D' : Ends, D'.rt = D.rt → D'.xk = D.xk → D'.bk = D.nx → (∀ ρ' st', J r ρ' st' → D'.nx ρ' st') → (∀ ρ' st', J r ρ' st' → D'.ct ρ' st') → g v ρ st fun ρ st => b D' ρ st)
    (hn : ∀ ρ st, J [] ρ st → stay st ∧ D.nx ρ st) : ∀ xs ρ st, J xs ρ st → forGo g b stay xs D ρ st
  | [], ρ, st, j => by
    unfold forGo
    exact hn ρ st j
  | v :: r, ρ, st, j => by
    unfold forGo
    obtain ⟨h1, h2⟩ := hs v r ρ st j
    exact ⟨h1, h2 { D with nx := forGo g b stay r D, ct := forGo g b stay r D, bk := D.nx } rfl rfl rfl (fun ρ' st' j' => for_inv J hs hn r ρ' st' j') fun ρ' st' j' => for_inv J hs hn r ρ' st' j'⟩
/-- without monotonicity: the bound by the measure -/
theorem while_meas {t : TT} {b : TS} {D : Ends} (J : Nat → Env → Store → Prop)
    (hs : ∀ m ρ st, J m ρ st → ∀ D' : Ends, D'.rt = D.rt → D'.xk = D.xk → D'.bk = D.nx → (∀ m' ρ' st', m' < m → J m' ρ' st' → D'.nx ρ' st') → (∀ m' ρ' st', m' < m → J m' ρ' st' → D'.ct ρ' st') → t ρ st (fun r st => if r = true then b D' ρ st else D.nx ρ st) D.xk)
    (m0 : Nat) (ρ : Env) (st : Store) (j : J m0 ρ st) : sWhile t b D ρ st := by
  have key : ∀ n m ρ st, m < n → J m ρ st → whileGo t b n D ρ st := by
    intro n
    induction n with
    | zero => intro m ρ st hm; omega
    | succ n ih =>
      intro m ρ st hm j
      unfold whileGo
      exact hs m ρ st j { D with nx := whileGo t b n D, ct := whileGo t b n D, bk := D.nx } rfl rfl rfl (fun m' ρ' st' h1 h2 => ih m' ρ' st' (by omega) h2) fun m' ρ' st' h1 h2 => ih m' ρ' st' (by omega) h2
  exact ⟨m0 + 1, key _ m0 ρ st (by omega) j⟩
theorem log_lt {a : Nat} {e : Nat} (h : a < 2 ^ e) (he : 0 < e) : a.log2 < e := by
  by_cases h0 : a = 0
  · subst h0
    simpa using he
  · exact (Nat.log2_lt h0).mpr h
theorem mulOk_of {i j : Int} {a b : Nat} (hi : i.natAbs < 2 ^ a) (hj : j.natAbs < 2 ^ b) (ha : 0 < a) (hb : 0 < b) (h : a + b ≤ 100000000) : MulOk i j := by
  have h1 := log_lt hi ha
  have h2 := log_lt hj hb
  unfold MulOk
  omega
theorem mulOk64 {i j : Int} (hi : i.natAbs < 2 ^ 64) (hj : j.natAbs < 2 ^ 64) : MulOk i j := mulOk_of hi hj (by decide) (by decide) (by decide)
end VM
end
section
namespace ML
abbrev Vec := List Int
def nth (u : Vec) (i : Nat) : Int := u.getD i 0
/-- u - c v -/
def sub1 (u v : Vec) (c : Int) : Vec := List.zipWith (fun a b => a - b * c) u v
def zv (w : Nat) : Vec := List.replicate w 0
theorem sub1_len {u v : Vec} {c : Int} (h : u.length = v.length) : (sub1 u v c).length = u.length := by simp [sub1, h]
theorem nth_sub1 {u v : Vec} {c : Int} (h : u.length = v.length) (i : Nat) : nth (sub1 u v c) i = nth u i - nth v i * c := by
  unfold nth sub1
  simp only [List.getD_eq_getElem?_getD, List.getElem?_zipWith]
  by_cases hi : i < u.length
  · have hv : i < v.length := by omega
    simp [hi, hv]
  · have hv : ¬ i < v.length := by omega
    simp [hi, hv]
theorem nth_zv {w i : Nat} : nth (zv w) i = 0 := by
  unfold nth zv
  simp only [List.getD_eq_getElem?_getD, List.getElem?_replicate]
  split <;> rfl
theorem nth_ge {u : Vec} {i : Nat} (h : u.length ≤ i) : nth u i = 0 := by
  unfold nth
  simp [List.getD_eq_getElem?_getD, List.getElem?_eq_none h]
theorem nth_get {u : Vec} {i : Nat} (h : i < u.length) : u[i]? = some (nth u i) := by
  unfold nth
  simp [List.getD_eq_getElem?_getD, h]
theorem vext {u v : Vec} (h : u.length = v.length) (e : ∀ i, i < u.length → nth u i = nth v i) : u = v := by
  apply List.ext_getElem?
  intro i
  by_cases hi : i < u.length
  · rw [nth_get hi, nth_get (h ▸ hi), e i hi]
  · rw [List.getElem?_eq_none (by omega), List.getElem?_eq_none (by omega)]
/-- integer combinations -/
inductive Span (w : Nat) (vs : List Vec) : Vec → Prop where
  | zero : Span w vs (zv w)
  | step {u v : Vec} (c : Int) (h : Span w vs u) (m : v ∈ vs) : Span w vs (sub1 u v c)
def Len (w : Nat) (vs : List Vec) : Prop := ∀ v ∈ vs, v.length = w
section
variable {w : Nat} {vs vs' : List Vec} {u v : Vec}
theorem Span.len (hl : Len w vs) (h : Span w vs u) : u.length = w := by
  induction h with
  | zero => simp [zv]
  | step c h m ih => rw [sub1_len (ih.trans (hl _ m).symm)]; exact ih
theorem sub_zv (h : u.length = w) (c : Int) : sub1 u (zv w) c = u := by
  have hl : u.length = (zv w).length := by simp [zv, h]
  exact vext (sub1_len hl) fun i _ => by rw [nth_sub1 hl, nth_zv]; simp
theorem Span.sub (hl : Len w vs) (hu : Span w vs u) (hv : Span w vs v) (c : Int) : Span w vs (sub1 u v c) := by
  induction hv generalizing c with
  | zero => rw [sub_zv (hu.len hl)]; exact hu
  | @step v' x d hv m ih =>
    have l1 := hu.len hl
    have l2 := hv.len hl
    have l3 := hl _ m
    have e : sub1 u (sub1 v' x d) c = sub1 (sub1 u v' c) x (-(d * c)) := by
      have a1 : v'.length = x.length := l2.trans l3.symm
      have a2 : u.length = (sub1 v' x d).length := by rw [sub1_len a1]; exact l1.trans l2.symm
      have a3 : u.length = v'.length := l1.trans l2.symm
      have a4 : (sub1 u v' c).length = x.length := by rw [sub1_len a3]; exact l1.trans l3.symm
      refine vext (by rw [sub1_len a2, sub1_len a4, sub1_len a3]) fun i _ => ?_
      rw [nth_sub1 a2, nth_sub1 a1, nth_sub1 a4, nth_sub1 a3, Int.sub_mul, Int.mul_neg, Int.mul_assoc]
      omega
    rw [e]
    exact Span.step _ (ih c) m
theorem Span.mem (hl : Len w vs) (m : v ∈ vs) : Span w vs v := by
  have l := hl v m
  have lz : (zv w).length = v.length := by simp [zv, l]
  have e : v = sub1 (zv w) v (-1) := vext (by rw [sub1_len lz, lz]) fun i _ => by
    rw [nth_sub1 lz, nth_zv]
    omega
  rw [e]
  exact Span.step _ .zero m
theorem Span.mono (hl : Len w vs') (h : ∀ v ∈ vs, Span w vs' v) (hu : Span w vs u) : Span w vs' u := by
  induction hu with
  | zero => exact .zero
  | step c _ m ih => exact ih.sub hl (h _ m) c
theorem Span.imp (h : ∀ v ∈ vs, v ∈ vs') (hu : Span w vs u) : Span w vs' u := by
  induction hu with
  | zero => exact .zero
  | step c _ m ih => exact .step c ih (h _ m)
/-- what all rows have at zero -/
theorem Span.nth0 (hl : Len w vs) {i : Nat} (h : ∀ v ∈ vs, nth v i = 0) (hu : Span w vs u) : nth u i = 0 := by
  induction hu with
  | zero => exact nth_zv
  | step c hu m ih => rw [nth_sub1 ((hu.len hl).trans (hl _ m).symm), ih, h _ m]; simp
theorem span_cons {a : Vec} (hl : Len w (a :: vs)) (h : Span w (a :: vs) v) : ∃ c u, Span w vs u ∧ v = sub1 u a c := by
  have la : a.length = w := hl a (List.mem_cons_self ..)
  have lv : Len w vs := fun x m => hl x (List.mem_cons_of_mem _ m)
  induction h with
  | zero => exact ⟨0, zv w, .zero, vext (by rw [sub1_len (by simp [zv, la])]) fun i _ => by rw [nth_sub1 (by simp [zv, la])]; simp⟩
  | @step x y d hx m ih =>
    obtain ⟨c, u, hu, rfl⟩ := ih
    have lu := hu.len lv
    have a1 : u.length = a.length := lu.trans la.symm
    rcases List.mem_cons.mp m with rfl | m
    · refine ⟨c + d, u, hu, vext ?_ fun i _ => ?_⟩
      · rw [sub1_len (by rw [sub1_len a1]; exact a1), sub1_len a1, sub1_len a1]
      · rw [nth_sub1 (by rw [sub1_len a1]; exact a1), nth_sub1 a1, nth_sub1 a1, Int.mul_add]
        omega
    · have ly : y.length = w := lv _ m
      have a2 : u.length = y.length := lu.trans ly.symm
      have a3 : (sub1 u y d).length = a.length := by rw [sub1_len a2]; exact a1
      refine ⟨c, sub1 u y d, .step d hu m, vext ?_ fun i _ => ?_⟩
      · rw [sub1_len (by rw [sub1_len a1]; exact a2), sub1_len a1, sub1_len a3, sub1_len a2]
      · rw [nth_sub1 (by rw [sub1_len a1]; exact a2), nth_sub1 a1, nth_sub1 a3, nth_sub1 a2]
        omega
end
abbrev Ps := List (Nat × Vec)
def Z (p : Nat) (v : Vec) : Prop := ∀ i, i < p → nth v i = 0
/-- a lattice: rows of one length, closed -/
structure Lat (w : Nat) (L : Vec → Prop) : Prop where
  len : ∀ v, L v → v.length = w
  sub : ∀ u v c, L u → L v → L (sub1 u v c)
theorem span_lat {w : Nat} {vs : List Vec} (hl : Len w vs) : Lat w (Span w vs) := ⟨fun _ h => h.len hl, fun _ _ c h h' => h.sub hl h' c⟩
/-- heads and rows, triangular, that give the lattice -/
structure Tri (w : Nat) (L : Vec → Prop) (ps : Ps) : Prop where
  sorted : ps.Pairwise (fun x y => x.1 < y.1)
  row : ∀ p a, (p, a) ∈ ps → p < w ∧ L a ∧ Z p a ∧ nth a p ≠ 0
  div : ∀ p v, p < w → L v → Z p v → (∀ a, (p, a) ∈ ps → nth a p ∣ nth v p) ∧ ((∀ a, (p, a) ∉ ps) → nth v p = 0)
structure Form (w : Nat) (L : Vec → Prop) (ps : Ps) : Prop extends Tri w L ps where
  pos : ∀ p a, (p, a) ∈ ps → 0 < nth a p
  red : ∀ p a q b, (p, a) ∈ ps → (q, b) ∈ ps → p < q → 0 ≤ nth a q ∧ nth a q < nth b q
theorem dvd_eq {a b : Int} (ha : 0 < a) (hb : 0 < b) (h1 : a ∣ b) (h2 : b ∣ a) : a = b := by
  have l1 := Int.le_of_dvd hb h1
  have l2 := Int.le_of_dvd ha h2
  omega
theorem dvd_small {a b : Int} (h : a ∣ b) (hl : b.natAbs < a.natAbs) : b = 0 := by
  obtain ⟨k, rfl⟩ := h
  by_cases hk : k = 0
  · subst hk; simp
  · rw [Int.natAbs_mul] at hl
    have : 1 ≤ k.natAbs := by omega
    have := Nat.mul_le_mul_left a.natAbs this
    omega
section
variable {w : Nat} {L : Vec → Prop} {ps qs : Ps}
/-- a vector of the lattice whose head is taken stands in the form -/
theorem Tri.has (t : Tri w L ps) {p : Nat} {v : Vec} (hp : p < w) (hv : L v) (hz : Z p v) (hn : nth v p ≠ 0) : ∃ a, (p, a) ∈ ps := by
  refine Classical.byContradiction fun h => ?_
  exact hn ((t.div p v hp hv hz).2 fun a m => h ⟨a, m⟩)
theorem Form.head (t : Form w L ps) (t' : Form w L qs) {p : Nat} {a b : Vec} (ha : (p, a) ∈ ps) (hb : (p, b) ∈ qs) : nth a p = nth b p := by
  obtain ⟨h1, h2, h3, _⟩ := t.row p a ha
  obtain ⟨_, h5, h6, _⟩ := t'.row p b hb
  exact dvd_eq (t.pos p a ha) (t'.pos p b hb) ((t.div p b h1 h5 h6).1 a ha) ((t'.div p a h1 h2 h3).1 b hb)
theorem Form.same (hL : Lat w L) (t : Form w L ps) (t' : Form w L qs) {p : Nat} {a : Vec} (ha : (p, a) ∈ ps) : (p, a) ∈ qs := by
  obtain ⟨h1, h2, h3, h4⟩ := t.row p a ha
  obtain ⟨b, hb⟩ := t'.toTri.has h1 h2 h3 h4
  obtain ⟨_, h5, h6, h7⟩ := t'.row p b hb
  have la := hL.len a h2
  have lb := hL.len b h5
  have lab : a.length = b.length := la.trans lb.symm
  have hd : L (sub1 a b 1) := hL.sub a b 1 h2 h5
  have z : ∀ n i, i < n → i < w → nth a i = nth b i := by
    intro n
    induction n with
    | zero => intro i hi; omega
    | succ n ih =>
      intro i hi hw
      by_cases hin : i < n
      · exact ih i hin hw
      have hz : Z i (sub1 a b 1) := fun j hj => by rw [nth_sub1 lab, ih j (by omega) (by omega)]; omega
      have ed : nth (sub1 a b 1) i = nth a i - nth b i := by rw [nth_sub1 lab]; omega
      by_cases hip : i < p
      · rw [h3 i hip, h6 i hip]
      by_cases hie : i = p
      · subst hie
        exact t.head t' ha hb
      have hpi : p < i := by omega
      have dv := t.div i _ hw hd hz
      by_cases hc : ∃ c, (i, c) ∈ ps
      · obtain ⟨c, hc⟩ := hc
        obtain ⟨_, k2, k3, k4⟩ := t.row i c hc
        obtain ⟨c', hc'⟩ := t'.toTri.has hw k2 k3 k4
        have e := t.head t' hc hc'
        have r1 := t.red p a i c ha hc hpi
        have r2 := t'.red p b i c' hb hc' hpi
        have := dvd_small (dv.1 c hc) (by rw [ed]; omega)
        omega
      · have := dv.2 fun c m => hc ⟨c, m⟩
        omega
  have : a = b := vext lab fun i hi => z (i + 1) i (by omega) (by omega)
  rw [this]
  exact hb
theorem sorted_eq : ∀ {ps qs : Ps}, ps.Pairwise (fun x y => x.1 < y.1) → qs.Pairwise (fun x y => x.1 < y.1) → (∀ x, x ∈ ps ↔ x ∈ qs) → ps = qs
  | [], [], _, _, _ => rfl
  | [], y :: qs, _, _, h => by have := (h y).mpr (List.mem_cons_self ..); cases this
  | x :: ps, [], _, _, h => by have := (h x).mp (List.mem_cons_self ..); cases this
  | x :: ps, y :: qs, h1, h2, h => by
    obtain ⟨a1, b1⟩ := List.pairwise_cons.mp h1
    obtain ⟨a2, b2⟩ := List.pairwise_cons.mp h2
    have e : x = y := by
      rcases List.mem_cons.mp ((h x).mp (List.mem_cons_self ..)) with e | m
      · exact e
      · rcases List.mem_cons.mp ((h y).mpr (List.mem_cons_self ..)) with e | m'
        · exact e.symm
        · have := a1 y m'
          have := a2 x m
          omega
    subst e
    have : ps = qs := sorted_eq b1 b2 fun z => by
      constructor
      · intro m
        rcases List.mem_cons.mp ((h z).mp (List.mem_cons_of_mem _ m)) with e | m'
        · subst e; exact absurd (a1 z m) (by omega)
        · exact m'
      · intro m
        rcases List.mem_cons.mp ((h z).mpr (List.mem_cons_of_mem _ m)) with e | m'
        · subst e; exact absurd (a2 z m) (by omega)
        · exact m'
    rw [this]
theorem Form.uniq (hL : Lat w L) (t : Form w L ps) (t' : Form w L qs) : ps = qs :=
  sorted_eq t.sorted t'.sorted fun ⟨p, a⟩ => ⟨fun m => t.same hL t' m, fun m => t'.same hL t m⟩
theorem Form.congr {L' : Vec → Prop} (t : Form w L ps) (h : ∀ v, L v ↔ L' v) : Form w L' ps where
  sorted := t.sorted
  row := fun p a m => by
    obtain ⟨h1, h2, h3⟩ := t.row p a m
    exact ⟨h1, (h a).mp h2, h3⟩
  div := fun p v hp hv hz => t.div p v hp ((h v).mpr hv) hz
  pos := t.pos
  red := t.red
end
def low1 (v : Vec) (x : Nat × Vec) : Vec := sub1 v x.2 ((nth v x.1).fdiv (nth x.2 x.1))
def lower (v : Vec) (ps : Ps) : Vec := ps.foldl low1 v
theorem fdiv_rem {a b : Int} (hb : 0 < b) : 0 ≤ a - b * a.fdiv b ∧ a - b * a.fdiv b < b := by
  rw [Int.fdiv_eq_ediv_of_nonneg a (by omega)]
  have h1 := Int.emod_nonneg a (show b ≠ 0 by omega)
  have h2 := Int.emod_lt_of_pos a hb
  have h3 := Int.emod_def a b
  omega
section
variable {w : Nat} {L : Vec → Prop} {ps qs : Ps}
theorem low1_len {v : Vec} {x : Nat × Vec} (h : v.length = x.2.length) : (low1 v x).length = v.length := sub1_len h
theorem low1_before {v : Vec} {x : Nat × Vec} (h : v.length = x.2.length) (hz : Z x.1 x.2) {i : Nat} (hi : i < x.1) : nth (low1 v x) i = nth v i := by
  unfold low1
  rw [nth_sub1 h, hz i hi]
  simp
/-- lowering: what stays, what it comes to -/
theorem lower_spec : ∀ (ps : Ps) (v : Vec) (n : Nat), v.length = n → (∀ p a, (p, a) ∈ ps → a.length = n ∧ Z p a ∧ 0 < nth a p) → ps.Pairwise (fun x y => x.1 < y.1) →
    (lower v ps).length = n ∧ (∀ i, (∀ p a, (p, a) ∈ ps → i < p) → nth (lower v ps) i = nth v i) ∧ (∀ q b, (q, b) ∈ ps → 0 ≤ nth (lower v ps) q ∧ nth (lower v ps) q < nth b q)
  | [], v, n, hv, _, _ => ⟨hv, fun _ _ => rfl, fun _ _ m => by cases m⟩
  | (p, a) :: ps, v, n, hv, h, hs => by
    obtain ⟨la, za, pa⟩ := h p a (List.mem_cons_self ..)
    obtain ⟨s1, s2⟩ := List.pairwise_cons.mp hs
    have lva : v.length = a.length := hv.trans la.symm
    obtain ⟨k1, k2, k3⟩ := lower_spec ps (low1 v (p, a)) n ((low1_len lva).trans hv) (fun q b m => h q b (List.mem_cons_of_mem _ m)) s2
    refine ⟨k1, fun i hi => ?_, fun q b m => ?_⟩
    · exact (k2 i fun q b m => hi q b (List.mem_cons_of_mem _ m)).trans (low1_before lva za (hi p a (List.mem_cons_self ..)))
    · rcases List.mem_cons.mp m with e | m
      · cases e
        have e1 := k2 p fun q b m => s1 (q, b) m
        have e2 : nth (lower v ((p, a) :: ps)) p = nth (lower (low1 v (p, a)) ps) p := rfl
        rw [e2, e1]
        unfold low1
        rw [nth_sub1 lva]
        exact fdiv_rem pa
      · exact k3 q b m
theorem lower_in (hL : Lat w L) : ∀ (ps : Ps) (v : Vec), L v → (∀ p a, (p, a) ∈ ps → L a) → L (lower v ps)
  | [], v, hv, _ => hv
  | (p, a) :: ps, v, hv, h => lower_in hL ps (low1 v (p, a)) (hL.sub _ _ _ hv (h p a (List.mem_cons_self ..))) fun q b m => h q b (List.mem_cons_of_mem _ m)
/-- a vector of the lattice comes to nothing -/
theorem lower_zero (hL : Lat w L) (t : Form w L ps) {v : Vec} (hv : L v) : lower v ps = zv w := by
  obtain ⟨k1, k2, k3⟩ := lower_spec ps v w (hL.len v hv) (fun p a m => by
    obtain ⟨_, h2, h3, _⟩ := t.row p a m
    exact ⟨hL.len a h2, h3, t.pos p a m⟩) t.sorted
  have hl := lower_in hL ps v hv fun p a m => (t.row p a m).2.1
  have z : ∀ n i, i < n → i < w → nth (lower v ps) i = 0 := by
    intro n
    induction n with
    | zero => intro i hi; omega
    | succ n ih =>
      intro i hi hw
      by_cases hin : i < n
      · exact ih i hin hw
      have dv := t.div i _ hw hl fun j hj => ih j (by omega) (by omega)
      by_cases hc : ∃ c, (i, c) ∈ ps
      · obtain ⟨c, hc⟩ := hc
        have := k3 i c hc
        exact dvd_small (dv.1 c hc) (by omega)
      · exact dv.2 fun c m => hc ⟨c, m⟩
  refine vext (by simp [zv, k1]) fun i hi => ?_
  rw [nth_zv]
  exact z (i + 1) i (by omega) (by omega)
/-- heads with positive rows, each lowered by those behind it, as it stands (program) -/
def redA : Ps → Ps
  | [] => []
  | (p, a) :: ps => (p, lower a ps) :: redA ps
/-- the same by rows that are lowered already (law) -/
def redB : Ps → Ps
  | [] => []
  | (p, a) :: ps => (p, lower a (redB ps)) :: redB ps
end
end ML
end
section
namespace ML
def Bb (e : Nat) (v : Vec) : Prop := ∀ a ∈ v, a.natAbs < 2 ^ e
theorem Bb.mono {e e' : Nat} {v : Vec} (h : Bb e v) (he : e ≤ e') : Bb e' v := fun a m => Nat.lt_of_lt_of_le (h a m) (Nat.pow_le_pow_right (by decide) he)
theorem Bb.nth {e : Nat} {v : Vec} (h : Bb e v) (i : Nat) : (nth v i).natAbs < 2 ^ e := by
  by_cases hi : i < v.length
  · exact h _ (List.mem_of_getElem? (nth_get hi))
  · rw [nth_ge (by omega)]
    exact Nat.two_pow_pos e
theorem mem_sub1 {u v : Vec} {c z : Int} (h : z ∈ sub1 u v c) : ∃ a b, a ∈ u ∧ b ∈ v ∧ z = a - b * c := by
  obtain ⟨i, hi, e⟩ := List.mem_iff_getElem.mp h
  unfold sub1 at hi e
  rw [List.getElem_zipWith] at e
  exact ⟨_, _, List.getElem_mem _, List.getElem_mem _, e.symm⟩
def red (at_ : Nat) (s head : Vec) : Vec := sub1 s head ((nth s at_).fdiv (nth head at_))
theorem fdiv_facts {s h : Int} (hh : 0 < h) : s = h * s.fdiv h + s.fmod h ∧ 0 ≤ s.fmod h ∧ s.fmod h < h ∧ (s.fdiv h).natAbs ≤ s.natAbs := by
  have e := Int.mul_fdiv_add_fmod s h
  have h1 := Int.fmod_nonneg_of_pos s hh
  have h2 := Int.fmod_lt_of_pos s hh
  refine ⟨e.symm, h1, h2, ?_⟩
  generalize s.fdiv h = q at e
  generalize s.fmod h = r at e h1 h2
  by_cases hq : 0 ≤ q
  · have : q * 1 ≤ h * q := by rw [Int.mul_comm h q]; exact Int.mul_le_mul_of_nonneg_left (by omega) hq
    omega
  · have : (-q - 1) * 1 ≤ (-q - 1) * h := Int.mul_le_mul_of_nonneg_left (by omega) (by omega)
    have e2 : (-q - 1) * h = -(h * q) - h := by rw [Int.sub_mul, Int.neg_mul, Int.mul_comm q h]; omega
    omega
/-- the same, the divisor of any sign -/
theorem fdiv_sign {s h σ : Int} (hσ : σ = 1 ∨ σ = -1) (hh : 0 < σ * h) : 0 ≤ σ * (s - h * s.fdiv h) ∧ σ * (s - h * s.fdiv h) < σ * h ∧ (s.fdiv h).natAbs ≤ s.natAbs := by
  rcases hσ with rfl | rfl
  · have f := fdiv_facts (s := s) (h := h) (by omega)
    refine ⟨by omega, by omega, f.2.2.2⟩
  · have f := fdiv_facts (s := -s) (h := -h) (by omega)
    have e : (-s).fdiv (-h) = s.fdiv h := Int.neg_fdiv_neg _ _
    rw [e] at f
    have e2 : -h * s.fdiv h = -(h * s.fdiv h) := Int.neg_mul _ _
    rw [e2] at f
    refine ⟨by omega, by omega, by have := f.2.2.2; omega⟩
structure Itr (at_ : Nat) (head : Vec) (left rest late rest' : List Vec) : Prop where
  l1 : head ∈ late
  l2 : ∀ r ∈ late, r = head ∨ ∃ s ∈ left, r = red at_ s head ∧ nth r at_ ≠ 0
  l3 : ∀ r ∈ rest', r ∈ rest ∨ ∃ s ∈ left, r = red at_ s head ∧ nth r at_ = 0
  l4 : ∀ s ∈ left, s = head ∨ red at_ s head ∈ late ++ rest'
  l5 : ∀ r ∈ rest, r ∈ rest'
  l6 : late.length + rest'.length ≤ left.length + rest.length
  l7 : ∃ stay, late = head :: stay ∧ ∀ r ∈ stay, ∃ s ∈ left, r = red at_ s head ∧ nth r at_ ≠ 0
def Ph (at_ e : Nat) (left : List Vec) : Prop := ∃ (σ : Int) (M h : Nat), (σ = 1 ∨ σ = -1) ∧ 1 ≤ h ∧ (∀ r ∈ left, (h : Int) ≤ σ * nth r at_ ∧ σ * nth r at_ ≤ (M : Int) ∧ ∀ a ∈ r, a.natAbs * M * h ≤ 2 ^ (4 * e)) ∧ ∃ r ∈ left, σ * nth r at_ = (h : Int)
structure Cl (w at_ e : Nat) (rows left rest : List Vec) : Prop where
  lw : Len w (left ++ rest)
  nz : ∀ r ∈ left, nth r at_ ≠ 0
  zr : ∀ r ∈ rest, nth r at_ = 0
  s1 : ∀ r ∈ left ++ rest, Span w rows r
  s2 : ∀ r ∈ rows, Span w (left ++ rest) r
  cnt : left.length + rest.length ≤ rows.length
  bl : (∀ r ∈ left, Bb e r) ∨ Ph at_ e left
  br : ∀ r ∈ rest, Bb (4 * e + 2) r
theorem red_nth {at_ : Nat} {s head : Vec} (h : s.length = head.length) : nth (red at_ s head) at_ = nth s at_ - nth head at_ * (nth s at_).fdiv (nth head at_) := nth_sub1 h at_
theorem Ph.small {at_ e : Nat} {left : List Vec} (p : Ph at_ e left) : ∀ r ∈ left, Bb (4 * e + 1) r := by
  obtain ⟨σ, M, h, hσ, h1, hr, _⟩ := p
  intro r m a ha
  obtain ⟨k1, k2, k3⟩ := hr r m
  have := k3 a ha
  have hM : 1 ≤ M := by omega
  have e1 : a.natAbs * 1 * 1 ≤ a.natAbs * M * h := Nat.mul_le_mul (Nat.mul_le_mul_left _ hM) h1
  have e2 : 2 ^ (4 * e + 1) = 2 ^ (4 * e) * 2 := Nat.pow_succ ..
  have e3 := Nat.two_pow_pos (4 * e)
  omega
theorem Cl.small {w at_ e : Nat} {rows left rest : List Vec} (c : Cl w at_ e rows left rest) : ∀ r ∈ left, Bb (4 * e + 1) r := by
  rcases c.bl with h | h
  · exact fun r m => (h r m).mono (by omega)
  · exact h.small
/-- one row lowered, first turn -/
theorem red_b1 {at_ e : Nat} {s head : Vec} {σ : Int} (hs : Bb e s) (hh : Bb e head) (hσ : σ = 1 ∨ σ = -1) (hp : 0 < σ * nth head at_) : Bb (2 * e) (red at_ s head) := by
  intro z hz
  obtain ⟨a, b, ha, hb, rfl⟩ := mem_sub1 hz
  have q := (fdiv_sign (s := nth s at_) hσ hp).2.2
  have q2 := hs.nth at_
  have h1 := hs a ha
  have h2 := hh b hb
  generalize (nth s at_).fdiv (nth head at_) = c at *
  have e1 : (a - b * c).natAbs ≤ a.natAbs + b.natAbs * c.natAbs := by
    have := Int.natAbs_sub_le a (b * c)
    rw [Int.natAbs_mul] at this
    exact this
  have e2 : b.natAbs * c.natAbs ≤ (2 ^ e - 1) * (2 ^ e - 1) := Nat.mul_le_mul (by omega) (by omega)
  have e3 : 2 ^ (2 * e) = 2 ^ e * 2 ^ e := by rw [← Nat.pow_add]; congr 1; omega
  have e4 := Nat.two_pow_pos e
  rw [e3]
  generalize 2 ^ e = p at *
  obtain ⟨p', rfl⟩ : ∃ p', p = p' + 1 := ⟨p - 1, by omega⟩
  rw [Nat.add_sub_cancel] at e2
  have e5 : (p' + 1) * (p' + 1) = p' * p' + p' + p' + 1 := by rw [Nat.add_mul, Nat.mul_add]; omega
  omega
/-- one row lowered, all of one sign -/
theorem red_b2 {at_ : Nat} {s head : Vec} {σ : Int} {M h C : Nat} (hσ : σ = 1 ∨ σ = -1) (hl : s.length = head.length) (h1 : 1 ≤ h) (hh : σ * nth head at_ = (h : Int)) (s1 : (h : Int) ≤ σ * nth s at_) (s2 : σ * nth s at_ ≤ (M : Int))
    (bs : ∀ a ∈ s, a.natAbs * M * h ≤ C) (bh : ∀ a ∈ head, a.natAbs * M * h ≤ C) :
    ∃ q r : Nat, q * h + r ≤ M ∧ 1 ≤ q ∧ r < h ∧ σ * nth (red at_ s head) at_ = (r : Int) ∧ ∀ z ∈ red at_ s head, ∃ X : Nat, X * M * h ≤ C ∧ z.natAbs ≤ X * (1 + q) := by
  have key : ∃ q r : Nat, (nth s at_).fdiv (nth head at_) = (q : Int) ∧ σ * nth s at_ = (q : Int) * h + r ∧ r < h ∧ 1 ≤ q := by
    have f := fdiv_facts (s := σ * nth s at_) (h := (h : Int)) (by omega)
    have e : (σ * nth s at_).fdiv (h : Int) = (nth s at_).fdiv (nth head at_) := by
      rw [← hh]
      rcases hσ with rfl | rfl
      · rw [Int.one_mul, Int.one_mul]
      · rw [Int.neg_one_mul, Int.neg_one_mul]; exact Int.neg_fdiv_neg _ _
    rw [e] at f
    generalize (nth s at_).fdiv (nth head at_) = q at *
    generalize (σ * nth s at_).fmod (h : Int) = r at *
    have hq : 1 ≤ q := by
      refine Classical.byContradiction fun hn => ?_
      have : (h : Int) * q ≤ (h : Int) * 0 := Int.mul_le_mul_of_nonneg_left (by omega) (by omega)
      omega
    refine ⟨q.toNat, r.toNat, by omega, ?_, by omega, by omega⟩
    have e1 : ((q.toNat : Nat) : Int) = q := by omega
    have e2 : ((r.toNat : Nat) : Int) = r := by omega
    rw [e1, e2, Int.mul_comm q]
    exact f.1
  obtain ⟨q, r, e1, e2, e3, e4⟩ := key
  refine ⟨q, r, ?_, e4, e3, ?_, fun z hz => ?_⟩
  · have : ((q * h + r : Nat) : Int) ≤ (M : Int) := by
      rw [Int.natCast_add, Int.natCast_mul]
      omega
    omega
  · rw [red_nth hl, e1, Int.mul_sub, ← Int.mul_assoc, hh, e2, Int.mul_comm (h : Int)]
    omega
  · unfold red at hz
    rw [e1] at hz
    obtain ⟨a, b, ha, hb, rfl⟩ := mem_sub1 hz
    have m1 := bs a ha
    have m2 := bh b hb
    refine ⟨max a.natAbs b.natAbs, ?_, ?_⟩
    · rcases Nat.le_total a.natAbs b.natAbs with h | h
      · rw [Nat.max_eq_right h]; exact m2
      · rw [Nat.max_eq_left h]; exact m1
    · have t1 := Int.natAbs_sub_le a (b * q)
      rw [Int.natAbs_mul, Int.natAbs_natCast] at t1
      have t2 : a.natAbs ≤ max a.natAbs b.natAbs := Nat.le_max_left ..
      have t3 : b.natAbs * q ≤ max a.natAbs b.natAbs * q := Nat.mul_le_mul_right _ (Nat.le_max_right ..)
      rw [Nat.mul_add, Nat.mul_one]
      omega
/-- a list has a least -/
theorem least_of {α : Type} (f : α → Nat) : ∀ l : List α, l ≠ [] → ∃ x ∈ l, ∀ y ∈ l, f x ≤ f y
  | [], h => (h rfl).elim
  | [x], _ => ⟨x, List.mem_cons_self .., fun y m => by rw [List.mem_singleton.mp m]; exact Nat.le_refl _⟩
  | x :: y :: l, _ => by
    obtain ⟨z, hz, h⟩ := least_of f (y :: l) (by simp)
    by_cases hx : f x ≤ f z
    · exact ⟨x, List.mem_cons_self .., fun u m => (List.mem_cons.mp m).elim (fun e => by rw [e]; exact Nat.le_refl _) fun m => Nat.le_trans hx (h u m)⟩
    · exact ⟨z, List.mem_cons_of_mem _ hz, fun u m => (List.mem_cons.mp m).elim (fun e => by rw [e]; omega) fun m => h u m⟩
theorem Cl.step {w at_ e : Nat} {rows left rest late rest' : List Vec} {head : Vec} (hr : Len w rows) (c : Cl w at_ e rows left rest) (hm : head ∈ left) (hl : ∀ s ∈ left, (nth head at_).natAbs ≤ (nth s at_).natAbs) (I : Itr at_ head left rest late rest') : Cl w at_ e rows late rest' := by
  have lh : head.length = w := c.lw head (List.mem_append_left _ hm)
  have ls : ∀ s ∈ left, s.length = head.length := fun s m => (c.lw s (List.mem_append_left _ m)).trans lh.symm
  have lr : ∀ s ∈ left, (red at_ s head).length = w := fun s m => (sub1_len (ls s m)).trans ((ls s m).trans lh)
  have sr : ∀ s ∈ left, Span w rows (red at_ s head) := fun s m => (c.s1 s (List.mem_append_left _ m)).sub hr (c.s1 head (List.mem_append_left _ hm)) _
  have LW : Len w (late ++ rest') := fun r m => by
    rcases List.mem_append.mp m with m | m
    · rcases I.l2 r m with rfl | ⟨s, hs, rfl, _⟩
      · exact lh
      · exact lr s hs
    · rcases I.l3 r m with m | ⟨s, hs, rfl, _⟩
      · exact c.lw r (List.mem_append_right _ m)
      · exact lr s hs
  have nzh := c.nz head hm
  obtain ⟨σ0, hσ0, hp0⟩ : ∃ σ : Int, (σ = 1 ∨ σ = -1) ∧ 0 < σ * nth head at_ := by
    by_cases h : 0 < nth head at_
    · exact ⟨1, .inl rfl, by omega⟩
    · exact ⟨-1, .inr rfl, by omega⟩
  refine ⟨LW, fun r m => ?_, fun r m => ?_, fun r m => ?_, fun r m => ?_, Nat.le_trans I.l6 c.cnt, ?_, fun r m => ?_⟩
  · rcases I.l2 r m with rfl | ⟨s, hs, _, h⟩
    · exact nzh
    · exact h
  · rcases I.l3 r m with m | ⟨s, hs, _, h⟩
    · exact c.zr r m
    · exact h
  · rcases List.mem_append.mp m with m | m
    · rcases I.l2 r m with rfl | ⟨s, hs, rfl, _⟩
      · exact c.s1 _ (List.mem_append_left _ hm)
      · exact sr s hs
    · rcases I.l3 r m with m | ⟨s, hs, rfl, _⟩
      · exact c.s1 r (List.mem_append_right _ m)
      · exact sr s hs
  · refine Span.mono LW (fun v mv => ?_) (c.s2 r m)
    have hS : Span w (late ++ rest') head := Span.mem LW (List.mem_append_left _ I.l1)
    rcases List.mem_append.mp mv with mv | mv
    · rcases I.l4 v mv with rfl | h
      · exact hS
      · have := (Span.mem LW h).sub LW hS (-((nth v at_).fdiv (nth head at_)))
        have e1 : sub1 (red at_ v head) head (-((nth v at_).fdiv (nth head at_))) = v := by
          have lv := ls v mv
          refine vext (by rw [sub1_len ((lr v mv).trans lh.symm), lr v mv]; exact (lv.trans lh).symm) fun i _ => ?_
          rw [nth_sub1 ((lr v mv).trans lh.symm)]
          unfold red
          rw [nth_sub1 lv, Int.mul_neg]
          omega
        rw [e1] at this
        exact this
    · exact Span.mem LW (List.mem_append_right _ (I.l5 v mv))
  · right
    rcases c.bl with b1 | ⟨σ, M, h, hσ, h1, hrw, r0, m0, e0⟩
    · -- the first turn
      obtain ⟨x, hx, hxl⟩ := least_of (fun r => (nth r at_).natAbs) late (List.ne_nil_of_mem I.l1)
      have sg : ∀ r ∈ late, 0 < σ0 * nth r at_ ∧ σ0 * nth r at_ ≤ σ0 * nth head at_ ∧ Bb (2 * e) r := fun r m => by
        rcases I.l2 r m with rfl | ⟨s, hs, rfl, hn⟩
        · exact ⟨hp0, Int.le_refl _, (b1 _ hm).mono (by omega)⟩
        · have f := fdiv_sign (s := nth s at_) hσ0 hp0
          rw [red_nth (ls s hs)] at hn ⊢
          refine ⟨?_, by omega, red_b1 (b1 s hs) (b1 head hm) hσ0 hp0⟩
          rcases hσ0 with rfl | rfl <;> omega
      have hM := (b1 head hm).nth at_
      have ab : ∀ r ∈ late, σ0 * nth r at_ = ((nth r at_).natAbs : Int) := fun r m => by
        have := (sg r m).1
        rcases hσ0 with rfl | rfl <;> omega
      have abh : σ0 * nth head at_ = ((nth head at_).natAbs : Int) := by rcases hσ0 with rfl | rfl <;> omega
      refine ⟨σ0, (nth head at_).natAbs, (nth x at_).natAbs, hσ0, by have := (sg x hx).1; have := ab x hx; omega, fun r m => ⟨?_, ?_, fun a ha => ?_⟩, x, hx, ab x hx⟩
      · rw [ab r m]
        have := hxl r m
        omega
      · rw [← abh]; exact (sg r m).2.1
      · have a1 := (sg r m).2.2 a ha
        have a2 : (nth x at_).natAbs ≤ (nth head at_).natAbs := hxl head I.l1
        have e3 : 2 ^ (4 * e) = 2 ^ (2 * e) * 2 ^ e * 2 ^ e := by rw [← Nat.pow_add, ← Nat.pow_add]; congr 1; omega
        rw [e3]
        exact Nat.mul_le_mul (Nat.mul_le_mul (by omega) (by omega)) (by omega)
    · -- a later turn
      have hh : σ * nth head at_ = (h : Int) := by
        have k1 := hrw head hm
        have k2 := hl r0 m0
        have : σ * nth head at_ = ((nth head at_).natAbs : Int) := by rcases hσ with rfl | rfl <;> omega
        have : σ * nth r0 at_ = ((nth r0 at_).natAbs : Int) := by rcases hσ with rfl | rfl <;> omega
        omega
      obtain ⟨x, hx, hxl⟩ := least_of (fun r => (nth r at_).natAbs) late (List.ne_nil_of_mem I.l1)
      have hMh : h ≤ M := by have := hrw head hm; omega
      have sg : ∀ r ∈ late, 0 < σ * nth r at_ ∧ σ * nth r at_ ≤ (h : Int) := fun r m => by
        rcases I.l2 r m with rfl | ⟨s, hs, rfl, hn⟩
        · omega
        · obtain ⟨q, rr, _, _, k3, k4, _⟩ := red_b2 (at_ := at_) hσ (ls s hs) h1 hh (hrw s hs).1 (hrw s hs).2.1 (hrw s hs).2.2 (hrw head hm).2.2
          have : σ * nth (red at_ s head) at_ ≠ 0 := by rcases hσ with rfl | rfl <;> omega
          omega
      have ab : ∀ r ∈ late, σ * nth r at_ = ((nth r at_).natAbs : Int) := fun r m => by
        have := (sg r m).1
        rcases hσ with rfl | rfl <;> omega
      refine ⟨σ, h, (nth x at_).natAbs, hσ, by have := (sg x hx).1; have := ab x hx; omega, fun r m => ⟨?_, (sg r m).2, fun a ha => ?_⟩, x, hx, ab x hx⟩
      · rw [ab r m]
        have := hxl r m
        omega
      · have hx1 := hxl r m
        have xh : (nth x at_).natAbs ≤ h := by have := (sg x hx).2; have := ab x hx; omega
        rcases I.l2 r m with rfl | ⟨s, hs, rfl, hn⟩
        · have := (hrw _ hm).2.2 a ha
          refine Nat.le_trans (Nat.mul_le_mul (Nat.mul_le_mul_left _ hMh) xh) this
        · obtain ⟨q, rr, k1, k2, k3, k4, k5⟩ := red_b2 (at_ := at_) hσ (ls s hs) h1 hh (hrw s hs).1 (hrw s hs).2.1 (hrw s hs).2.2 (hrw head hm).2.2
          obtain ⟨X, hX, hz⟩ := k5 a ha
          have e5 : (nth x at_).natAbs ≤ rr := by
            have := ab _ m
            omega
          -- X (1 + q) rr ≤ X (q h + rr) ≤ X M
          have t1 : (1 + q) * rr ≤ M := by
            have : q * rr ≤ q * h := Nat.mul_le_mul_left _ (by omega)
            rw [Nat.add_mul, Nat.one_mul]
            omega
          have t2 : a.natAbs * h * (nth x at_).natAbs ≤ X * (1 + q) * h * rr := Nat.mul_le_mul (Nat.mul_le_mul_right _ hz) e5
          have t3 : X * (1 + q) * h * rr = X * ((1 + q) * rr) * h := by
            rw [Nat.mul_assoc X (1 + q) h, Nat.mul_assoc X, Nat.mul_assoc X, Nat.mul_assoc (1 + q) h rr, Nat.mul_assoc (1 + q) rr h, Nat.mul_comm h rr]
          rw [t3] at t2
          exact Nat.le_trans t2 (Nat.le_trans (Nat.mul_le_mul_right _ (Nat.mul_le_mul_left _ t1)) hX)
  · rcases I.l3 r m with m | ⟨s, hs, rfl, hz⟩
    · exact c.br r m
    · rcases c.bl with b1 | ⟨σ, M, h, hσ, h1, hrw, r0, m0, e0⟩
      · exact (red_b1 (b1 s hs) (b1 head hm) hσ0 hp0).mono (by omega)
      · have hh : σ * nth head at_ = (h : Int) := by
          have k1 := hrw head hm
          have k2 := hl r0 m0
          have : σ * nth head at_ = ((nth head at_).natAbs : Int) := by rcases hσ with rfl | rfl <;> omega
          have : σ * nth r0 at_ = ((nth r0 at_).natAbs : Int) := by rcases hσ with rfl | rfl <;> omega
          omega
        obtain ⟨q, rr, k1, k2, k3, k4, k5⟩ := red_b2 (at_ := at_) hσ (ls s hs) h1 hh (hrw s hs).1 (hrw s hs).2.1 (hrw s hs).2.2 (hrw head hm).2.2
        intro a ha
        obtain ⟨X, hX, hz⟩ := k5 a ha
        have t0 : q * 1 ≤ q * h := Nat.mul_le_mul_left _ h1
        have t1 : X * (1 + q) ≤ X * (M * 2) := Nat.mul_le_mul_left _ (by omega)
        have t2 : X * M * 1 ≤ X * M * h := Nat.mul_le_mul_left _ h1
        have t3 : X * (M * 2) = X * M * 2 := by rw [Nat.mul_assoc]
        have e2 : 2 ^ (4 * e + 2) = 2 ^ (4 * e) * 4 := by rw [Nat.pow_add]
        have e3 := Nat.two_pow_pos (4 * e)
        omega
/-- the measure goes down -/
theorem Itr.less {w at_ e : Nat} {rows left rest late rest' : List Vec} {head : Vec} (c : Cl w at_ e rows left rest) (hm : head ∈ left) (I : Itr at_ head left rest late rest') (h : 1 < late.length) : ∃ r ∈ late, (nth r at_).natAbs < (nth head at_).natAbs := by
  obtain ⟨stay, rfl, hs⟩ := I.l7
  have nzh := c.nz head hm
  obtain ⟨σ0, hσ0, hp0⟩ : ∃ σ : Int, (σ = 1 ∨ σ = -1) ∧ 0 < σ * nth head at_ := by
    by_cases h : 0 < nth head at_
    · exact ⟨1, .inl rfl, by omega⟩
    · exact ⟨-1, .inr rfl, by omega⟩
  cases stay with
  | nil => simp at h
  | cons r stay =>
    obtain ⟨s, hms, rfl, hn⟩ := hs r (List.mem_cons_self ..)
    refine ⟨_, List.mem_cons_of_mem _ (List.mem_cons_self ..), ?_⟩
    have ls : s.length = head.length := (c.lw s (List.mem_append_left _ hms)).trans (c.lw head (List.mem_append_left _ hm)).symm
    have f := fdiv_sign (s := nth s at_) hσ0 hp0
    rw [red_nth ls]
    rw [red_nth ls] at hn
    rcases hσ0 with rfl | rfl <;> omega
end ML
end
section
namespace VP
open VM
abbrev M0 : Int := 2147483549
/-- the five things of a bag -/
def bagL (cells : List Int) (i dig mixed turn : Int) : List PV := [ilst cells, .int i, .int dig, .int mixed, .int turn]
/-- a bag that still bears b draws -/
def Bag (st : Store) (r b : Nat) : Prop := ∃ (cells : List Int) (i : Nat) (dig mixed : Int) (turn : Nat), st[r]? = some (.lst (bagL cells i dig mixed turn)) ∧ cells.length ≤ 63 ∧ i ≤ 63 ∧ 0 ≤ mixed ∧ mixed < M0 ∧ turn + b < 2 ^ 60
/-- what a drawing def leaves: the bag changed, all else as it was; new objects at the end -/
def Keep (r : Nat) (st st' : Store) : Prop := st.length ≤ st'.length ∧ ∀ i, i ≠ r → i < st.length → st'[i]? = st[i]?
theorem Keep.refl {r : Nat} {st : Store} : Keep r st st := ⟨Nat.le_refl _, fun _ _ _ => rfl⟩
theorem Keep.trans {r : Nat} {st st1 st2 : Store} (h : Keep r st st1) (h' : Keep r st1 st2) : Keep r st st2 := ⟨Nat.le_trans h.1 h'.1, fun i hi hl => (h'.2 i hi (Nat.lt_of_lt_of_le hl h.1)).trans (h.2 i hi hl)⟩
theorem Keep.set {r : Nat} {st : Store} {o : SO} : Keep r st (st.set r o) := ⟨by simp, fun i hi _ => List.getElem?_set_ne (Ne.symm hi)⟩
theorem Keep.app {r : Nat} {st : Store} {o : SO} : Keep r st (st ++ [o]) := ⟨by simp, fun i _ hl => List.getElem?_append_left hl⟩
theorem Bag.le {st : Store} {r b b' : Nat} (h : Bag st r b) (hb : b' ≤ b) : Bag st r b' := by
  obtain ⟨c, i, d, m, t, h1, h2, h3, h4, h5, h6⟩ := h
  exact ⟨c, i, d, m, t, h1, h2, h3, h4, h5, by omega⟩
theorem Bag.lt {st : Store} {r b : Nat} (h : Bag st r b) : r < st.length := by
  obtain ⟨c, i, d, m, t, h1, _⟩ := h
  exact (List.getElem?_eq_some_iff.mp h1).1
theorem Bag.app {st : Store} {r b : Nat} {o : SO} (h : Bag st r b) : Bag (st ++ [o]) r b := by
  have hl := h.lt
  obtain ⟨c, i, d, m, t, h1, h2⟩ := h
  exact ⟨c, i, d, m, t, by rw [List.getElem?_append_left hl]; exact h1, h2⟩
/-- f draws: at most c draws, the value as R says -/
def Draws (cs : CS) (f : Nat) (args : List PV) (r c : Nat) (R : PV → Prop) : Prop := ∀ (st : Store) (b : Nat) (k x : KV), Bag st r (b + c) → (∀ v st', R v → Bag st' r b → Keep r st st' → k v st') → cs f (.ref r :: args) st k x
def SpTake (cs : CS) : Prop := ∀ (r : Nat) (many : Int), 0 < many → Draws cs 1 [.int many] r 1 fun v => ∃ d : Int, v = .int d ∧ 0 ≤ d ∧ d < many
theorem ix5 (j : Nat) (h : j < 5) : ix 5 (j : Int) = some j := by
  unfold ix
  rw [if_pos (by omega), if_pos (by omega)]
  simp
theorem fmodM (a : Int) : 0 ≤ a.fmod M0 ∧ a.fmod M0 < M0 := ⟨Int.fmod_nonneg_of_pos a (by decide), Int.fmod_lt_of_pos a (by decide)⟩
theorem nat_lt_pow {a : Int} (h0 : 0 ≤ a) (h : a < M0) : a.natAbs < 2 ^ 64 := by
  have : (M0 : Int) = 2147483549 := rfl
  omega
theorem set_self {st : Store} {r : Nat} {o o' : SO} (h : st[r]? = some o) : (st.set r o')[r]? = some o' := List.getElem?_set_self (List.getElem?_eq_some_iff.mp h).1
def takeTail : TS := (sCons (sIf (tCmp .gt (eIx (eVar 0) (eC (.int 2))) (eC (.int 1))) (sCons (sSet (gName 3) (eBin .mod (eB1 fInt (eIx (eVar 0) (eC (.int 2)))) (eVar 1))) (sCons (sSetIx (eVar 0) (eC (.int 2)) (eBin .fdiv (eIx (eVar 0) (eC (.int 2))) (eVar 1))) (sRet (eVar 3)))) sNil)
        (sCons (sSet (gName 4) (eBin .mod (eB1 fInt (eBin .add (eIx (eVar 0) (eC (.int 3))) (eBin .mul (eIx (eVar 0) (eC (.int 4))) (eC (.int 9547))))) (eC (.int 2147483549))))
        (sCons (sSetIx (eVar 0) (eC (.int 3)) (eBin .mod (eB1 fInt (eBin .add (eBin .add (eBin .mul (eVar 4) (eVar 4)) (eBin .mul (eVar 4) (eC (.int 33757)))) (eC (.int 90263)))) (eC (.int 2147483549))))
        (sRet (eBin .mod (eB1 fInt (eBin .add (eBin .fdiv (eIx (eVar 0) (eC (.int 3))) (eC (.int 71))) (eBin .mul (eBin .mod (eB1 fInt (eIx (eVar 0) (eC (.int 3)))) (eC (.int 7877))) (eC (.int 191))))) (eVar 1))))))
theorem natAbs_lt {a : Int} {n : Nat} (h0 : 0 ≤ a) (h : a < (n : Int)) : a.natAbs < n := by omega
theorem take_tail {st : Store} {r b : Nat} {many : Int} {a2 a3 a4 : Option PV} {D : Ends} (hm : 0 < many) (hb : Bag st r b)
    (hk : ∀ d st', 0 ≤ d → d < many → Bag st' r b → Keep r st st' → D.rt (.int d) st') : takeTail D [some (.ref r), some (.int many), a2, a3, a4] st := by
  obtain ⟨cells, i, dig, mixed, turn, h1, h2, h3, h4, h5, h6⟩ := hb
  have e2 : ix 5 2 = some 2 := rfl
  have e3 : ix 5 3 = some 3 := rfl
  have e4 : ix 5 4 = some 4 := rfl
  unfold bagL at h1
  by_cases hd : 1 < dig
  · simp only [takeTail, VM.sNil, VM.sCons, VM.sSet, VM.sPar, VM.sSetIx, VM.setIx, VM.sExpr, VM.sRet, VM.sRetN, VM.sIf, VM.sBreak, VM.sCont, VM.sFor, VM.gName, VM.gTup, VM.gEach, VM.eVar, VM.eC, VM.eBin, VM.eNeg, VM.eCmp, VM.eChain, VM.tOf, VM.tCmp, VM.tChain, VM.tAnd, VM.tOr, VM.tNot, VM.tYes, VM.eTest, VM.eAnd, VM.eOr, VM.eNot, VM.eIf, VM.aNil, VM.aCons, VM.eLst, VM.eLstM, VM.eTup, VM.eCall, VM.eIx, VM.getIx, VM.eSl, VM.getSl, VM.iE, VM.iRange1, VM.iRange2, VM.iZip, VM.iRev, VM.eComp, VM.eCompM, VM.eAppend, VM.eInsert, VM.eB1, VM.fLen, VM.fAbs, VM.fInt, VM.fList, VM.fListM, VM.fTuple, VM.fSum, VM.fAll, VM.fAny, VM.fIsi, VM.bLen, VM.seqOf, VM.sq, VM.asL, VM.items, VM.isSeq, VM.truth, VM.opBin, VM.opAdd, VM.opSub, VM.opMul, VM.opFdiv, VM.opMod, VM.opPow, VM.opCm, VM.opEq, VM.frz, VM.isD, VM.eqv, VM.isNon, VM.kdOf, VM.D0, VM.turn, List.map_cons, List.map_nil, List.replicate_succ, List.replicate_zero, List.cons_append, List.nil_append, List.getElem?_cons_zero, List.getElem?_cons_succ, List.set_cons_zero, List.set_cons_succ, Nat.reduceSub, VM.wipe, List.length_cons, List.length_nil, Nat.reduceAdd, h1, e2, hd, decide_true, if_true]
    refine ⟨by omega, by unfold DivOk; omega, ?_⟩
    exact hk _ _ (Int.fmod_nonneg_of_pos _ hm) (Int.fmod_lt_of_pos _ hm) ⟨cells, i, _, mixed, turn, set_self h1, h2, h3, h4, h5, h6⟩ Keep.set
  · simp only [takeTail, VM.sNil, VM.sCons, VM.sSet, VM.sPar, VM.sSetIx, VM.setIx, VM.sExpr, VM.sRet, VM.sRetN, VM.sIf, VM.sBreak, VM.sCont, VM.sFor, VM.gName, VM.gTup, VM.gEach, VM.eVar, VM.eC, VM.eBin, VM.eNeg, VM.eCmp, VM.eChain, VM.tOf, VM.tCmp, VM.tChain, VM.tAnd, VM.tOr, VM.tNot, VM.tYes, VM.eTest, VM.eAnd, VM.eOr, VM.eNot, VM.eIf, VM.aNil, VM.aCons, VM.eLst, VM.eLstM, VM.eTup, VM.eCall, VM.eIx, VM.getIx, VM.eSl, VM.getSl, VM.iE, VM.iRange1, VM.iRange2, VM.iZip, VM.iRev, VM.eComp, VM.eCompM, VM.eAppend, VM.eInsert, VM.eB1, VM.fLen, VM.fAbs, VM.fInt, VM.fList, VM.fListM, VM.fTuple, VM.fSum, VM.fAll, VM.fAny, VM.fIsi, VM.bLen, VM.seqOf, VM.sq, VM.asL, VM.items, VM.isSeq, VM.truth, VM.opBin, VM.opAdd, VM.opSub, VM.opMul, VM.opFdiv, VM.opMod, VM.opPow, VM.opCm, VM.opEq, VM.frz, VM.isD, VM.eqv, VM.isNon, VM.kdOf, VM.D0, VM.turn, List.map_cons, List.map_nil, List.replicate_succ, List.replicate_zero, List.cons_append, List.nil_append, List.getElem?_cons_zero, List.getElem?_cons_succ, List.set_cons_zero, List.set_cons_succ, Nat.reduceSub, VM.wipe, List.length_cons, List.length_nil, Nat.reduceAdd, h1, e2, e3, e4, hd, decide_false, Bool.false_eq_true, if_false]
    have f1 := fmodM (mixed + (turn : Int) * 9547)
    have f2 := fmodM ((mixed + (turn : Int) * 9547).fmod 2147483549 * (mixed + (turn : Int) * 9547).fmod 2147483549 + (mixed + (turn : Int) * 9547).fmod 2147483549 * 33757 + 90263)
    have g1 := nat_lt_pow f1.1 f1.2
    have g2 := nat_lt_pow f2.1 f2.2
    refine ⟨mulOk64 (by omega) (by decide), by decide, mulOk64 g1 g1, mulOk64 g1 (by decide), by decide, ?_⟩
    simp only [set_self h1, VM.sNil, VM.sCons, VM.sSet, VM.sPar, VM.sSetIx, VM.setIx, VM.sExpr, VM.sRet, VM.sRetN, VM.sIf, VM.sBreak, VM.sCont, VM.sFor, VM.gName, VM.gTup, VM.gEach, VM.eVar, VM.eC, VM.eBin, VM.eNeg, VM.eCmp, VM.eChain, VM.tOf, VM.tCmp, VM.tChain, VM.tAnd, VM.tOr, VM.tNot, VM.tYes, VM.eTest, VM.eAnd, VM.eOr, VM.eNot, VM.eIf, VM.aNil, VM.aCons, VM.eLst, VM.eLstM, VM.eTup, VM.eCall, VM.eIx, VM.getIx, VM.eSl, VM.getSl, VM.iE, VM.iRange1, VM.iRange2, VM.iZip, VM.iRev, VM.eComp, VM.eCompM, VM.eAppend, VM.eInsert, VM.eB1, VM.fLen, VM.fAbs, VM.fInt, VM.fList, VM.fListM, VM.fTuple, VM.fSum, VM.fAll, VM.fAny, VM.fIsi, VM.bLen, VM.seqOf, VM.sq, VM.asL, VM.items, VM.isSeq, VM.truth, VM.opBin, VM.opAdd, VM.opSub, VM.opMul, VM.opFdiv, VM.opMod, VM.opPow, VM.opCm, VM.opEq, VM.frz, VM.isD, VM.eqv, VM.isNon, VM.kdOf, VM.D0, VM.turn, List.map_cons, List.map_nil, List.replicate_succ, List.replicate_zero, List.cons_append, List.nil_append, List.getElem?_cons_zero, List.getElem?_cons_succ, List.set_cons_zero, List.set_cons_succ, Nat.reduceSub, VM.wipe, List.length_cons, List.length_nil, Nat.reduceAdd, e3]
    refine ⟨by unfold DivOk; decide, by decide, mulOk64 ?_ (by decide), by omega, ?_⟩
    · have q1 := Int.fmod_nonneg_of_pos (((mixed + (turn : Int) * 9547).fmod 2147483549 * (mixed + (turn : Int) * 9547).fmod 2147483549 + (mixed + (turn : Int) * 9547).fmod 2147483549 * 33757 + 90263).fmod 2147483549) (show (0 : Int) < 7877 by decide)
      have q2 := Int.fmod_lt_of_pos (((mixed + (turn : Int) * 9547).fmod 2147483549 * (mixed + (turn : Int) * 9547).fmod 2147483549 + (mixed + (turn : Int) * 9547).fmod 2147483549 * 33757 + 90263).fmod 2147483549) (show (0 : Int) < 7877 by decide)
      omega
    · exact hk _ _ (Int.fmod_nonneg_of_pos _ hm) (Int.fmod_lt_of_pos _ hm) ⟨cells, i, dig, _, turn, set_self h1, h2, h3, f2.1, f2.2, h6⟩ Keep.set
set_option maxHeartbeats 2000000 in
theorem take_at {FT : Nat → Option FD} (hF : FT 1 = some ⟨2, 5, T__law_take⟩) : At FT 1 SpTake := at_of (C := fun _ => True) hF (fun _ _ => trivial) fun cs cs' _ go => by
  intro r many hm st b k x hb hk
  obtain ⟨cells, i, dig, mixed, turn, h1, h2, h3, h4, h5, h6⟩ := hb
  refine go _ _ _ _ rfl ?_
  have e0 : ix 5 0 = some 0 := rfl
  have e1 : ix 5 1 = some 1 := rfl
  have e2 : ix 5 2 = some 2 := rfl
  have e3 : ix 5 3 = some 3 := rfl
  have e4 : ix 5 4 = some 4 := rfl
  unfold bagL at h1
  have s1 := set_self (o' := .lst [ilst cells, .int i, .int dig, .int mixed, .int ((turn : Int) + 1)]) h1
  have hB : ∀ (i' : Nat) (dig' mixed' : Int) (st' : Store), st'[r]? = some (.lst (bagL cells i' dig' mixed' ((turn : Int) + 1))) → i' ≤ 63 → 0 ≤ mixed' → mixed' < M0 → Bag st' r b := fun i' dig' mixed' st' q1 q2 q3 q4 => ⟨cells, i', dig', mixed', turn + 1, by rw [q1]; rfl, h2, q2, q3, q4, by omega⟩
  have fin : ∀ (st1 : Store) (a2 a3 a4 : Option PV), Bag st1 r b → Keep r st st1 → takeTail (D0 k x) [some (.ref r), some (.int many), a2, a3, a4] st1 := fun st1 a2 a3 a4 hb1 kp => take_tail hm hb1 fun d st' d0 d1 b' kp' => hk _ _ ⟨d, rfl, d0, d1⟩ b' (kp.trans kp')
  show sCons _ (sCons _ takeTail) _ _ _
  by_cases hc : dig < 2 ∧ (i : Int) < (cells.length : Int)
  · obtain ⟨hc1, hc2⟩ := hc
    have hi : i < cells.length := by omega
    have ei : ix cells.length (i : Int) = some i := by unfold ix; rw [if_pos (by omega), if_pos hc2]; simp
    obtain ⟨cell, ec⟩ : ∃ cell, cells[i]? = some cell := ⟨cells[i], by simp [hi]⟩
    have hs : ∀ o, (st.set r o)[r]? = some o := fun o => set_self h1
    have p0 : PowOk 10 18 := ⟨by decide, by decide, by decide⟩
    have q1 := Int.fmod_nonneg_of_pos cell (show (0 : Int) < 2147483497 by decide)
    have q2 := Int.fmod_lt_of_pos cell (show (0 : Int) < 2147483497 by decide)
    simp only [VM.sNil, VM.sCons, VM.sSet, VM.sPar, VM.sSetIx, VM.setIx, VM.sExpr, VM.sRet, VM.sRetN, VM.sIf, VM.sBreak, VM.sCont, VM.sFor, VM.gName, VM.gTup, VM.gEach, VM.eVar, VM.eC, VM.eBin, VM.eNeg, VM.eCmp, VM.eChain, VM.tOf, VM.tCmp, VM.tChain, VM.tAnd, VM.tOr, VM.tNot, VM.tYes, VM.eTest, VM.eAnd, VM.eOr, VM.eNot, VM.eIf, VM.aNil, VM.aCons, VM.eLst, VM.eLstM, VM.eTup, VM.eCall, VM.eIx, VM.getIx, VM.eSl, VM.getSl, VM.iE, VM.iRange1, VM.iRange2, VM.iZip, VM.iRev, VM.eComp, VM.eCompM, VM.eAppend, VM.eInsert, VM.eB1, VM.fLen, VM.fAbs, VM.fInt, VM.fList, VM.fListM, VM.fTuple, VM.fSum, VM.fAll, VM.fAny, VM.fIsi, VM.bLen, VM.seqOf, VM.sq, VM.asL, VM.items, VM.isSeq, VM.truth, VM.opBin, VM.opAdd, VM.opSub, VM.opMul, VM.opFdiv, VM.opMod, VM.opPow, VM.opCm, VM.opEq, VM.frz, VM.isD, VM.eqv, VM.isNon, VM.kdOf, VM.D0, VM.turn, List.map_cons, List.map_nil, List.replicate_succ, List.replicate_zero, List.cons_append, List.nil_append, List.getElem?_cons_zero, List.getElem?_cons_succ, List.set_cons_zero, List.set_cons_succ, Nat.reduceSub, VM.wipe, List.length_cons, List.length_nil, Nat.reduceAdd, h1, hs, e0, e1, e2, e3, e4, hc1, hc2, decide_true, if_true, List.length_map, ei, List.getElem?_map, ec, Option.map_some, List.set_set]
    have f := fmodM (mixed * 40063 + cell.fmod 2147483497 * 61 + ((i : Int) + 1))
    refine ⟨mulOk64 (nat_lt_pow h4 h5) (by decide), by decide, mulOk64 (by omega) (by decide), by decide, p0, ?_⟩
    by_cases hd : (10 : Int) ^ Int.toNat 18 ≤ cell
    · simp only [hd, decide_true, if_true]
      exact fin _ _ _ _ (hB (i + 1) _ _ _ (hs _) (by omega) f.1 f.2) Keep.set
    · simp only [hd, decide_false, Bool.false_eq_true, if_false]
      exact fin _ _ _ _ (hB (i + 1) _ _ _ (hs _) (by omega) f.1 f.2) Keep.set
  · have hs : ∀ o, (st.set r o)[r]? = some o := fun o => set_self h1
    have key := fin _ none none none (hB i dig mixed _ (hs _) h3 h4 h5) Keep.set
    by_cases hc1 : dig < 2
    · have hc2 : ¬ (i : Int) < (cells.length : Int) := fun z => hc ⟨hc1, z⟩
      simp only [VM.sNil, VM.sCons, VM.sSet, VM.sPar, VM.sSetIx, VM.setIx, VM.sExpr, VM.sRet, VM.sRetN, VM.sIf, VM.sBreak, VM.sCont, VM.sFor, VM.gName, VM.gTup, VM.gEach, VM.eVar, VM.eC, VM.eBin, VM.eNeg, VM.eCmp, VM.eChain, VM.tOf, VM.tCmp, VM.tChain, VM.tAnd, VM.tOr, VM.tNot, VM.tYes, VM.eTest, VM.eAnd, VM.eOr, VM.eNot, VM.eIf, VM.aNil, VM.aCons, VM.eLst, VM.eLstM, VM.eTup, VM.eCall, VM.eIx, VM.getIx, VM.eSl, VM.getSl, VM.iE, VM.iRange1, VM.iRange2, VM.iZip, VM.iRev, VM.eComp, VM.eCompM, VM.eAppend, VM.eInsert, VM.eB1, VM.fLen, VM.fAbs, VM.fInt, VM.fList, VM.fListM, VM.fTuple, VM.fSum, VM.fAll, VM.fAny, VM.fIsi, VM.bLen, VM.seqOf, VM.sq, VM.asL, VM.items, VM.isSeq, VM.truth, VM.opBin, VM.opAdd, VM.opSub, VM.opMul, VM.opFdiv, VM.opMod, VM.opPow, VM.opCm, VM.opEq, VM.frz, VM.isD, VM.eqv, VM.isNon, VM.kdOf, VM.D0, VM.turn, List.map_cons, List.map_nil, List.replicate_succ, List.replicate_zero, List.cons_append, List.nil_append, List.getElem?_cons_zero, List.getElem?_cons_succ, List.set_cons_zero, List.set_cons_succ, Nat.reduceSub, VM.wipe, List.length_cons, List.length_nil, Nat.reduceAdd, h1, hs, e0, e1, e2, e3, e4, hc1, hc2, decide_true, decide_false, Bool.false_eq_true, if_true, if_false, List.length_map]
      exact key
    · simp only [VM.sNil, VM.sCons, VM.sSet, VM.sPar, VM.sSetIx, VM.setIx, VM.sExpr, VM.sRet, VM.sRetN, VM.sIf, VM.sBreak, VM.sCont, VM.sFor, VM.gName, VM.gTup, VM.gEach, VM.eVar, VM.eC, VM.eBin, VM.eNeg, VM.eCmp, VM.eChain, VM.tOf, VM.tCmp, VM.tChain, VM.tAnd, VM.tOr, VM.tNot, VM.tYes, VM.eTest, VM.eAnd, VM.eOr, VM.eNot, VM.eIf, VM.aNil, VM.aCons, VM.eLst, VM.eLstM, VM.eTup, VM.eCall, VM.eIx, VM.getIx, VM.eSl, VM.getSl, VM.iE, VM.iRange1, VM.iRange2, VM.iZip, VM.iRev, VM.eComp, VM.eCompM, VM.eAppend, VM.eInsert, VM.eB1, VM.fLen, VM.fAbs, VM.fInt, VM.fList, VM.fListM, VM.fTuple, VM.fSum, VM.fAll, VM.fAny, VM.fIsi, VM.bLen, VM.seqOf, VM.sq, VM.asL, VM.items, VM.isSeq, VM.truth, VM.opBin, VM.opAdd, VM.opSub, VM.opMul, VM.opFdiv, VM.opMod, VM.opPow, VM.opCm, VM.opEq, VM.frz, VM.isD, VM.eqv, VM.isNon, VM.kdOf, VM.D0, VM.turn, List.map_cons, List.map_nil, List.replicate_succ, List.replicate_zero, List.cons_append, List.nil_append, List.getElem?_cons_zero, List.getElem?_cons_succ, List.set_cons_zero, List.set_cons_succ, Nat.reduceSub, VM.wipe, List.length_cons, List.length_nil, Nat.reduceAdd, h1, hs, e0, e1, e2, e3, e4, hc1, decide_false, Bool.false_eq_true, if_false, List.length_map]
      exact key
end VP
end
section
namespace VP
open VM
/-- draws at most c, then R -/
def Dr (cs : CS) (f : Nat) (args : List PV) (r c : Nat) (st : Store) (R : PV → Store → Prop) : Prop := ∀ (b : Nat) (k x : KV), Bag st r (b + c) → (∀ v st', R v st' → Bag st' r b → Keep r st st' → k v st') → cs f (.ref r :: args) st k x
def SpOf (cs : CS) : Prop := ∀ (r : Nat) (things : PV) (xs : List PV) (st : Store), asL st things = some xs → xs ≠ [] → things ≠ .ref r → (∀ j, things = .ref j → j < st.length) → Dr cs 2 [things] r 1 st fun v _ => v ∈ xs
theorem asL_keep {r : Nat} {st st' : Store} {u : PV} {xs : List PV} (h : asL st u = some xs) (hr : u ≠ .ref r) (k : Keep r st st') : asL st' u = some xs := by
  cases u <;> simp only [asL] at h ⊢ <;> try exact h
  rename_i i
  have hi : i < st.length := by
    cases e : st[i]? with
    | none => rw [e] at h; cases h
    | some o => exact (List.getElem?_eq_some_iff.mp e).1
  rw [k.2 i (fun z => hr (by rw [z])) hi]
  exact h
theorem bLen_asL {st : Store} {u : PV} {xs : List PV} (h : asL st u = some xs) : bLen u st = some xs.length := by
  cases u <;> simp only [asL] at h <;> first | (cases h; done) | skip
  · cases h; rfl
  · simp only [bLen, asL, h]
theorem getIx_asL {st : Store} {u : PV} {xs : List PV} {i : Int} {n : Nat} {y : PV} {k : KV} (h : asL st u = some xs) (hi : ix xs.length i = some n) (hy : xs[n]? = some y) (hk : k y st) : getIx u (.int i) st k := by
  have e : getIx u (.int i) st k = match asL st u with | some xs => (match ix xs.length i with | some n => (match xs[n]? with | some y => k y st | none => False) | none => False) | none => False := by
    cases u <;> simp only [asL] at h <;> first | (cases h; done) | rfl
  rw [e, h]
  simp only [hi, hy]
  exact hk
theorem ixN {n : Nat} {i : Int} (h0 : 0 ≤ i) (h : i < n) : ix n i = some i.toNat := by
  unfold ix
  rw [if_pos h0, if_pos h]
theorem of_at {FT : Nat → Option FD} {d : Nat} (hF : FT 2 = some ⟨2, 2, T__law_of⟩) (h1 : At FT d SpTake) : At FT (d + 1) SpOf := at_of hF h1 fun cs cs' tk go => by
  intro r things xs st hx hne hr hlt b k x hb hk
  refine go _ _ _ _ rfl ?_
  have hl : (0 : Int) < (xs.length : Int) := by
    cases xs with
    | nil => exact (hne rfl).elim
    | cons => simp
  simp only [T__law_of, VM.sRet, VM.eIx, VM.eCall, VM.aCons, VM.aNil, VM.eVar, VM.eB1, VM.fLen, List.map_cons, List.map_nil, List.cons_append, List.nil_append, List.getElem?_cons_zero, List.getElem?_cons_succ, bLen_asL hx]
  refine tk r _ hl st b _ _ hb fun v st' hv hb' kp => ?_
  obtain ⟨dd, rfl, d0, d1⟩ := hv
  have hi := ixN d0 (by simpa using d1)
  have hn : dd.toNat < xs.length := by omega
  exact getIx_asL (asL_keep hx hr kp) hi (List.getElem?_eq_getElem hn) (hk _ _ (List.getElem_mem hn) hb' kp)
def SpSmall (cs : CS) : Prop := ∀ (r : Nat) (st : Store), Dr cs 3 [] r 1 st fun v _ => ∃ c : Int, v = .int c ∧ c.natAbs ≤ 12
theorem small_at {FT : Nat → Option FD} {d : Nat} (hF : FT 3 = some ⟨1, 1, T__law_small⟩) (h1 : At FT d SpOf) : At FT (d + 1) SpSmall := at_of hF h1 fun cs cs' of go => by
  intro r st b k x hb hk
  refine go _ _ _ _ rfl ?_
  simp only [T__law_small, VM.sNil, VM.sCons, VM.sSet, VM.sPar, VM.sSetIx, VM.setIx, VM.sExpr, VM.sRet, VM.sRetN, VM.sIf, VM.sBreak, VM.sCont, VM.sFor, VM.gName, VM.gTup, VM.gEach, VM.eVar, VM.eC, VM.eBin, VM.eNeg, VM.eCmp, VM.eChain, VM.tOf, VM.tCmp, VM.tChain, VM.tAnd, VM.tOr, VM.tNot, VM.tYes, VM.eTest, VM.eAnd, VM.eOr, VM.eNot, VM.eIf, VM.aNil, VM.aCons, VM.eLst, VM.eLstM, VM.eTup, VM.eCall, VM.eIx, VM.getIx, VM.eSl, VM.getSl, VM.iE, VM.iRange1, VM.iRange2, VM.iZip, VM.iRev, VM.eComp, VM.eCompM, VM.eAppend, VM.eInsert, VM.eB1, VM.fLen, VM.fAbs, VM.fInt, VM.fList, VM.fListM, VM.fTuple, VM.fSum, VM.fAll, VM.fAny, VM.fIsi, VM.bLen, VM.seqOf, VM.sq, VM.asL, VM.items, VM.isSeq, VM.truth, VM.opBin, VM.opAdd, VM.opSub, VM.opMul, VM.opFdiv, VM.opMod, VM.opPow, VM.opCm, VM.opEq, VM.frz, VM.isD, VM.eqv, VM.isNon, VM.kdOf, VM.D0, VM.turn, List.map_cons, List.map_nil, List.replicate_succ, List.replicate_zero, List.cons_append, List.nil_append, List.getElem?_cons_zero, List.getElem?_cons_succ, List.set_cons_zero, List.set_cons_succ, Nat.reduceSub, VM.wipe, List.length_cons, List.length_nil, Nat.reduceAdd]
  refine ⟨by decide, ?_⟩
  refine of r (.lst _) _ st rfl (by simp) (by simp) (fun _ e => by cases e) b _ _ hb fun v st' hv hb' kp => ?_
  refine hk _ _ ?_ hb' kp
  simp only [List.mem_cons, List.not_mem_nil, or_false] at hv
  rcases hv with h | h | h | h | h | h | h | h | h | h | h | h <;> exact ⟨_, h, by decide⟩
def SpBig (cs : CS) : Prop := ∀ (r : Nat) (st : Store), Dr cs 4 [] r 2 st fun v _ => ∃ c : Int, v = .int c ∧ c.natAbs ≤ 1000
theorem big_at {FT : Nat → Option FD} {d : Nat} (hF : FT 4 = some ⟨1, 1, T__law_big_factor⟩) (h1 : At FT d SpTake) (h2 : At FT d SpSmall) : At FT (d + 1) SpBig := at_of (C := fun cs => SpTake cs ∧ SpSmall cs) hF (fun n hn => ⟨h1 n hn, h2 n hn⟩) fun cs cs' C go => by
  obtain ⟨tk, sm⟩ := C
  intro r st b k x hb hk
  refine go _ _ _ _ rfl ?_
  simp only [T__law_big_factor, VM.sNil, VM.sCons, VM.sSet, VM.sPar, VM.sSetIx, VM.setIx, VM.sExpr, VM.sRet, VM.sRetN, VM.sIf, VM.sBreak, VM.sCont, VM.sFor, VM.gName, VM.gTup, VM.gEach, VM.eVar, VM.eC, VM.eBin, VM.eNeg, VM.eCmp, VM.eChain, VM.tOf, VM.tCmp, VM.tChain, VM.tAnd, VM.tOr, VM.tNot, VM.tYes, VM.eTest, VM.eAnd, VM.eOr, VM.eNot, VM.eIf, VM.aNil, VM.aCons, VM.eLst, VM.eLstM, VM.eTup, VM.eCall, VM.eIx, VM.getIx, VM.eSl, VM.getSl, VM.iE, VM.iRange1, VM.iRange2, VM.iZip, VM.iRev, VM.eComp, VM.eCompM, VM.eAppend, VM.eInsert, VM.eB1, VM.fLen, VM.fAbs, VM.fInt, VM.fList, VM.fListM, VM.fTuple, VM.fSum, VM.fAll, VM.fAny, VM.fIsi, VM.bLen, VM.seqOf, VM.sq, VM.asL, VM.items, VM.isSeq, VM.truth, VM.opBin, VM.opAdd, VM.opSub, VM.opMul, VM.opFdiv, VM.opMod, VM.opPow, VM.opCm, VM.opEq, VM.frz, VM.isD, VM.eqv, VM.isNon, VM.kdOf, VM.D0, VM.turn, List.map_cons, List.map_nil, List.replicate_succ, List.replicate_zero, List.cons_append, List.nil_append, List.getElem?_cons_zero, List.getElem?_cons_succ, List.set_cons_zero, List.set_cons_succ, Nat.reduceSub, VM.wipe, List.length_cons, List.length_nil, Nat.reduceAdd]
  refine tk r 5 (by decide) st (b + 1) _ _ hb fun v st1 hv hb1 k1 => ?_
  obtain ⟨dd, rfl, d0, d1⟩ := hv
  simp only []
  by_cases h : (0 : Int) < dd
  · simp only [h, decide_true, if_true]
    exact sm r st1 b _ _ hb1 fun v st2 hv hb2 k2 => hk _ _ (by obtain ⟨c, rfl, hc⟩ := hv; exact ⟨c, rfl, by omega⟩) hb2 (k1.trans k2)
  · simp only [h, decide_false, Bool.false_eq_true, if_false]
    refine tk r 2001 (by decide) st1 b _ _ hb1 fun v st2 hv hb2 k2 => ?_
    obtain ⟨ee, rfl, e0, e1⟩ := hv
    simp only []
    exact hk _ _ ⟨_, rfl, by omega⟩ hb2 (k1.trans k2)
/-- rows of one length, no entry over B -/
def Rows (w : Nat) (B : Nat) (vs : List (List Int)) : Prop := ∀ v ∈ vs, v.length = w ∧ ∀ a ∈ v, a.natAbs ≤ B
theorem Rows.mono {w B B' : Nat} {vs : List (List Int)} (h : Rows w B vs) (hb : B ≤ B') : Rows w B' vs := fun v m => ⟨(h v m).1, fun a ha => Nat.le_trans ((h v m).2 a ha) hb⟩
/-- a list of draws -/
theorem comp_draw {cs : CS} {f r c B : Nat} {i : Nat} {own : List Nat} {ρ : Env} {st : Store} {b : Nat} {k : List PV → Store → Prop} (hf : ∀ st, Dr cs f [] r c st fun v _ => ∃ a : Int, v = .int a ∧ a.natAbs ≤ B) (xs : List PV) (hi : i ≠ 0) (hρ : ρ[0]? = some (some (.ref r)))
    (hl : xs.length ≤ SZ) (hb : Bag st r (b + xs.length * c)) (hk : ∀ (v : List Int) st', v.length = xs.length → (∀ a ∈ v, a.natAbs ≤ B) → Bag st' r b → Keep r st st' → k (pvis v) st') :
    compGo (gName i) tYes (eCall cs f (aCons (eVar 0) aNil)) own (fun _ => True) xs [] ρ st k := by
  refine comp_inv (fun rem acc st' => ∃ v : List Int, acc = pvis v ∧ v.length + rem.length = xs.length ∧ (∀ a ∈ v, a.natAbs ≤ B) ∧ Bag st' r (b + rem.length * c) ∧ Keep r st st') ?_ ?_ xs [] st ⟨[], rfl, by simp, by simp, hb, Keep.refl⟩
  · rintro v rem acc st' ⟨u, rfl, h2, h3, h4, h5⟩
    refine ⟨trivial, fun k' hk' => ?_⟩
    have e0 : (ρ.set i (some v))[0]? = some (some (.ref r)) := by rw [List.getElem?_set_ne hi]; exact hρ
    simp only [turn, gName, tYes, eCall, aCons, aNil, eVar, e0, if_true]
    rw [List.length_cons] at h2 h4
    refine hf st' (b + rem.length * c) _ _ (by rw [Nat.add_mul, Nat.one_mul, ← Nat.add_assoc] at h4; exact h4) fun y st2 hy hb2 k2 => ?_
    obtain ⟨a, rfl, ha⟩ := hy
    refine hk' _ _ ⟨by simp [pvis]; omega, u ++ [a], by simp [pvis], by rw [List.length_append, List.length_singleton]; omega, fun z hz => ?_, hb2, h5.trans k2⟩
    rcases List.mem_append.mp hz with hz | hz
    · exact h3 z hz
    · rw [List.mem_singleton.mp hz]; exact ha
  · rintro acc st' ⟨u, rfl, h2, h3, h4, h5⟩
    exact ⟨trivial, hk u st' (by simpa using h2) h3 (h4.le (by simp)) h5⟩
end VP
end
section
namespace VP
open VM
theorem isDL_ints {n : Nat} : ∀ v : List Int, isDL n (pvis v) = true
  | [] => by simp [pvis, isDL]
  | a :: v => by
    show isDL n (.int a :: pvis v) = true
    rw [isDL, isDL_ints v]
    simp [isD]
theorem isDL_itup {n : Nat} : ∀ vs : List (List Int), isDL (n + 1) (vs.map itup) = true
  | [] => by simp [isDL]
  | v :: vs => by
    rw [List.map_cons, isDL, isDL_itup vs, isD, isDL_ints v]
    simp
theorem isDL_ilst {n : Nat} : ∀ vs : List (List Int), isDL (n + 1) (vs.map ilst) = true
  | [] => by simp [isDL]
  | v :: vs => by
    rw [List.map_cons, isDL, isDL_ilst vs, isD, isDL_ints v]
    simp
def SpVecs (cs : CS) : Prop := ∀ (r many width : Nat) (st : Store), many ≤ 20 → width ≤ 20 → Dr cs 5 [.int many, .int width] r (many * (3 * width + 2)) st fun v st' => ∃ vs : List (List Int), v = .ref st.length ∧ st'[st.length]? = some (.lst (vs.map itup)) ∧ vs.length = many ∧ Rows width (1000 * 2 ^ many) vs
theorem ints_get {v : List Int} {i : Nat} {a : PV} (h : (pvis v)[i]? = some a) : ∃ z, a = .int z ∧ v[i]? = some z := by
  rw [List.getElem?_map] at h
  cases e : v[i]? with
  | none => rw [e] at h; cases h
  | some z => rw [e] at h; cases h; exact ⟨z, rfl, rfl⟩
theorem mem_ints {v : List Int} {a : PV} (h : a ∈ pvis v) : ∃ z, a = .int z ∧ z ∈ v := by
  obtain ⟨z, hz, rfl⟩ := List.mem_map.mp h
  exact ⟨z, rfl, hz⟩
theorem range_len (n : Nat) : ((List.range n).map fun (i : Nat) => PV.int (i : Int)).length = n := by simp
theorem mem_range {n : Nat} {v : PV} (h : v ∈ (List.range n).map fun (i : Nat) => PV.int (i : Int)) : ∃ i : Nat, i < n ∧ v = .int i := by
  obtain ⟨i, hi, rfl⟩ := List.mem_map.mp h
  exact ⟨i, List.mem_range.mp hi, rfl⟩
def vecsMid (cs : CS) : TS := (sCons (sIf (tCmp .eq (eVar 5) (eC (.int 1))) (sSet (gName 6) (eComp (iRange1 (eVar 2)) (gName 7) tYes (eIf (tCmp .lt (eVar 7) (eCall cs 1 (aCons (eVar 0) (aCons (eBin .add (eVar 2) (eC (.int 1))) aNil)))) (eC (.int 0)) (eIx (eVar 6) (eVar 7))) [7])) sNil)
          (sExpr (eAppend (eVar 3) (eB1 fTuple (eVar 6)))))
set_option maxHeartbeats 2000000 in
theorem vecs_at {FT : Nat → Option FD} {d : Nat} (hF : FT 5 = some ⟨3, 9, T__law_drawn_vectors⟩) (h1 : At FT d SpTake) (h2 : At FT d SpOf) (h3 : At FT d SpBig) : At FT (d + 1) SpVecs := at_of (C := fun cs => SpTake cs ∧ SpOf cs ∧ SpBig cs) hF (fun n hn => ⟨h1 n hn, h2 n hn, h3 n hn⟩) fun cs cs' C go => by
  obtain ⟨tk, of, bg⟩ := C
  intro r many width st0 hm hw b k x hb hk
  refine go _ _ _ _ rfl ?_
  have hr0 := hb.lt
  show (sCons (sSet (gName 3) (eLstM aNil)) (sCons (sFor (iRange1 (eVar 1)) (gName 4) _) (sRet (eVar 3)))) _ _ _
  simp only [VM.sNil, VM.sCons, VM.sSet, VM.sPar, VM.sSetIx, VM.setIx, VM.sExpr, VM.sRet, VM.sRetN, VM.sIf, VM.sBreak, VM.sCont, VM.sFor, VM.gName, VM.gTup, VM.gEach, VM.eVar, VM.eC, VM.eBin, VM.eNeg, VM.eCmp, VM.eChain, VM.tOf, VM.tCmp, VM.tChain, VM.tAnd, VM.tOr, VM.tNot, VM.tYes, VM.eTest, VM.eAnd, VM.eOr, VM.eNot, VM.eIf, VM.aNil, VM.aCons, VM.eLst, VM.eLstM, VM.eTup, VM.eCall, VM.eIx, VM.getIx, VM.eSl, VM.getSl, VM.iE, VM.iRange1, VM.iRange2, VM.iZip, VM.iRev, VM.eComp, VM.eCompM, VM.eAppend, VM.eInsert, VM.eB1, VM.fLen, VM.fAbs, VM.fInt, VM.fList, VM.fListM, VM.fTuple, VM.fSum, VM.fAll, VM.fAny, VM.fIsi, VM.bLen, VM.seqOf, VM.sq, VM.asL, VM.items, VM.isSeq, VM.truth, VM.opBin, VM.opAdd, VM.opSub, VM.opMul, VM.opFdiv, VM.opMod, VM.opPow, VM.opCm, VM.opEq, VM.frz, VM.isD, VM.eqv, VM.isNon, VM.kdOf, VM.D0, VM.turn, List.map_cons, List.map_nil, List.replicate_succ, List.replicate_zero, List.cons_append, List.nil_append, List.getElem?_cons_zero, List.getElem?_cons_succ, List.set_cons_zero, List.set_cons_succ, Nat.reduceSub, VM.wipe, List.length_cons, List.length_nil, Nat.reduceAdd, Int.toNat_natCast]
  refine ⟨by decide, by unfold i62; omega, ?_⟩
  generalize hj : st0.length = j at hk ⊢
  refine for_inv (fun rem ρ st => ∃ (a4 a5 a6 a7 a8 : Option PV) (vs : List (List Int)), ρ = [some (.ref r), some (.int many), some (.int width), some (.ref j), a4, a5, a6, a7, a8] ∧ Bag st r (b + rem.length * (3 * width + 2)) ∧ Keep r st0 st ∧ j < st.length ∧ st[j]? = some (.lst (vs.map itup)) ∧ vs.length + rem.length = many ∧ Rows width (1000 * 2 ^ vs.length) vs) ?_ ?_ _ _ _ ?_
  rotate_left
  · rintro ρ st ⟨a4, a5, a6, a7, a8, vs, rfl, q1, q2, q3, q4, q5, q6⟩
    refine ⟨trivial, ?_⟩
    have e5 : vs.length = many := by simpa using q5
    simp only [VM.sNil, VM.sCons, VM.sSet, VM.sPar, VM.sSetIx, VM.setIx, VM.sExpr, VM.sRet, VM.sRetN, VM.sIf, VM.sBreak, VM.sCont, VM.sFor, VM.gName, VM.gTup, VM.gEach, VM.eVar, VM.eC, VM.eBin, VM.eNeg, VM.eCmp, VM.eChain, VM.tOf, VM.tCmp, VM.tChain, VM.tAnd, VM.tOr, VM.tNot, VM.tYes, VM.eTest, VM.eAnd, VM.eOr, VM.eNot, VM.eIf, VM.aNil, VM.aCons, VM.eLst, VM.eLstM, VM.eTup, VM.eCall, VM.eIx, VM.getIx, VM.eSl, VM.getSl, VM.iE, VM.iRange1, VM.iRange2, VM.iZip, VM.iRev, VM.eComp, VM.eCompM, VM.eAppend, VM.eInsert, VM.eB1, VM.fLen, VM.fAbs, VM.fInt, VM.fList, VM.fListM, VM.fTuple, VM.fSum, VM.fAll, VM.fAny, VM.fIsi, VM.bLen, VM.seqOf, VM.sq, VM.asL, VM.items, VM.isSeq, VM.truth, VM.opBin, VM.opAdd, VM.opSub, VM.opMul, VM.opFdiv, VM.opMod, VM.opPow, VM.opCm, VM.opEq, VM.frz, VM.isD, VM.eqv, VM.isNon, VM.kdOf, VM.D0, VM.turn, List.map_cons, List.map_nil, List.replicate_succ, List.replicate_zero, List.cons_append, List.nil_append, List.getElem?_cons_zero, List.getElem?_cons_succ, List.set_cons_zero, List.set_cons_succ, Nat.reduceSub, VM.wipe, List.length_cons, List.length_nil, Nat.reduceAdd]
    exact hk _ _ ⟨vs, rfl, q4, e5, e5 ▸ q6⟩ (q1.le (by simp)) q2
  · refine ⟨_, _, _, _, _, [], rfl, by rw [range_len]; exact hb.app, Keep.app, by simp [hj], by rw [← hj]; simp, by simp, fun v m => by cases m⟩
  · rintro v rem ρ st ⟨a4, a5, a6, a7, a8, vs, rfl, q1, q2, q3, q4, q5, q6⟩
    refine ⟨trivial, fun D' d1 d2 d3 d4 d5 => ?_⟩
    rw [List.length_cons] at q5 q1
    have q1' : Bag st r (b + rem.length * (3 * width + 2) + width + 1 + (2 * width) + 1) := q1.le (by rw [Nat.add_mul]; omega)
    have hjr : j ≠ r := by omega
    -- the last step
    have fin : ∀ (row : List Int) (st1 : Store) (p5 p7 p8 : Option PV), row.length = width → (∀ a ∈ row, a.natAbs ≤ 1000 * 2 ^ (vs.length + 1)) → Bag st1 r (b + rem.length * (3 * width + 2)) → Keep r st st1 →
        sExpr (eAppend (eVar 3) (eB1 fTuple (eVar 6))) D' [some (.ref r), some (.int many), some (.int width), some (.ref j), some v, p5, some (.lst (pvis row)), p7, p8] st1 := by
      intro row st1 p5 p7 p8 hr hB hb1 k1
      have ej : st1[j]? = some (.lst (vs.map itup)) := (k1.2 j hjr q3).trans q4
      simp only [VM.sNil, VM.sCons, VM.sSet, VM.sPar, VM.sSetIx, VM.setIx, VM.sExpr, VM.sRet, VM.sRetN, VM.sIf, VM.sBreak, VM.sCont, VM.sFor, VM.gName, VM.gTup, VM.gEach, VM.eVar, VM.eC, VM.eBin, VM.eNeg, VM.eCmp, VM.eChain, VM.tOf, VM.tCmp, VM.tChain, VM.tAnd, VM.tOr, VM.tNot, VM.tYes, VM.eTest, VM.eAnd, VM.eOr, VM.eNot, VM.eIf, VM.aNil, VM.aCons, VM.eLst, VM.eLstM, VM.eTup, VM.eCall, VM.eIx, VM.getIx, VM.eSl, VM.getSl, VM.iE, VM.iRange1, VM.iRange2, VM.iZip, VM.iRev, VM.eComp, VM.eCompM, VM.eAppend, VM.eInsert, VM.eB1, VM.fLen, VM.fAbs, VM.fInt, VM.fList, VM.fListM, VM.fTuple, VM.fSum, VM.fAll, VM.fAny, VM.fIsi, VM.bLen, VM.seqOf, VM.sq, VM.asL, VM.items, VM.isSeq, VM.truth, VM.opBin, VM.opAdd, VM.opSub, VM.opMul, VM.opFdiv, VM.opMod, VM.opPow, VM.opCm, VM.opEq, VM.frz, VM.isD, VM.eqv, VM.isNon, VM.kdOf, VM.D0, VM.turn, List.map_cons, List.map_nil, List.replicate_succ, List.replicate_zero, List.cons_append, List.nil_append, List.getElem?_cons_zero, List.getElem?_cons_succ, List.set_cons_zero, List.set_cons_succ, Nat.reduceSub, VM.wipe, List.length_cons, List.length_nil, Nat.reduceAdd, ej]
      refine ⟨rfl, by rw [List.length_map]; show _ < 16777216; omega, d4 _ _ ⟨_, _, _, _, _, vs ++ [row], rfl, ?_, ⟨by rw [List.length_set]; exact (q2.trans k1).1, fun i hi hl => by rw [List.getElem?_set_ne (by omega)]; exact (q2.trans k1).2 i hi hl⟩, ?_, ?_, ?_, ?_⟩⟩
      · obtain ⟨c, i, dg, m, t, g1, g2⟩ := hb1
        exact ⟨c, i, dg, m, t, by rw [List.getElem?_set_ne hjr]; exact g1, g2⟩
      · rw [List.length_set]; exact Nat.lt_of_lt_of_le q3 k1.1
      · rw [set_self ej, List.map_append]
        rfl
      · rw [List.length_append, List.length_singleton]; omega
      · rw [List.length_append, List.length_singleton]
        intro u mu
        rcases List.mem_append.mp mu with mu | mu
        · exact ((q6.mono (Nat.mul_le_mul_left _ (Nat.pow_le_pow_right (by decide) (Nat.le_succ _)))) u mu)
        · rw [List.mem_singleton.mp mu]; exact ⟨hr, hB⟩
    -- the step of kind 1
    have mid : ∀ (row : List Int) (st1 : Store) (kind : Int) (p7 p8 : Option PV), row.length = width → (∀ a ∈ row, a.natAbs ≤ 1000 * 2 ^ (vs.length + 1)) → Bag st1 r (b + rem.length * (3 * width + 2) + width) → Keep r st st1 →
        vecsMid cs D' [some (.ref r), some (.int many), some (.int width), some (.ref j), some v, some (.int kind), some (.lst (pvis row)), p7, p8] st1 := by
      intro row st1 kind p7 p8 hr hB hb1 k1
      simp only [vecsMid, sCons, sIf, tCmp, eVar, eC, opCm, opEq, frz, isD, eqv, List.getElem?_cons_zero, List.getElem?_cons_succ]
      refine ⟨trivial, trivial, ?_⟩
      by_cases hk1 : (kind == 1) = true
      · rw [if_pos hk1]
        simp only [VM.sNil, VM.sCons, VM.sSet, VM.sPar, VM.sSetIx, VM.setIx, VM.sExpr, VM.sRet, VM.sRetN, VM.sIf, VM.sBreak, VM.sCont, VM.sFor, VM.gName, VM.gTup, VM.gEach, VM.eVar, VM.eC, VM.eBin, VM.eNeg, VM.eCmp, VM.eChain, VM.tOf, VM.tCmp, VM.tChain, VM.tAnd, VM.tOr, VM.tNot, VM.tYes, VM.eTest, VM.eAnd, VM.eOr, VM.eNot, VM.eIf, VM.aNil, VM.aCons, VM.eLst, VM.eLstM, VM.eTup, VM.eCall, VM.eIx, VM.getIx, VM.eSl, VM.getSl, VM.iE, VM.iRange1, VM.iRange2, VM.iZip, VM.iRev, VM.eComp, VM.eCompM, VM.eAppend, VM.eInsert, VM.eB1, VM.fLen, VM.fAbs, VM.fInt, VM.fList, VM.fListM, VM.fTuple, VM.fSum, VM.fAll, VM.fAny, VM.fIsi, VM.bLen, VM.seqOf, VM.sq, VM.asL, VM.items, VM.isSeq, VM.truth, VM.opBin, VM.opAdd, VM.opSub, VM.opMul, VM.opFdiv, VM.opMod, VM.opPow, VM.opCm, VM.opEq, VM.frz, VM.isD, VM.eqv, VM.isNon, VM.kdOf, VM.D0, VM.turn, List.map_cons, List.map_nil, List.replicate_succ, List.replicate_zero, List.cons_append, List.nil_append, List.getElem?_cons_zero, List.getElem?_cons_succ, List.set_cons_zero, List.set_cons_succ, Nat.reduceSub, VM.wipe, List.length_cons, List.length_nil, Nat.reduceAdd, Int.toNat_natCast]
        refine ⟨by unfold i62; omega, ?_⟩
        refine comp_inv (fun rm acc st' => ∃ u : List Int, acc = pvis u ∧ u.length + rm.length = width ∧ (∀ a ∈ u, a.natAbs ≤ 1000 * 2 ^ (vs.length + 1)) ∧ (∀ y ∈ rm, ∃ i : Nat, i < width ∧ y = .int i) ∧ Bag st' r (b + rem.length * (3 * width + 2) + rm.length) ∧ Keep r st1 st') ?_ ?_ _ [] st1 ⟨[], rfl, by simp, by simp, fun y hy => mem_range hy, by rw [range_len]; exact hb1, Keep.refl⟩
        · rintro y rm acc st2 ⟨u, rfl, g1, g2, g3, g4, g5⟩
          refine ⟨trivial, fun k' hk' => ?_⟩
          obtain ⟨i, hi, rfl⟩ := g3 y (List.mem_cons_self ..)
          rw [List.length_cons] at g1 g4
          simp only [VM.sNil, VM.sCons, VM.sSet, VM.sPar, VM.sSetIx, VM.setIx, VM.sExpr, VM.sRet, VM.sRetN, VM.sIf, VM.sBreak, VM.sCont, VM.sFor, VM.gName, VM.gTup, VM.gEach, VM.eVar, VM.eC, VM.eBin, VM.eNeg, VM.eCmp, VM.eChain, VM.tOf, VM.tCmp, VM.tChain, VM.tAnd, VM.tOr, VM.tNot, VM.tYes, VM.eTest, VM.eAnd, VM.eOr, VM.eNot, VM.eIf, VM.aNil, VM.aCons, VM.eLst, VM.eLstM, VM.eTup, VM.eCall, VM.eIx, VM.getIx, VM.eSl, VM.getSl, VM.iE, VM.iRange1, VM.iRange2, VM.iZip, VM.iRev, VM.eComp, VM.eCompM, VM.eAppend, VM.eInsert, VM.eB1, VM.fLen, VM.fAbs, VM.fInt, VM.fList, VM.fListM, VM.fTuple, VM.fSum, VM.fAll, VM.fAny, VM.fIsi, VM.bLen, VM.seqOf, VM.sq, VM.asL, VM.items, VM.isSeq, VM.truth, VM.opBin, VM.opAdd, VM.opSub, VM.opMul, VM.opFdiv, VM.opMod, VM.opPow, VM.opCm, VM.opEq, VM.frz, VM.isD, VM.eqv, VM.isNon, VM.kdOf, VM.D0, VM.turn, List.map_cons, List.map_nil, List.replicate_succ, List.replicate_zero, List.cons_append, List.nil_append, List.getElem?_cons_zero, List.getElem?_cons_succ, List.set_cons_zero, List.set_cons_succ, Nat.reduceSub, VM.wipe, List.length_cons, List.length_nil, Nat.reduceAdd, if_true]
          refine tk r ((width : Int) + 1) (by omega) st2 _ _ _ (by rw [← Nat.add_assoc] at g4; exact g4) fun z st3 hz hb3 k3 => ?_
          obtain ⟨dd, rfl, e0, e1⟩ := hz
          have ok : ∀ a : Int, a.natAbs ≤ 1000 * 2 ^ (vs.length + 1) → k' (some (.int a)) st3 := fun a ha => hk' _ _ ⟨by rw [List.length_map]; show _ < 16777216; omega, u ++ [a], by simp [pvis], by rw [List.length_append, List.length_singleton]; omega, fun w' hw' => by
            rcases List.mem_append.mp hw' with hw' | hw'
            · exact g2 w' hw'
            · rw [List.mem_singleton.mp hw']; exact ha, fun y hy => g3 y (List.mem_cons_of_mem _ hy), hb3, g5.trans k3⟩
          simp only []
          by_cases hlt : (i : Int) < dd
          · simp only [hlt, decide_true, if_true]
            exact ok 0 (by simp)
          · have hir : i < row.length := hr.symm ▸ hi
            have er : row[i]? = some row[i] := List.getElem?_eq_getElem hir
            have ei : ix row.length (i : Int) = some i := by rw [ixN (by omega) (by omega)]; simp
            simp only [hlt, decide_false, Bool.false_eq_true, if_false, List.length_map, ei, List.getElem?_map, er, Option.map_some]
            exact ok _ (hB _ (List.getElem_mem _))
        · rintro acc st2 ⟨u, rfl, g1, g2, g3, g4, g5⟩
          exact ⟨trivial, fin u st2 _ _ _ (by simpa using g1) g2 (g4.le (by simp)) (k1.trans g5)⟩
      · rw [if_neg hk1]
        exact fin row st1 _ _ _ hr hB (hb1.le (by omega)) k1
    show gName 4 v _ st _
    show (sCons (sSet (gName 5) (eCall cs 1 _)) (sCons (sSet (gName 6) (eComp (iRange1 (eVar 2)) (gName 7) tYes (eCall cs 4 (aCons (eVar 0) aNil)) [7])) (sCons (sIf _ _ sNil) (vecsMid cs)))) _ _ _
    simp only [sCons, sSet, eCall, aCons, aNil, eVar, eC, List.set_cons_succ, List.set_cons_zero, List.getElem?_cons_zero, List.getElem?_cons_succ]
    refine tk r 5 (by decide) st _ _ _ q1' fun z st1 hz hb1 k1 => ?_
    obtain ⟨kind, rfl, e0, e1⟩ := hz
    simp only [gName, eComp, iRange1, eVar, wipe, List.set_cons_succ, List.set_cons_zero, List.getElem?_cons_zero, List.getElem?_cons_succ, Int.toNat_natCast]
    refine ⟨by unfold i62; omega, ?_⟩
    refine comp_draw (cs := cs) (r := r) (c := 2) (B := 1000) (b := b + rem.length * (3 * width + 2) + width + 1) (fun st => bg r st) _ (by decide) rfl (by rw [range_len]; show _ ≤ 16777216; omega) (by rw [range_len]; exact hb1.le (by omega)) fun row st2 hl2 hB2 hb2 k2 => ?_
    rw [range_len] at hl2
    have hB2' : ∀ a ∈ row, a.natAbs ≤ 1000 * 2 ^ (vs.length + 1) := fun a ha => Nat.le_trans (hB2 a ha) (Nat.le_mul_of_pos_right _ (Nat.two_pow_pos _))
    have ej2 : st2[j]? = some (.lst (vs.map itup)) := ((k1.trans k2).2 j hjr q3).trans q4
    simp only [gName, sCons, sIf, sNil, tAnd, tCmp, eVar, eC, eLst, aNil, opCm, opEq, frz, isD, eqv, gName, List.set_cons_succ, List.set_cons_zero, List.getElem?_cons_zero, List.getElem?_cons_succ, ej2]
    refine ⟨trivial, trivial, ?_⟩
    by_cases hk0 : (kind == 0) = true
    · rw [if_pos hk0]
      refine ⟨by decide, isDL_itup vs, by simp [isDL], ?_⟩
      by_cases hv : vs = []
      · subst hv
        exact mid row st2 kind _ _ hl2 hB2' (hb2.le (by omega)) (k1.trans k2)
      · have e1 : eqvL (vs.map itup) [] = false := by
          cases vs with
          | nil => exact (hv rfl).elim
          | cons => rfl
        rw [e1]
        simp only [Bool.not_false, if_true, sSet, eComp, iE, eCall, aCons, aNil, eVar, gName, List.set_cons_succ, List.set_cons_zero, List.getElem?_cons_zero, List.getElem?_cons_succ]
        refine of r (.ref j) (vs.map itup) st2 (by simp [asL, ej2]) (by simpa using hv) (by simp [hjr]) (fun i e => by cases e; exact (List.getElem?_eq_some_iff.mp ej2).1) _ _ _ (hb2.le (b' := b + rem.length * (3 * width + 2) + width + 1) (by omega)) fun z st3 hz hb3 k3 => ?_
        obtain ⟨u, hu, rfl⟩ := List.mem_map.mp hz
        simp only [items, isSeq, wipe, List.set_cons_succ, List.set_cons_zero]
        refine ⟨trivial, ?_⟩
        obtain ⟨lu, bu⟩ := q6 u hu
        refine comp_map (fun y => match y with | .int a => .int (2 * a) | y => y) trivial _ (fun y hy k' hk' => ?_) (by rw [List.length_map]; show _ ≤ 16777216; omega) ?_
        · obtain ⟨a, rfl, ha⟩ := mem_ints hy
          have hba := bu a ha
          have hp : 1000 * 2 ^ vs.length ≤ 1000 * 2 ^ 20 := Nat.mul_le_mul_left _ (Nat.pow_le_pow_right (by decide) (by omega))
          simp only [turn, gName, tYes, eBin, eC, eVar, opBin, opMul, List.set_cons_succ, List.set_cons_zero, List.getElem?_cons_zero, List.getElem?_cons_succ, if_true]
          exact ⟨mulOk64 (by decide) (by omega), hk'⟩
        · have em : (pvis u).map (fun y => match y with | .int a => .int (2 * a) | y => y) = pvis (u.map fun a => 2 * a) := by simp [pvis]
          rw [em]
          refine mid (u.map fun a => 2 * a) st3 kind _ _ (by rw [List.length_map]; exact lu) (fun a ha => ?_) (hb3.le (by omega)) ((k1.trans k2).trans k3)
          obtain ⟨a', ha', rfl⟩ := List.mem_map.mp ha
          have := bu a' ha'
          rw [Nat.pow_succ]
          omega
    · rw [if_neg hk0, if_neg Bool.false_ne_true]
      exact mid row st2 kind _ _ hl2 hB2' (hb2.le (by omega)) (k1.trans k2)
end VP
end
section
namespace VP
open VM
def SpBag0 (cs : CS) : Prop := ∀ (is : List Int) (st : Store) (k x : KV), is.length ≤ 63 → (∀ st', Bag st' st.length (2 ^ 59) → st'.length = st.length + 1 → (∀ i, i < st.length → st'[i]? = st[i]?) → k (.ref st.length) st') → cs 0 [.scr is] st k x
theorem fmodB (a : Int) : (a.fmod M0).natAbs < 2 ^ 63 := by
  have h := fmodM a
  have e : (M0 : Int) = 2147483549 := rfl
  omega
theorem take63 (is : List Int) (h : is.length ≤ 63) : slc (pvis is) none (some 63) = pvis is := by
  unfold slc cutIx
  simp only [List.drop_zero, Nat.sub_zero]
  rw [if_neg (by decide)]
  exact List.take_of_length_le (by rw [List.length_map]; show _ ≤ min 63 is.length; omega)
set_option maxHeartbeats 2000000 in
theorem bag_at {FT : Nat → Option FD} (hF : FT 0 = some ⟨1, 4, T__law_bag⟩) : At FT 1 SpBag0 := at_of (C := fun _ => True) hF (fun _ _ => trivial) fun cs cs' _ go => by
  intro is st k x hl hk
  refine go _ _ _ _ rfl ?_
  simp only [T__law_bag, VM.sNil, VM.sCons, VM.sSet, VM.sPar, VM.sSetIx, VM.setIx, VM.sExpr, VM.sRet, VM.sRetN, VM.sIf, VM.sBreak, VM.sCont, VM.sFor, VM.gName, VM.gTup, VM.gEach, VM.eVar, VM.eC, VM.eBin, VM.eNeg, VM.eCmp, VM.eChain, VM.tOf, VM.tCmp, VM.tChain, VM.tAnd, VM.tOr, VM.tNot, VM.tYes, VM.eTest, VM.eAnd, VM.eOr, VM.eNot, VM.eIf, VM.aNil, VM.aCons, VM.eLst, VM.eLstM, VM.eTup, VM.eCall, VM.eIx, VM.getIx, VM.eSl, VM.getSl, VM.iE, VM.iRange1, VM.iRange2, VM.iZip, VM.iRev, VM.eComp, VM.eCompM, VM.eAppend, VM.eInsert, VM.eB1, VM.fLen, VM.fAbs, VM.fInt, VM.fList, VM.fListM, VM.fTuple, VM.fSum, VM.fAll, VM.fAny, VM.fIsi, VM.bLen, VM.seqOf, VM.sq, VM.asL, VM.items, VM.isSeq, VM.truth, VM.opBin, VM.opAdd, VM.opSub, VM.opMul, VM.opFdiv, VM.opMod, VM.opPow, VM.opCm, VM.opEq, VM.frz, VM.isD, VM.eqv, VM.isNon, VM.kdOf, VM.D0, VM.turn, List.map_cons, List.map_nil, List.replicate_succ, List.replicate_zero, List.cons_append, List.nil_append, List.getElem?_cons_zero, List.getElem?_cons_succ, List.set_cons_zero, List.set_cons_succ, Nat.reduceSub, VM.wipe, List.length_cons, List.length_nil, Nat.reduceAdd, take63 is hl]
  refine ⟨trivial, comp_map (fun v => v) trivial _ (fun v hv k' hk' => ?_) (by rw [List.length_map]; show _ ≤ 16777216; omega) ?_⟩
  · obtain ⟨a, rfl, _⟩ := mem_ints hv
    simp only [VM.sNil, VM.sCons, VM.sSet, VM.sPar, VM.sSetIx, VM.setIx, VM.sExpr, VM.sRet, VM.sRetN, VM.sIf, VM.sBreak, VM.sCont, VM.sFor, VM.gName, VM.gTup, VM.gEach, VM.eVar, VM.eC, VM.eBin, VM.eNeg, VM.eCmp, VM.eChain, VM.tOf, VM.tCmp, VM.tChain, VM.tAnd, VM.tOr, VM.tNot, VM.tYes, VM.eTest, VM.eAnd, VM.eOr, VM.eNot, VM.eIf, VM.aNil, VM.aCons, VM.eLst, VM.eLstM, VM.eTup, VM.eCall, VM.eIx, VM.getIx, VM.eSl, VM.getSl, VM.iE, VM.iRange1, VM.iRange2, VM.iZip, VM.iRev, VM.eComp, VM.eCompM, VM.eAppend, VM.eInsert, VM.eB1, VM.fLen, VM.fAbs, VM.fInt, VM.fList, VM.fListM, VM.fTuple, VM.fSum, VM.fAll, VM.fAny, VM.fIsi, VM.bLen, VM.seqOf, VM.sq, VM.asL, VM.items, VM.isSeq, VM.truth, VM.opBin, VM.opAdd, VM.opSub, VM.opMul, VM.opFdiv, VM.opMod, VM.opPow, VM.opCm, VM.opEq, VM.frz, VM.isD, VM.eqv, VM.isNon, VM.kdOf, VM.D0, VM.turn, List.map_cons, List.map_nil, List.replicate_succ, List.replicate_zero, List.cons_append, List.nil_append, List.getElem?_cons_zero, List.getElem?_cons_succ, List.set_cons_zero, List.set_cons_succ, Nat.reduceSub, VM.wipe, List.length_cons, List.length_nil, Nat.reduceAdd, if_true]
    exact hk'
  · rw [List.map_id']
    simp only [VM.sNil, VM.sCons, VM.sSet, VM.sPar, VM.sSetIx, VM.setIx, VM.sExpr, VM.sRet, VM.sRetN, VM.sIf, VM.sBreak, VM.sCont, VM.sFor, VM.gName, VM.gTup, VM.gEach, VM.eVar, VM.eC, VM.eBin, VM.eNeg, VM.eCmp, VM.eChain, VM.tOf, VM.tCmp, VM.tChain, VM.tAnd, VM.tOr, VM.tNot, VM.tYes, VM.eTest, VM.eAnd, VM.eOr, VM.eNot, VM.eIf, VM.aNil, VM.aCons, VM.eLst, VM.eLstM, VM.eTup, VM.eCall, VM.eIx, VM.getIx, VM.eSl, VM.getSl, VM.iE, VM.iRange1, VM.iRange2, VM.iZip, VM.iRev, VM.eComp, VM.eCompM, VM.eAppend, VM.eInsert, VM.eB1, VM.fLen, VM.fAbs, VM.fInt, VM.fList, VM.fListM, VM.fTuple, VM.fSum, VM.fAll, VM.fAny, VM.fIsi, VM.bLen, VM.seqOf, VM.sq, VM.asL, VM.items, VM.isSeq, VM.truth, VM.opBin, VM.opAdd, VM.opSub, VM.opMul, VM.opFdiv, VM.opMod, VM.opPow, VM.opCm, VM.opEq, VM.frz, VM.isD, VM.eqv, VM.isNon, VM.kdOf, VM.D0, VM.turn, List.map_cons, List.map_nil, List.replicate_succ, List.replicate_zero, List.cons_append, List.nil_append, List.getElem?_cons_zero, List.getElem?_cons_succ, List.set_cons_zero, List.set_cons_succ, Nat.reduceSub, VM.wipe, List.length_cons, List.length_nil, Nat.reduceAdd, List.length_map]
    refine ⟨mulOk64 (by decide) (by omega), trivial, ?_⟩
    refine for_inv (fun rem ρ st' => ∃ (m : Int) (a2 : Option PV), ρ = [some (.scr is), some (.lst (pvis is)), a2, some (.int m)] ∧ 0 ≤ m ∧ m < M0 ∧ st' = st ∧ ∀ y ∈ rem, ∃ z, y = .int z) ?_ ?_ _ _ _ ⟨_, _, rfl, by omega, by show _ < (2147483549 : Int); omega, rfl, fun y hy => by obtain ⟨z, rfl, _⟩ := mem_ints hy; exact ⟨z, rfl⟩⟩
    · rintro v rem ρ st' ⟨m, a2, rfl, m0, m1, rfl, hz⟩
      refine ⟨trivial, fun D' d1 d2 d3 d4 d5 => ?_⟩
      obtain ⟨z, rfl⟩ := hz _ (List.mem_cons_self ..)
      simp only [VM.sNil, VM.sCons, VM.sSet, VM.sPar, VM.sSetIx, VM.setIx, VM.sExpr, VM.sRet, VM.sRetN, VM.sIf, VM.sBreak, VM.sCont, VM.sFor, VM.gName, VM.gTup, VM.gEach, VM.eVar, VM.eC, VM.eBin, VM.eNeg, VM.eCmp, VM.eChain, VM.tOf, VM.tCmp, VM.tChain, VM.tAnd, VM.tOr, VM.tNot, VM.tYes, VM.eTest, VM.eAnd, VM.eOr, VM.eNot, VM.eIf, VM.aNil, VM.aCons, VM.eLst, VM.eLstM, VM.eTup, VM.eCall, VM.eIx, VM.getIx, VM.eSl, VM.getSl, VM.iE, VM.iRange1, VM.iRange2, VM.iZip, VM.iRev, VM.eComp, VM.eCompM, VM.eAppend, VM.eInsert, VM.eB1, VM.fLen, VM.fAbs, VM.fInt, VM.fList, VM.fListM, VM.fTuple, VM.fSum, VM.fAll, VM.fAny, VM.fIsi, VM.bLen, VM.seqOf, VM.sq, VM.asL, VM.items, VM.isSeq, VM.truth, VM.opBin, VM.opAdd, VM.opSub, VM.opMul, VM.opFdiv, VM.opMod, VM.opPow, VM.opCm, VM.opEq, VM.frz, VM.isD, VM.eqv, VM.isNon, VM.kdOf, VM.D0, VM.turn, List.map_cons, List.map_nil, List.replicate_succ, List.replicate_zero, List.cons_append, List.nil_append, List.getElem?_cons_zero, List.getElem?_cons_succ, List.set_cons_zero, List.set_cons_succ, Nat.reduceSub, VM.wipe, List.length_cons, List.length_nil, Nat.reduceAdd]
      refine ⟨mulOk64 (nat_lt_pow m0 m1) (by decide), by decide, d4 _ _ ⟨_, _, rfl, (fmodM _).1, (fmodM _).2, rfl, fun y hy => hz y (List.mem_cons_of_mem _ hy)⟩⟩
    · rintro ρ st' ⟨m, a2, rfl, m0, m1, rfl, hz⟩
      refine ⟨trivial, ?_⟩
      simp only [VM.sNil, VM.sCons, VM.sSet, VM.sPar, VM.sSetIx, VM.setIx, VM.sExpr, VM.sRet, VM.sRetN, VM.sIf, VM.sBreak, VM.sCont, VM.sFor, VM.gName, VM.gTup, VM.gEach, VM.eVar, VM.eC, VM.eBin, VM.eNeg, VM.eCmp, VM.eChain, VM.tOf, VM.tCmp, VM.tChain, VM.tAnd, VM.tOr, VM.tNot, VM.tYes, VM.eTest, VM.eAnd, VM.eOr, VM.eNot, VM.eIf, VM.aNil, VM.aCons, VM.eLst, VM.eLstM, VM.eTup, VM.eCall, VM.eIx, VM.getIx, VM.eSl, VM.getSl, VM.iE, VM.iRange1, VM.iRange2, VM.iZip, VM.iRev, VM.eComp, VM.eCompM, VM.eAppend, VM.eInsert, VM.eB1, VM.fLen, VM.fAbs, VM.fInt, VM.fList, VM.fListM, VM.fTuple, VM.fSum, VM.fAll, VM.fAny, VM.fIsi, VM.bLen, VM.seqOf, VM.sq, VM.asL, VM.items, VM.isSeq, VM.truth, VM.opBin, VM.opAdd, VM.opSub, VM.opMul, VM.opFdiv, VM.opMod, VM.opPow, VM.opCm, VM.opEq, VM.frz, VM.isD, VM.eqv, VM.isNon, VM.kdOf, VM.D0, VM.turn, List.map_cons, List.map_nil, List.replicate_succ, List.replicate_zero, List.cons_append, List.nil_append, List.getElem?_cons_zero, List.getElem?_cons_succ, List.set_cons_zero, List.set_cons_succ, Nat.reduceSub, VM.wipe, List.length_cons, List.length_nil, Nat.reduceAdd]
      refine ⟨by decide, hk _ ⟨is, 0, 0, m, 0, by simp [bagL], hl, by omega, m0, m1, by decide⟩ (by simp) fun i hi => List.getElem?_append_left hi⟩
def SpMixed (cs : CS) : Prop := ∀ (r : Nat) (things : PV) (xs : List PV) (st : Store), asL st things = some xs → things ≠ .ref r → xs.length ≤ 1000 → Dr cs 17 [things] r xs.length st fun v st' => ∃ ys : List PV, v = .ref st.length ∧ st'[st.length]? = some (.lst ys) ∧ ys.Perm xs
theorem items_asL {st : Store} {u : PV} {xs : List PV} (h : asL st u = some xs) : items st u = some xs ∧ isSeq st u = true := by
  cases u <;> simp only [asL] at h <;> first | (cases h; done) | skip
  · cases h; exact ⟨rfl, rfl⟩
  · rename_i i
    cases e : st[i]? with
    | none => rw [e] at h; cases h
    | some o =>
      rw [e] at h
      cases o <;> first | (cases h; done) | skip
      cases h
      simp only [items, isSeq, e]
      exact ⟨trivial, trivial⟩
theorem stays_keep {r : Nat} {st st0 st' : Store} {u : PV} {xs : List PV} (h : asL st u = some xs) (hr : u ≠ .ref r) (hs : ∀ i, i ≠ r → i < st.length → st'[i]? = st[i]?) (h0 : ∀ i, i < st.length → st0[i]? = st[i]?) : stays st0 u st' := by
  cases u <;> simp only [asL] at h <;> first | (cases h; done) | skip
  · trivial
  · rename_i i
    have hi : i < st.length := by
      cases e : st[i]? with
      | none => rw [e] at h; cases h
      | some o => exact (List.getElem?_eq_some_iff.mp e).1
    exact (hs i (fun z => hr (by rw [z])) hi).trans (h0 i hi).symm
theorem Bag.put {st : Store} {r b j : Nat} {o : SO} (h : Bag st r b) (hj : j ≠ r) : Bag (st.set j o) r b := by
  obtain ⟨c, i, dg, m, t, g1, g2⟩ := h
  exact ⟨c, i, dg, m, t, by rw [List.getElem?_set_ne hj]; exact g1, g2⟩
/-- an object made since is changed -/
theorem Keep.put {r j : Nat} {st st' : Store} {o : SO} (k : Keep r st st') (hj : st.length ≤ j) : Keep r st (st'.set j o) := ⟨by rw [List.length_set]; exact k.1, fun i hi hl => by rw [List.getElem?_set_ne (by omega)]; exact k.2 i hi hl⟩
set_option maxHeartbeats 2000000 in
theorem mixed_at {FT : Nat → Option FD} {d : Nat} (hF : FT 17 = some ⟨2, 4, T__law_mixed⟩) (h1 : At FT d SpTake) : At FT (d + 1) SpMixed := at_of hF h1 fun cs cs' tk go => by
  intro r things xs st hx hr hl b k x hb hk
  refine go _ _ _ _ rfl ?_
  have hr0 := hb.lt
  have hx1 : asL (st ++ [.lst []]) things = some xs := asL_keep hx hr (Keep.app (r := r))
  obtain ⟨i1, i2⟩ := items_asL hx1
  simp only [T__law_mixed, VM.sNil, VM.sCons, VM.sSet, VM.sPar, VM.sSetIx, VM.setIx, VM.sExpr, VM.sRet, VM.sRetN, VM.sIf, VM.sBreak, VM.sCont, VM.sFor, VM.gName, VM.gTup, VM.gEach, VM.eVar, VM.eC, VM.eBin, VM.eNeg, VM.eCmp, VM.eChain, VM.tOf, VM.tCmp, VM.tChain, VM.tAnd, VM.tOr, VM.tNot, VM.tYes, VM.eTest, VM.eAnd, VM.eOr, VM.eNot, VM.eIf, VM.aNil, VM.aCons, VM.eLst, VM.eLstM, VM.eTup, VM.eCall, VM.eIx, VM.eSl, VM.iE, VM.iRange1, VM.iRange2, VM.iZip, VM.iRev, VM.eComp, VM.eCompM, VM.eAppend, VM.eInsert, VM.eB1, VM.fLen, VM.fAbs, VM.fInt, VM.fList, VM.fListM, VM.fTuple, VM.fSum, VM.fAll, VM.fAny, VM.fIsi, VM.opBin, VM.opAdd, VM.opSub, VM.opMul, VM.opFdiv, VM.opMod, VM.opPow, VM.opCm, VM.frz, VM.isD, VM.eqv, VM.isNon, VM.D0, VM.turn, List.map_cons, List.map_nil, List.replicate_succ, List.replicate_zero, List.cons_append, List.nil_append, List.getElem?_cons_zero, List.getElem?_cons_succ, List.set_cons_zero, List.set_cons_succ, Nat.reduceSub, VM.wipe, List.length_cons, List.length_nil, Nat.reduceAdd]
  refine ⟨by decide, ?_⟩
  simp only [i1, i2]
  refine ⟨trivial, ?_⟩
  generalize hj : st.length = j at hk
  have hjr : j ≠ r := by omega
  refine for_inv (fun rem ρ st' => ∃ (a3 : Option PV) (ys pre : List PV), ρ = [some (.ref r), some things, some (.ref j), a3] ∧ Bag st' r (b + rem.length) ∧ Keep r st st' ∧ j < st'.length ∧ st'[j]? = some (.lst ys) ∧ ys.Perm pre ∧ pre ++ rem = xs) ?_ ?_ _ _ _ ⟨_, [], [], rfl, hb.app, Keep.app, by simp [hj], by rw [← hj]; simp, List.Perm.refl _, rfl⟩
  · rintro v rem ρ st' ⟨a3, ys, pre, rfl, q1, q2, q3, q4, q5, q6⟩
    refine ⟨stays_keep hx hr q2.2 (fun i hi => List.getElem?_append_left hi), fun D' d1 d2 d3 d4 d5 => ?_⟩
    have ly : ys.length < xs.length := by
      rw [q5.length_eq, ← q6]
      simp
    simp only [VM.sNil, VM.sCons, VM.sSet, VM.sPar, VM.sSetIx, VM.setIx, VM.sExpr, VM.sRet, VM.sRetN, VM.sIf, VM.sBreak, VM.sCont, VM.sFor, VM.gName, VM.gTup, VM.gEach, VM.eVar, VM.eC, VM.eBin, VM.eNeg, VM.eCmp, VM.eChain, VM.tOf, VM.tCmp, VM.tChain, VM.tAnd, VM.tOr, VM.tNot, VM.tYes, VM.eTest, VM.eAnd, VM.eOr, VM.eNot, VM.eIf, VM.aNil, VM.aCons, VM.eLst, VM.eLstM, VM.eTup, VM.eCall, VM.eIx, VM.getIx, VM.eSl, VM.getSl, VM.iE, VM.iRange1, VM.iRange2, VM.iZip, VM.iRev, VM.eComp, VM.eCompM, VM.eAppend, VM.eInsert, VM.eB1, VM.fLen, VM.fAbs, VM.fInt, VM.fList, VM.fListM, VM.fTuple, VM.fSum, VM.fAll, VM.fAny, VM.fIsi, VM.bLen, VM.seqOf, VM.sq, VM.asL, VM.items, VM.isSeq, VM.truth, VM.opBin, VM.opAdd, VM.opSub, VM.opMul, VM.opFdiv, VM.opMod, VM.opPow, VM.opCm, VM.opEq, VM.frz, VM.isD, VM.eqv, VM.isNon, VM.kdOf, VM.D0, VM.turn, List.map_cons, List.map_nil, List.replicate_succ, List.replicate_zero, List.cons_append, List.nil_append, List.getElem?_cons_zero, List.getElem?_cons_succ, List.set_cons_zero, List.set_cons_succ, Nat.reduceSub, VM.wipe, List.length_cons, List.length_nil, Nat.reduceAdd, q4]
    refine ⟨rfl, ?_⟩
    rw [List.length_cons] at q1
    refine tk r ((ys.length : Int) + 1) (by omega) st' (b + rem.length) _ _ q1 fun z st2 hz hb2 k2 => ?_
    obtain ⟨dd, rfl, e0, e1⟩ := hz
    have e4 : st2[j]? = some (.lst ys) := (k2.2 j hjr q3).trans q4
    simp only [e4]
    refine ⟨e0, by omega, by show _ < 16777216; omega, d4 _ _ ⟨_, _, pre ++ [v], rfl, hb2.put hjr, (q2.trans k2).put (by omega), by rw [List.length_set]; exact Nat.lt_of_lt_of_le q3 k2.1, set_self e4, ?_, by rw [List.append_assoc]; exact q6⟩⟩
    have p1 : (ys.take dd.toNat ++ [v] ++ ys.drop dd.toNat).Perm ([v] ++ ys) := by
      have := (List.perm_append_comm (l₁ := ys.take dd.toNat) (l₂ := [v])).append_right (ys.drop dd.toNat)
      rw [List.append_assoc [v], List.take_append_drop] at this
      exact this
    exact p1.trans ((List.perm_append_comm (l₁ := [v]) (l₂ := ys)).trans (q5.append_right [v]))
  · rintro ρ st' ⟨a3, ys, pre, rfl, q1, q2, q3, q4, q5, q6⟩
    refine ⟨stays_keep hx hr q2.2 (fun i hi => List.getElem?_append_left hi), ?_⟩
    simp only [VM.sNil, VM.sCons, VM.sSet, VM.sPar, VM.sSetIx, VM.setIx, VM.sExpr, VM.sRet, VM.sRetN, VM.sIf, VM.sBreak, VM.sCont, VM.sFor, VM.gName, VM.gTup, VM.gEach, VM.eVar, VM.eC, VM.eBin, VM.eNeg, VM.eCmp, VM.eChain, VM.tOf, VM.tCmp, VM.tChain, VM.tAnd, VM.tOr, VM.tNot, VM.tYes, VM.eTest, VM.eAnd, VM.eOr, VM.eNot, VM.eIf, VM.aNil, VM.aCons, VM.eLst, VM.eLstM, VM.eTup, VM.eCall, VM.eIx, VM.getIx, VM.eSl, VM.getSl, VM.iE, VM.iRange1, VM.iRange2, VM.iZip, VM.iRev, VM.eComp, VM.eCompM, VM.eAppend, VM.eInsert, VM.eB1, VM.fLen, VM.fAbs, VM.fInt, VM.fList, VM.fListM, VM.fTuple, VM.fSum, VM.fAll, VM.fAny, VM.fIsi, VM.bLen, VM.seqOf, VM.sq, VM.asL, VM.items, VM.isSeq, VM.truth, VM.opBin, VM.opAdd, VM.opSub, VM.opMul, VM.opFdiv, VM.opMod, VM.opPow, VM.opCm, VM.opEq, VM.frz, VM.isD, VM.eqv, VM.isNon, VM.kdOf, VM.D0, VM.turn, List.map_cons, List.map_nil, List.replicate_succ, List.replicate_zero, List.cons_append, List.nil_append, List.getElem?_cons_zero, List.getElem?_cons_succ, List.set_cons_zero, List.set_cons_succ, Nat.reduceSub, VM.wipe, List.length_cons, List.length_nil, Nat.reduceAdd]
    rw [List.append_nil] at q6
    exact hk _ _ ⟨ys, rfl, q4, q6 ▸ q5⟩ (q1.le (by simp)) q2
end VP
end
section
namespace VP
open VM ML
theorem comp_of {α : Type} {g : TG} {t : TT} {e : TE} {own : List Nat} {stay : Store → Prop} {ρ : Env} {k : List PV → Store → Prop} {st : Store} (enc : α → PV) (f : α → Option PV) (hst : stay st) (ys : List α)
    (h : ∀ y ∈ ys, ∀ k' : Option PV → Store → Prop, k' (f y) st → turn g t e ρ st (enc y) k') (hl : ys.length ≤ SZ) (hk : k (ys.filterMap f) st) : compGo g t e own stay (ys.map enc) [] ρ st k := by
  have key : ∀ (ys : List α) (acc : List PV), (∀ y ∈ ys, ∀ k' : Option PV → Store → Prop, k' (f y) st → turn g t e ρ st (enc y) k') → acc.length + ys.length ≤ SZ → k (acc ++ ys.filterMap f) st → compGo g t e own stay (ys.map enc) acc ρ st k := by
    intro ys
    induction ys with
    | nil =>
      intro acc _ _ hk
      rw [List.filterMap_nil, List.append_nil] at hk
      exact ⟨hst, hk⟩
    | cons y ys ih =>
      intro acc h hl hk
      rw [List.length_cons] at hl
      rw [List.map_cons]
      unfold compGo
      refine ⟨hst, ?_⟩
      have hr : ∀ y ∈ ys, ∀ k' : Option PV → Store → Prop, k' (f y) st → turn g t e ρ st (enc y) k' := fun x m => h x (List.mem_cons_of_mem _ m)
      refine h y (List.mem_cons_self ..) (fun o st => match o with | some y => acc.length < SZ ∧ compGo g t e own stay (ys.map enc) (acc ++ [y]) ρ st k | none => compGo g t e own stay (ys.map enc) acc ρ st k) ?_
      cases e1 : f y with
      | none =>
        rw [List.filterMap_cons_none e1] at hk
        exact ih acc hr (by omega) hk
      | some z =>
        rw [List.filterMap_cons_some e1] at hk
        refine ⟨by omega, ih (acc ++ [z]) hr (by rw [List.length_append, List.length_singleton]; omega) ?_⟩
        rw [List.append_assoc]
        exact hk
  exact key ys [] h (by simpa using hl) hk
theorem zip_ints (u v : List Int) : List.zipWith (fun x y => PV.tup [x, y]) (pvis u) (pvis v) = (u.zip v).map fun p => PV.tup [.int p.1, .int p.2] := by
  induction u generalizing v with
  | nil => rfl
  | cons a u ih =>
    cases v with
    | nil => rfl
    | cons b v => simp [pvis] at ih ⊢; exact ih v
theorem fm_sub1 (u v : List Int) (c : Int) : (u.zip v).filterMap (fun p => some (PV.int (p.1 - p.2 * c))) = pvis (sub1 u v c) := by
  induction u generalizing v with
  | nil => rfl
  | cons a u ih =>
    cases v with
    | nil => rfl
    | cons b v => simp [pvis, sub1] at ih ⊢; exact ih v
def SpMinus (cs : CS) : Prop := ∀ (u v : List Int) (c : Int) (st : Store) (k x : KV), (∀ b ∈ v, MulOk b c) → u.length ≤ SZ → k (ilst (sub1 u v c)) st → cs 6 [ilst u, ilst v, .int c] st k x
theorem minus_at {FT : Nat → Option FD} (hF : FT 6 = some ⟨3, 5, T_minus⟩) : At FT 1 SpMinus := at_of (C := fun _ => True) hF (fun _ _ => trivial) fun cs cs' _ go => by
  intro u v c st k x hm hl hk
  refine go _ _ _ _ rfl ?_
  simp only [T_minus, VM.sNil, VM.sCons, VM.sSet, VM.sPar, VM.sSetIx, VM.setIx, VM.sExpr, VM.sRet, VM.sRetN, VM.sIf, VM.sBreak, VM.sCont, VM.sFor, VM.gName, VM.gTup, VM.gEach, VM.eVar, VM.eC, VM.eBin, VM.eNeg, VM.eCmp, VM.eChain, VM.tOf, VM.tCmp, VM.tChain, VM.tAnd, VM.tOr, VM.tNot, VM.tYes, VM.eTest, VM.eAnd, VM.eOr, VM.eNot, VM.eIf, VM.aNil, VM.aCons, VM.eLst, VM.eLstM, VM.eTup, VM.eCall, VM.eIx, VM.getIx, VM.eSl, VM.getSl, VM.iE, VM.iRange1, VM.iRange2, VM.iZip, VM.iRev, VM.eComp, VM.eCompM, VM.eAppend, VM.eInsert, VM.eB1, VM.fLen, VM.fAbs, VM.fInt, VM.fList, VM.fListM, VM.fTuple, VM.fSum, VM.fAll, VM.fAny, VM.fIsi, VM.bLen, VM.seqOf, VM.sq, VM.asL, VM.items, VM.isSeq, VM.truth, VM.opBin, VM.opAdd, VM.opSub, VM.opMul, VM.opFdiv, VM.opMod, VM.opPow, VM.opCm, VM.opEq, VM.frz, VM.isD, VM.eqv, VM.isNon, VM.kdOf, VM.D0, VM.turn, List.map_cons, List.map_nil, List.replicate_succ, List.replicate_zero, List.cons_append, List.nil_append, List.getElem?_cons_zero, List.getElem?_cons_succ, List.set_cons_zero, List.set_cons_succ, Nat.reduceSub, VM.wipe, List.length_cons, List.length_nil, Nat.reduceAdd, zip_ints]
  refine comp_of _ (fun p => some (.int (p.1 - p.2 * c))) ⟨trivial, trivial⟩ (u.zip v) (fun p hp k' hk' => ?_) (by rw [List.length_zip]; omega) (by rw [fm_sub1]; exact hk)
  simp only [VM.sNil, VM.sCons, VM.sSet, VM.sPar, VM.sSetIx, VM.setIx, VM.sExpr, VM.sRet, VM.sRetN, VM.sIf, VM.sBreak, VM.sCont, VM.sFor, VM.gName, VM.gTup, VM.gEach, VM.eVar, VM.eC, VM.eBin, VM.eNeg, VM.eCmp, VM.eChain, VM.tOf, VM.tCmp, VM.tChain, VM.tAnd, VM.tOr, VM.tNot, VM.tYes, VM.eTest, VM.eAnd, VM.eOr, VM.eNot, VM.eIf, VM.aNil, VM.aCons, VM.eLst, VM.eLstM, VM.eTup, VM.eCall, VM.eIx, VM.getIx, VM.eSl, VM.getSl, VM.iE, VM.iRange1, VM.iRange2, VM.iZip, VM.iRev, VM.eComp, VM.eCompM, VM.eAppend, VM.eInsert, VM.eB1, VM.fLen, VM.fAbs, VM.fInt, VM.fList, VM.fListM, VM.fTuple, VM.fSum, VM.fAll, VM.fAny, VM.fIsi, VM.bLen, VM.seqOf, VM.sq, VM.asL, VM.items, VM.isSeq, VM.truth, VM.opBin, VM.opAdd, VM.opSub, VM.opMul, VM.opFdiv, VM.opMod, VM.opPow, VM.opCm, VM.opEq, VM.frz, VM.isD, VM.eqv, VM.isNon, VM.kdOf, VM.D0, VM.turn, List.map_cons, List.map_nil, List.replicate_succ, List.replicate_zero, List.cons_append, List.nil_append, List.getElem?_cons_zero, List.getElem?_cons_succ, List.set_cons_zero, List.set_cons_succ, Nat.reduceSub, VM.wipe, List.length_cons, List.length_nil, Nat.reduceAdd, if_true]
  exact ⟨trivial, hm _ (List.of_mem_zip hp).2, hk'⟩
def SpTimes (cs : CS) : Prop := ∀ (u : List Int) (c : Int) (st : Store) (k x : KV), (∀ b ∈ u, MulOk b c) → u.length ≤ SZ → k (ilst (u.map fun a => a * c)) st → cs 8 [ilst u, .int c] st k x
theorem times_at {FT : Nat → Option FD} (hF : FT 8 = some ⟨2, 3, T_times⟩) : At FT 1 SpTimes := at_of (C := fun _ => True) hF (fun _ _ => trivial) fun cs cs' _ go => by
  intro u c st k x hm hl hk
  refine go _ _ _ _ rfl ?_
  simp only [T_times, VM.sNil, VM.sCons, VM.sSet, VM.sPar, VM.sSetIx, VM.setIx, VM.sExpr, VM.sRet, VM.sRetN, VM.sIf, VM.sBreak, VM.sCont, VM.sFor, VM.gName, VM.gTup, VM.gEach, VM.eVar, VM.eC, VM.eBin, VM.eNeg, VM.eCmp, VM.eChain, VM.tOf, VM.tCmp, VM.tChain, VM.tAnd, VM.tOr, VM.tNot, VM.tYes, VM.eTest, VM.eAnd, VM.eOr, VM.eNot, VM.eIf, VM.aNil, VM.aCons, VM.eLst, VM.eLstM, VM.eTup, VM.eCall, VM.eIx, VM.getIx, VM.eSl, VM.getSl, VM.iE, VM.iRange1, VM.iRange2, VM.iZip, VM.iRev, VM.eComp, VM.eCompM, VM.eAppend, VM.eInsert, VM.eB1, VM.fLen, VM.fAbs, VM.fInt, VM.fList, VM.fListM, VM.fTuple, VM.fSum, VM.fAll, VM.fAny, VM.fIsi, VM.bLen, VM.seqOf, VM.sq, VM.asL, VM.items, VM.isSeq, VM.truth, VM.opBin, VM.opAdd, VM.opSub, VM.opMul, VM.opFdiv, VM.opMod, VM.opPow, VM.opCm, VM.opEq, VM.frz, VM.isD, VM.eqv, VM.isNon, VM.kdOf, VM.D0, VM.turn, List.map_cons, List.map_nil, List.replicate_succ, List.replicate_zero, List.cons_append, List.nil_append, List.getElem?_cons_zero, List.getElem?_cons_succ, List.set_cons_zero, List.set_cons_succ, Nat.reduceSub, VM.wipe, List.length_cons, List.length_nil, Nat.reduceAdd]
  refine ⟨trivial, comp_of PV.int (fun a => some (.int (a * c))) trivial u (fun p hp k' hk' => ?_) hl ?_⟩
  · simp only [VM.sNil, VM.sCons, VM.sSet, VM.sPar, VM.sSetIx, VM.setIx, VM.sExpr, VM.sRet, VM.sRetN, VM.sIf, VM.sBreak, VM.sCont, VM.sFor, VM.gName, VM.gTup, VM.gEach, VM.eVar, VM.eC, VM.eBin, VM.eNeg, VM.eCmp, VM.eChain, VM.tOf, VM.tCmp, VM.tChain, VM.tAnd, VM.tOr, VM.tNot, VM.tYes, VM.eTest, VM.eAnd, VM.eOr, VM.eNot, VM.eIf, VM.aNil, VM.aCons, VM.eLst, VM.eLstM, VM.eTup, VM.eCall, VM.eIx, VM.getIx, VM.eSl, VM.getSl, VM.iE, VM.iRange1, VM.iRange2, VM.iZip, VM.iRev, VM.eComp, VM.eCompM, VM.eAppend, VM.eInsert, VM.eB1, VM.fLen, VM.fAbs, VM.fInt, VM.fList, VM.fListM, VM.fTuple, VM.fSum, VM.fAll, VM.fAny, VM.fIsi, VM.bLen, VM.seqOf, VM.sq, VM.asL, VM.items, VM.isSeq, VM.truth, VM.opBin, VM.opAdd, VM.opSub, VM.opMul, VM.opFdiv, VM.opMod, VM.opPow, VM.opCm, VM.opEq, VM.frz, VM.isD, VM.eqv, VM.isNon, VM.kdOf, VM.D0, VM.turn, List.map_cons, List.map_nil, List.replicate_succ, List.replicate_zero, List.cons_append, List.nil_append, List.getElem?_cons_zero, List.getElem?_cons_succ, List.set_cons_zero, List.set_cons_succ, Nat.reduceSub, VM.wipe, List.length_cons, List.length_nil, Nat.reduceAdd, if_true]
    exact ⟨hm _ hp, hk'⟩
  · have e : u.filterMap (fun a => some (PV.int (a * c))) = pvis (u.map fun a => a * c) := by
      rw [show (fun a : Int => some (PV.int (a * c))) = some ∘ (fun a => PV.int (a * c)) from rfl, List.filterMap_eq_map]
      simp [pvis]
    rw [e]
    exact hk
abbrev rl (rows : List Vec) : PV := .lst (rows.map ilst)
theorem ixv {v : Vec} {at_ : Nat} (h : at_ < v.length) : ix (pvis v).length (at_ : Int) = some at_ ∧ (pvis v)[at_]? = some (.int (nth v at_)) := by
  rw [List.length_map, ixN (by omega) (by omega), List.getElem?_map, nth_get h]
  simp
theorem ixr {rows : List Vec} {i : Nat} (h : i < rows.length) : ix (rows.map ilst).length (i : Int) = some i ∧ (rows.map ilst)[i]? = some (ilst rows[i]) := by
  rw [List.length_map, ixN (by omega) (by omega), List.getElem?_map, List.getElem?_eq_getElem h]
  simp
theorem fm_filter {α : Type} (p : α → Bool) (f : α → PV) : ∀ l : List α, l.filterMap (fun a => if p a = true then some (f a) else none) = (l.filter p).map f
  | [] => rfl
  | a :: l => by
    rw [List.filter_cons]
    by_cases h : p a = true
    · rw [List.filterMap_cons_some (b := f a) (by rw [if_pos h]), if_pos h, List.map_cons, fm_filter p f l]
    · rw [List.filterMap_cons_none (by rw [if_neg h]), if_neg h, fm_filter p f l]
def fnz (at_ : Nat) (rows : List Vec) : List Vec := rows.filter fun r => !decide (nth r at_ = 0)
def fz (at_ : Nat) (rows : List Vec) : List Vec := rows.filter fun r => decide (nth r at_ = 0)
def Few (at_ : Nat) (rows left rest : List Vec) : Prop := 1 < (fnz at_ rows).length ∨ (left = fnz at_ rows ∧ rest = fz at_ rows)
def ClR (w at_ e : Nat) (rows left rest : List Vec) : Prop := Cl w at_ e rows left rest ∧ left.length ≤ 1 ∧ Few at_ rows left rest
def SpCleared (cs : CS) : Prop := ∀ (rows : List Vec) (w at_ e : Nat) (st : Store) (k x : KV), Len w rows → (∀ r ∈ rows, Bb e r) → at_ < w → w ≤ 1000 → rows.length ≤ 1000 → 8 * e + 10 ≤ 100000000 →
  (∀ left rest, ClR w at_ e rows left rest → k (.tup [rl left, rl rest]) st) → cs 7 [rl rows, .int at_] st k x
theorem _root_.Eq.mpr' {a b : Prop} (h : a = b) (hb : b) : a := h ▸ hb
theorem filter_cnt {α : Type} (p : α → Prop) [DecidablePred p] : ∀ l : List α, (l.filter fun r => !decide (p r)).length + (l.filter fun r => decide (p r)).length ≤ l.length
  | [] => by simp
  | a :: l => by
    have := filter_cnt p l
    rw [List.filter_cons, List.filter_cons]
    by_cases h : p a
    · simp [h]; omega
    · simp [h]; omega
theorem filter_nz (at_ : Nat) (rows : List Vec) (w e : Nat) (hl : Len w rows) (hb : ∀ r ∈ rows, Bb e r) : Cl w at_ e rows (rows.filter fun r => !decide (nth r at_ = 0)) (rows.filter fun r => decide (nth r at_ = 0)) := by
  have mem : ∀ r, r ∈ (rows.filter fun r => !decide (nth r at_ = 0)) ++ (rows.filter fun r => decide (nth r at_ = 0)) ↔ r ∈ rows := fun r => by
    rw [List.mem_append, List.mem_filter, List.mem_filter]
    constructor
    · rintro (h | h) <;> exact h.1
    · intro h
      by_cases z : nth r at_ = 0
      · exact .inr ⟨h, by simpa using z⟩
      · exact .inl ⟨h, by simpa using z⟩
  have LW : Len w ((rows.filter fun r => !decide (nth r at_ = 0)) ++ (rows.filter fun r => decide (nth r at_ = 0))) := fun r m => hl r ((mem r).mp m)
  refine ⟨LW, fun r m => by simpa using (List.mem_filter.mp m).2, fun r m => by simpa using (List.mem_filter.mp m).2, fun r m => Span.mem hl ((mem r).mp m), fun r m => Span.mem LW ((mem r).mpr m), ?_, .inl fun r m => hb r (List.mem_filter.mp m).1, fun r m => (hb r (List.mem_filter.mp m).1).mono (by omega)⟩
  exact filter_cnt _ rows

def clFor1 : TS := sIf (tCmp .lt (eB1 fAbs (eIx (eIx (eVar 2) (eVar 6)) (eVar 1))) (eB1 fAbs (eIx (eIx (eVar 2) (eVar 5)) (eVar 1)))) (sSet (gName 5) (eVar 6)) sNil
def clFor2 (cs : CS) : TS := sIf (tCmp .ne (eVar 6) (eVar 5))
    (sCons (sSet (gName 3) (eCall cs 6 (aCons (eIx (eVar 2) (eVar 6)) (aCons (eVar 7) (aCons (eBin .fdiv (eIx (eIx (eVar 2) (eVar 6)) (eVar 1)) (eIx (eVar 7) (eVar 1))) aNil)))))
    (sIf (tCmp .ne (eIx (eVar 3) (eVar 1)) (eC (.int 0)))
    (sSet (gName 8) (eBin .add (eVar 8) (eLst (aCons (eVar 3) aNil))))
    (sSet (gName 4) (eBin .add (eVar 4) (eLst (aCons (eVar 3) aNil))))))
    sNil
def clBody (cs : CS) : TS := (sCons (sSet (gName 5) (eC (.int 0)))
    (sCons (sFor (iRange1 (eB1 fLen (eVar 2))) (gName 6) clFor1)
    (sCons (sSet (gName 7) (eIx (eVar 2) (eVar 5)))
    (sCons (sSet (gName 8) (eLst (aCons (eVar 7) aNil)))
    (sCons (sFor (iRange1 (eB1 fLen (eVar 2))) (gName 6) (clFor2 cs))
    (sSet (gName 2) (eVar 8)))))))
theorem range_split {n : Nat} {v : PV} {rem pre : List PV} (h : pre ++ v :: rem = (List.range n).map fun (i : Nat) => PV.int (i : Int)) : v = .int (pre.length : Nat) ∧ pre.length < n := by
  have h1 : (pre ++ v :: rem)[pre.length]? = some v := by simp
  rw [h, List.getElem?_map] at h1
  have hn : pre.length < n := by
    have := congrArg List.length h
    simp at this
    omega
  rw [List.getElem?_range hn] at h1
  cases h1
  exact ⟨rfl, hn⟩
theorem range_pre {n : Nat} {pre : List PV} (h : pre = (List.range n).map fun (i : Nat) => PV.int (i : Int)) : pre.length = n := by rw [h]; simp
/-- one turn of the while -/
theorem cl_turn {cs : CS} (mn : SpMinus cs) {rows left rest : List Vec} {w at_ e : Nat} {st : Store} {D : Ends} {a3 a5 a6 a7 a8 : Option PV} (hr : Len w rows) (hw : at_ < w) (hw2 : w ≤ 1000) (hrl : rows.length ≤ 1000) (hs : 8 * e + 10 ≤ 100000000) (c : Cl w at_ e rows left rest) (hl : 1 < left.length)
    (hk : ∀ (head : Vec) (late rest' : List Vec) (b3 b5 b6 b7 b8 : Option PV), head ∈ left → (∀ s ∈ left, (nth head at_).natAbs ≤ (nth s at_).natAbs) → Itr at_ head left rest late rest' → D.nx [some (rl rows), some (.int at_), some (rl late), b3, some (rl rest'), b5, b6, b7, b8] st) :
    clBody cs D [some (rl rows), some (.int at_), some (rl left), a3, some (rl rest), a5, a6, a7, a8] st := by
  have lw : ∀ s ∈ left, s.length = w := fun s m => c.lw s (List.mem_append_left _ m)
  have cnt := c.cnt
  have gt : ∀ {i : Nat} (h : i < left.length), at_ < left[i].length := fun h => by rw [lw _ (List.getElem_mem h)]; exact hw
  unfold clBody
  simp only [VM.sNil, VM.sCons, VM.sSet, VM.sPar, VM.sSetIx, VM.setIx, VM.sExpr, VM.sRet, VM.sRetN, VM.sIf, VM.sBreak, VM.sCont, VM.sFor, VM.gName, VM.gTup, VM.gEach, VM.eVar, VM.eC, VM.eBin, VM.eNeg, VM.eCmp, VM.eChain, VM.tOf, VM.tCmp, VM.tChain, VM.tAnd, VM.tOr, VM.tNot, VM.tYes, VM.eTest, VM.eAnd, VM.eOr, VM.eNot, VM.eIf, VM.aNil, VM.aCons, VM.eLst, VM.eLstM, VM.eTup, VM.eCall, VM.eIx, VM.getIx, VM.eSl, VM.getSl, VM.iE, VM.iRange1, VM.iRange2, VM.iZip, VM.iRev, VM.eComp, VM.eCompM, VM.eAppend, VM.eInsert, VM.eB1, VM.fLen, VM.fAbs, VM.fInt, VM.fList, VM.fListM, VM.fTuple, VM.fSum, VM.fAll, VM.fAny, VM.fIsi, VM.bLen, VM.seqOf, VM.sq, VM.asL, VM.items, VM.isSeq, VM.truth, VM.opBin, VM.opAdd, VM.opSub, VM.opMul, VM.opFdiv, VM.opMod, VM.opPow, VM.opCm, VM.opEq, VM.frz, VM.isD, VM.eqv, VM.isNon, VM.kdOf, VM.D0, VM.turn, List.map_cons, List.map_nil, List.replicate_succ, List.replicate_zero, List.cons_append, List.nil_append, List.getElem?_cons_zero, List.getElem?_cons_succ, List.set_cons_zero, List.set_cons_succ, Nat.reduceSub, VM.wipe, List.length_cons, List.length_nil, Nat.reduceAdd, List.length_map, Int.toNat_natCast]
  refine ⟨by unfold i62; omega, ?_⟩
  refine for_inv (fun rem ρ st' => st' = st ∧ ∃ (b3 b6 b7 b8 : Option PV) (least : Nat) (pre : List PV), ρ = [some (rl rows), some (.int at_), some (rl left), b3, some (rl rest), some (.int least), b6, b7, b8] ∧ pre ++ rem = ((List.range left.length).map fun (i : Nat) => PV.int (i : Int)) ∧
    ∃ h : least < left.length, ∀ i (hi : i < left.length), i < pre.length → (nth left[least] at_).natAbs ≤ (nth left[i] at_).natAbs) ?_ ?_ _ _ _ ⟨rfl, _, _, _, _, 0, [], rfl, rfl, by omega, fun i _ h => by simp at h⟩
  · rintro v rem ρ st' ⟨rfl, b3, b6, b7, b8, least, pre, rfl, hp, hle, hmin⟩
    refine ⟨trivial, fun D' d1 d2 d3 d4 d5 => ?_⟩
    obtain ⟨rfl, hi⟩ := range_split hp
    obtain ⟨x1, x2⟩ := ixr hi
    obtain ⟨x3, x4⟩ := ixr hle
    obtain ⟨x5, x6⟩ := ixv (gt hi)
    obtain ⟨x7, x8⟩ := ixv (gt hle)
    simp only [clFor1, VM.sNil, VM.sCons, VM.sSet, VM.sPar, VM.sSetIx, VM.setIx, VM.sExpr, VM.sRet, VM.sRetN, VM.sIf, VM.sBreak, VM.sCont, VM.sFor, VM.gName, VM.gTup, VM.gEach, VM.eVar, VM.eC, VM.eBin, VM.eNeg, VM.eCmp, VM.eChain, VM.tOf, VM.tCmp, VM.tChain, VM.tAnd, VM.tOr, VM.tNot, VM.tYes, VM.eTest, VM.eAnd, VM.eOr, VM.eNot, VM.eIf, VM.aNil, VM.aCons, VM.eLst, VM.eLstM, VM.eTup, VM.eCall, VM.eIx, VM.getIx, VM.eSl, VM.getSl, VM.iE, VM.iRange1, VM.iRange2, VM.iZip, VM.iRev, VM.eComp, VM.eCompM, VM.eAppend, VM.eInsert, VM.eB1, VM.fLen, VM.fAbs, VM.fInt, VM.fList, VM.fListM, VM.fTuple, VM.fSum, VM.fAll, VM.fAny, VM.fIsi, VM.bLen, VM.seqOf, VM.sq, VM.asL, VM.items, VM.isSeq, VM.truth, VM.opBin, VM.opAdd, VM.opSub, VM.opMul, VM.opFdiv, VM.opMod, VM.opPow, VM.opCm, VM.opEq, VM.frz, VM.isD, VM.eqv, VM.isNon, VM.kdOf, VM.D0, VM.turn, List.map_cons, List.map_nil, List.replicate_succ, List.replicate_zero, List.cons_append, List.nil_append, List.getElem?_cons_zero, List.getElem?_cons_succ, List.set_cons_zero, List.set_cons_succ, Nat.reduceSub, VM.wipe, List.length_cons, List.length_nil, Nat.reduceAdd, x1, x2, x3, x4, x5, x6, x7, x8]
    by_cases hlt : (nth left[pre.length] at_).natAbs < (nth left[least] at_).natAbs
    · have hlt' : ((nth left[pre.length] at_).natAbs : Int) < ((nth left[least] at_).natAbs : Int) := by omega
      simp only [hlt', decide_true, if_true]
      refine d4 _ _ ⟨rfl, _, _, _, _, pre.length, pre ++ [.int pre.length], rfl, by simpa using hp, hi, fun i hi' h => ?_⟩
      rw [List.length_append, List.length_singleton] at h
      by_cases he : i = pre.length
      · subst he; exact Nat.le_refl _
      · have := hmin i hi' (by omega)
        omega
    · have hlt' : ¬ ((nth left[pre.length] at_).natAbs : Int) < ((nth left[least] at_).natAbs : Int) := by omega
      simp only [hlt', decide_false, Bool.false_eq_true, if_false]
      refine d4 _ _ ⟨rfl, _, _, _, _, least, pre ++ [.int pre.length], rfl, by simpa using hp, hle, fun i hi' h => ?_⟩
      rw [List.length_append, List.length_singleton] at h
      by_cases he : i = pre.length
      · subst he; omega
      · exact hmin i hi' (by omega)
  · rintro ρ st' ⟨rfl, b3, b6, b7, b8, least, pre, rfl, hp, hle, hmin⟩
    refine ⟨trivial, ?_⟩
    rw [List.append_nil] at hp
    have hpl := range_pre hp
    obtain ⟨x3, x4⟩ := ixr hle
    rw [List.length_map] at x3
    simp only [VM.sNil, VM.sCons, VM.sSet, VM.sPar, VM.sSetIx, VM.setIx, VM.sExpr, VM.sRet, VM.sRetN, VM.sIf, VM.sBreak, VM.sCont, VM.sFor, VM.gName, VM.gTup, VM.gEach, VM.eVar, VM.eC, VM.eBin, VM.eNeg, VM.eCmp, VM.eChain, VM.tOf, VM.tCmp, VM.tChain, VM.tAnd, VM.tOr, VM.tNot, VM.tYes, VM.eTest, VM.eAnd, VM.eOr, VM.eNot, VM.eIf, VM.aNil, VM.aCons, VM.eLst, VM.eLstM, VM.eTup, VM.eCall, VM.eIx, VM.getIx, VM.eSl, VM.getSl, VM.iE, VM.iRange1, VM.iRange2, VM.iZip, VM.iRev, VM.eComp, VM.eCompM, VM.eAppend, VM.eInsert, VM.eB1, VM.fLen, VM.fAbs, VM.fInt, VM.fList, VM.fListM, VM.fTuple, VM.fSum, VM.fAll, VM.fAny, VM.fIsi, VM.bLen, VM.seqOf, VM.sq, VM.asL, VM.items, VM.isSeq, VM.truth, VM.opBin, VM.opAdd, VM.opSub, VM.opMul, VM.opFdiv, VM.opMod, VM.opPow, VM.opCm, VM.opEq, VM.frz, VM.isD, VM.eqv, VM.isNon, VM.kdOf, VM.D0, VM.turn, List.map_cons, List.map_nil, List.replicate_succ, List.replicate_zero, List.cons_append, List.nil_append, List.getElem?_cons_zero, List.getElem?_cons_succ, List.set_cons_zero, List.set_cons_succ, Nat.reduceSub, VM.wipe, List.length_cons, List.length_nil, Nat.reduceAdd, x3, x4, List.length_map, Int.toNat_natCast]
    refine ⟨by decide, by unfold i62; omega, ?_⟩
    generalize hh : left[least] = head
    have hm : head ∈ left := by rw [← hh]; exact List.getElem_mem hle
    have hmn : ∀ s ∈ left, (nth head at_).natAbs ≤ (nth s at_).natAbs := fun s ms => by
      obtain ⟨i, hi, rfl⟩ := List.mem_iff_getElem.mp ms
      rw [← hh]
      exact hmin i hi (by omega)
    have lh := lw head hm
    refine for_inv (fun rem ρ st2 => st2 = st' ∧ ∃ (b3 b6 : Option PV) (stay : List Vec) (rest' : List Vec) (pre : List PV), ρ = [some (rl rows), some (.int at_), some (rl left), b3, some (rl rest'), some (.int least), b6, some (ilst head), some (rl (head :: stay))] ∧ pre ++ rem = ((List.range left.length).map fun (i : Nat) => PV.int (i : Int)) ∧
      (∀ r ∈ stay, ∃ s ∈ left, r = red at_ s head ∧ nth r at_ ≠ 0) ∧ (∀ r ∈ rest', r ∈ rest ∨ ∃ s ∈ left, r = red at_ s head ∧ nth r at_ = 0) ∧ (∀ i (hi : i < left.length), i < pre.length → i ≠ least → red at_ left[i] head ∈ stay ++ rest') ∧ (∀ r ∈ rest, r ∈ rest') ∧
      stay.length + rest'.length + (if least < pre.length then 1 else 0) ≤ rest.length + pre.length) ?_ ?_ _ _ _ ⟨rfl, _, _, [], rest, [], rfl, rfl, by simp, fun r m => .inl m, fun i _ h => by simp at h, fun r m => m, by simp⟩
    · rintro v rem ρ st' ⟨rfl, b3, b6, stay, rest', pre, rfl, hp, i2, i3, i4, i5, i6⟩
      refine ⟨trivial, fun D' d1 d2 d3 d4 d5 => ?_⟩
      obtain ⟨rfl, hi⟩ := range_split hp
      simp only [clFor2, VM.sNil, VM.sCons, VM.sSet, VM.sPar, VM.sSetIx, VM.setIx, VM.sExpr, VM.sRet, VM.sRetN, VM.sIf, VM.sBreak, VM.sCont, VM.sFor, VM.gName, VM.gTup, VM.gEach, VM.eVar, VM.eC, VM.eBin, VM.eNeg, VM.eCmp, VM.eChain, VM.tOf, VM.tCmp, VM.tChain, VM.tAnd, VM.tOr, VM.tNot, VM.tYes, VM.eTest, VM.eAnd, VM.eOr, VM.eNot, VM.eIf, VM.aNil, VM.aCons, VM.eLst, VM.eLstM, VM.eTup, VM.eCall, VM.eIx, VM.getIx, VM.eSl, VM.getSl, VM.iE, VM.iRange1, VM.iRange2, VM.iZip, VM.iRev, VM.eComp, VM.eCompM, VM.eAppend, VM.eInsert, VM.eB1, VM.fLen, VM.fAbs, VM.fInt, VM.fList, VM.fListM, VM.fTuple, VM.fSum, VM.fAll, VM.fAny, VM.fIsi, VM.bLen, VM.seqOf, VM.sq, VM.asL, VM.items, VM.isSeq, VM.truth, VM.opBin, VM.opAdd, VM.opSub, VM.opMul, VM.opFdiv, VM.opMod, VM.opPow, VM.opCm, VM.opEq, VM.frz, VM.isD, VM.eqv, VM.isNon, VM.kdOf, VM.D0, VM.turn, List.map_cons, List.map_nil, List.replicate_succ, List.replicate_zero, List.cons_append, List.nil_append, List.getElem?_cons_zero, List.getElem?_cons_succ, List.set_cons_zero, List.set_cons_succ, Nat.reduceSub, VM.wipe, List.length_cons, List.length_nil, Nat.reduceAdd]
      refine ⟨trivial, trivial, ?_⟩
      by_cases he : pre.length = least
      · have hb : (!((pre.length : Int) == (least : Int))) = false := by simp [he]
        rw [hb, if_neg Bool.false_ne_true]
        refine d4 _ _ ⟨rfl, _, _, stay, rest', pre ++ [.int pre.length], rfl, by simpa using hp, i2, i3, fun i hi' h hne => ?_, i5, ?_⟩
        · rw [List.length_append, List.length_singleton] at h
          exact i4 i hi' (by omega) hne
        · rw [List.length_append, List.length_singleton]
          rw [if_neg (by omega)] at i6
          rw [if_pos (by omega)]
          omega
      · have hb : (!((pre.length : Int) == (least : Int))) = true := by
          have : ((pre.length : Int) == (least : Int)) = false := by rw [beq_eq_false_iff_ne]; omega
          rw [this]; rfl
        rw [hb, if_pos rfl]
        obtain ⟨x1, x2⟩ := ixr hi
        obtain ⟨x5, x6⟩ := ixv (gt hi)
        obtain ⟨x7, x8⟩ := ixv (v := head) (at_ := at_) (by omega)
        generalize hsd : left[pre.length] = s at x2 x5 x6
        have ms : s ∈ left := by rw [← hsd]; exact List.getElem_mem hi
        simp only [VM.sNil, VM.sCons, VM.sSet, VM.sPar, VM.sSetIx, VM.setIx, VM.sExpr, VM.sRet, VM.sRetN, VM.sIf, VM.sBreak, VM.sCont, VM.sFor, VM.gName, VM.gTup, VM.gEach, VM.eVar, VM.eC, VM.eBin, VM.eNeg, VM.eCmp, VM.eChain, VM.tOf, VM.tCmp, VM.tChain, VM.tAnd, VM.tOr, VM.tNot, VM.tYes, VM.eTest, VM.eAnd, VM.eOr, VM.eNot, VM.eIf, VM.aNil, VM.aCons, VM.eLst, VM.eLstM, VM.eTup, VM.eCall, VM.eIx, VM.getIx, VM.eSl, VM.getSl, VM.iE, VM.iRange1, VM.iRange2, VM.iZip, VM.iRev, VM.eComp, VM.eCompM, VM.eAppend, VM.eInsert, VM.eB1, VM.fLen, VM.fAbs, VM.fInt, VM.fList, VM.fListM, VM.fTuple, VM.fSum, VM.fAll, VM.fAny, VM.fIsi, VM.bLen, VM.seqOf, VM.sq, VM.asL, VM.items, VM.isSeq, VM.truth, VM.opBin, VM.opAdd, VM.opSub, VM.opMul, VM.opFdiv, VM.opMod, VM.opPow, VM.opCm, VM.opEq, VM.frz, VM.isD, VM.eqv, VM.isNon, VM.kdOf, VM.D0, VM.turn, List.map_cons, List.map_nil, List.replicate_succ, List.replicate_zero, List.cons_append, List.nil_append, List.getElem?_cons_zero, List.getElem?_cons_succ, List.set_cons_zero, List.set_cons_succ, Nat.reduceSub, VM.wipe, List.length_cons, List.length_nil, Nat.reduceAdd, x1, x2, x5, x6, x7, x8]
        have nzh := c.nz head hm
        refine ⟨nzh, ?_⟩
        have bs := c.small s ms
        have bh := c.small head hm
        have ls : s.length = head.length := (lw s ms).trans lh.symm
        obtain ⟨σ0, hσ0, hp0⟩ : ∃ σ : Int, (σ = 1 ∨ σ = -1) ∧ 0 < σ * nth head at_ := by
          by_cases h : 0 < nth head at_
          · exact ⟨1, .inl rfl, by omega⟩
          · exact ⟨-1, .inr rfl, by omega⟩
        have bq := (fdiv_sign (s := nth s at_) hσ0 hp0).2.2
        have bsn := bs.nth at_
        refine mn s head _ _ _ _ (fun b mb => mulOk_of (bh b mb) (Nat.lt_of_le_of_lt bq bsn) (by omega) (by omega) (by omega)) (by rw [lw s ms]; show _ ≤ 16777216; omega) ?_
        have lr : (red at_ s head).length = w := (sub1_len ls).trans (lw s ms)
        obtain ⟨y1, y2⟩ := ixv (v := red at_ s head) (at_ := at_) (by omega)
        have y1' : ix (pvis (sub1 s head ((nth s at_).fdiv (nth head at_)))).length (at_ : Int) = some at_ := y1
        have y2' : (pvis (sub1 s head ((nth s at_).fdiv (nth head at_))))[at_]? = some (.int (nth (red at_ s head) at_)) := y2
        simp only [VM.sNil, VM.sCons, VM.sSet, VM.sPar, VM.sSetIx, VM.setIx, VM.sExpr, VM.sRet, VM.sRetN, VM.sIf, VM.sBreak, VM.sCont, VM.sFor, VM.gName, VM.gTup, VM.gEach, VM.eVar, VM.eC, VM.eBin, VM.eNeg, VM.eCmp, VM.eChain, VM.tOf, VM.tCmp, VM.tChain, VM.tAnd, VM.tOr, VM.tNot, VM.tYes, VM.eTest, VM.eAnd, VM.eOr, VM.eNot, VM.eIf, VM.aNil, VM.aCons, VM.eLst, VM.eLstM, VM.eTup, VM.eCall, VM.eIx, VM.getIx, VM.eSl, VM.getSl, VM.iE, VM.iRange1, VM.iRange2, VM.iZip, VM.iRev, VM.eComp, VM.eCompM, VM.eAppend, VM.eInsert, VM.eB1, VM.fLen, VM.fAbs, VM.fInt, VM.fList, VM.fListM, VM.fTuple, VM.fSum, VM.fAll, VM.fAny, VM.fIsi, VM.bLen, VM.seqOf, VM.sq, VM.asL, VM.items, VM.isSeq, VM.truth, VM.opBin, VM.opAdd, VM.opSub, VM.opMul, VM.opFdiv, VM.opMod, VM.opPow, VM.opCm, VM.opEq, VM.frz, VM.isD, VM.eqv, VM.isNon, VM.kdOf, VM.D0, VM.turn, List.map_cons, List.map_nil, List.replicate_succ, List.replicate_zero, List.cons_append, List.nil_append, List.getElem?_cons_zero, List.getElem?_cons_succ, List.set_cons_zero, List.set_cons_succ, Nat.reduceSub, VM.wipe, List.length_cons, List.length_nil, Nat.reduceAdd, ilst, y1', y2']
        refine ⟨trivial, trivial, ?_⟩
        have in4 : ∀ st4 re4 : List Vec, (∀ r ∈ stay, r ∈ st4) → (∀ r ∈ rest', r ∈ re4) → red at_ s head ∈ st4 ++ re4 → ∀ i (hi' : i < left.length), i < (pre ++ [PV.int (pre.length : Nat)]).length → i ≠ least → red at_ left[i] head ∈ st4 ++ re4 := fun st4 re4 k1 k2 k3 i hi' h hne => by
          rw [List.length_append, List.length_singleton] at h
          by_cases he2 : i = pre.length
          · subst he2
            rw [hsd]
            exact k3
          · rcases List.mem_append.mp (i4 i hi' (by omega) hne) with m | m
            · exact List.mem_append_left _ (k1 _ m)
            · exact List.mem_append_right _ (k2 _ m)
        have cnt4 : (if least < (pre ++ [PV.int (pre.length : Nat)]).length then 1 else 0) = (if least < pre.length then 1 else 0 : Nat) := by
          rw [List.length_append, List.length_singleton]
          by_cases h : least < pre.length
          · rw [if_pos h, if_pos (by omega)]
          · rw [if_neg h, if_neg (by omega)]
        have tot : stay.length + rest'.length ≤ 2000 := by
          have : pre.length < left.length := hi
          omega
        by_cases hz : nth (red at_ s head) at_ = 0
        · have hb2 : (!(nth (red at_ s head) at_ == 0)) = false := by rw [hz]; rfl
          refine (if_neg (show ¬ (!(nth (red at_ s head) at_ == 0)) = true by rw [hb2]; exact Bool.false_ne_true)).mpr' ?_
          refine ⟨by decide, by simp; show _ ≤ 16777216; omega, ?_⟩
          refine d4 _ _ ⟨rfl, some (ilst (red at_ s head)), some (.int pre.length), stay, rest' ++ [red at_ s head], pre ++ [.int pre.length], by simp [red, ilst, rl], by simpa using hp, i2, fun r m => ?_, in4 _ _ (fun _ m => m) (fun _ m => List.mem_append_left _ m) (by simp), fun r m => List.mem_append_left _ (i5 r m), ?_⟩
          · rcases List.mem_append.mp m with m | m
            · exact i3 r m
            · rw [List.mem_singleton.mp m]; exact .inr ⟨s, ms, rfl, hz⟩
          · rw [cnt4, List.length_append, List.length_append, List.length_singleton, List.length_singleton]
            omega
        · have hb2 : (!(nth (red at_ s head) at_ == 0)) = true := by
            have : (nth (red at_ s head) at_ == 0) = false := by rw [beq_eq_false_iff_ne]; exact hz
            rw [this]; rfl
          refine (if_pos (show (!(nth (red at_ s head) at_ == 0)) = true from hb2)).mpr' ?_
          refine ⟨by decide, by simp; show _ ≤ 16777216; omega, ?_⟩
          refine d4 _ _ ⟨rfl, some (ilst (red at_ s head)), some (.int pre.length), stay ++ [red at_ s head], rest', pre ++ [.int pre.length], by simp [red, ilst, rl], by simpa using hp, fun r m => ?_, i3, in4 _ _ (fun _ m => List.mem_append_left _ m) (fun _ m => m) (by simp), i5, ?_⟩
          · rcases List.mem_append.mp m with m | m
            · exact i2 r m
            · rw [List.mem_singleton.mp m]; exact ⟨s, ms, rfl, hz⟩
          · rw [cnt4, List.length_append, List.length_append, List.length_singleton, List.length_singleton]
            omega
    · rintro ρ st' ⟨rfl, b3, b6, stay, rest', pre, rfl, hp, i2, i3, i4, i5, i6⟩
      refine ⟨trivial, ?_⟩
      rw [List.append_nil] at hp
      have hpl := range_pre hp
      simp only [VM.sNil, VM.sCons, VM.sSet, VM.sPar, VM.sSetIx, VM.setIx, VM.sExpr, VM.sRet, VM.sRetN, VM.sIf, VM.sBreak, VM.sCont, VM.sFor, VM.gName, VM.gTup, VM.gEach, VM.eVar, VM.eC, VM.eBin, VM.eNeg, VM.eCmp, VM.eChain, VM.tOf, VM.tCmp, VM.tChain, VM.tAnd, VM.tOr, VM.tNot, VM.tYes, VM.eTest, VM.eAnd, VM.eOr, VM.eNot, VM.eIf, VM.aNil, VM.aCons, VM.eLst, VM.eLstM, VM.eTup, VM.eCall, VM.eIx, VM.getIx, VM.eSl, VM.getSl, VM.iE, VM.iRange1, VM.iRange2, VM.iZip, VM.iRev, VM.eComp, VM.eCompM, VM.eAppend, VM.eInsert, VM.eB1, VM.fLen, VM.fAbs, VM.fInt, VM.fList, VM.fListM, VM.fTuple, VM.fSum, VM.fAll, VM.fAny, VM.fIsi, VM.bLen, VM.seqOf, VM.sq, VM.asL, VM.items, VM.isSeq, VM.truth, VM.opBin, VM.opAdd, VM.opSub, VM.opMul, VM.opFdiv, VM.opMod, VM.opPow, VM.opCm, VM.opEq, VM.frz, VM.isD, VM.eqv, VM.isNon, VM.kdOf, VM.D0, VM.turn, List.map_cons, List.map_nil, List.replicate_succ, List.replicate_zero, List.cons_append, List.nil_append, List.getElem?_cons_zero, List.getElem?_cons_succ, List.set_cons_zero, List.set_cons_succ, Nat.reduceSub, VM.wipe, List.length_cons, List.length_nil, Nat.reduceAdd]
      refine hk head (head :: stay) rest' _ _ _ _ _ hm hmn ⟨List.mem_cons_self .., fun r m => ?_, i3, fun s ms => ?_, i5, ?_, stay, rfl, i2⟩
      · rcases List.mem_cons.mp m with e | m
        · exact .inl e
        · exact .inr (i2 r m)
      · obtain ⟨i, hi, rfl⟩ := List.mem_iff_getElem.mp ms
        by_cases he : i = least
        · subst he; exact .inl hh
        · right
          have := i4 i hi (by omega) he
          simp only [List.mem_append, List.mem_cons] at this ⊢
          rcases this with m | m
          · exact .inl (.inr m)
          · exact .inr m
      · rw [if_pos (by omega)] at i6
        rw [List.length_cons]
        omega
theorem cleared_at {FT : Nat → Option FD} {d : Nat} (hF : FT 7 = some ⟨2, 9, T_cleared⟩) (h1 : At FT d SpMinus) : At FT (d + 1) SpCleared := at_of hF h1 fun cs cs' mn go => by
  intro rows w at_ e st k x hl hb hat hw hrl hs hk
  refine go _ _ _ _ rfl ?_
  show (sCons _ (sCons _ (sCons (sWhile _ (clBody cs)) _))) _ _ _
  have ge : ∀ r ∈ rows, ix (pvis r).length (at_ : Int) = some at_ ∧ (pvis r)[at_]? = some (.int (nth r at_)) := fun r m => ixv (by rw [hl r m]; exact hat)
  simp only [VM.sNil, VM.sCons, VM.sSet, VM.sPar, VM.sSetIx, VM.setIx, VM.sExpr, VM.sRet, VM.sRetN, VM.sIf, VM.sBreak, VM.sCont, VM.sFor, VM.gName, VM.gTup, VM.gEach, VM.eVar, VM.eC, VM.eBin, VM.eNeg, VM.eCmp, VM.eChain, VM.tOf, VM.tCmp, VM.tChain, VM.tAnd, VM.tOr, VM.tNot, VM.tYes, VM.eTest, VM.eAnd, VM.eOr, VM.eNot, VM.eIf, VM.aNil, VM.aCons, VM.eLst, VM.eLstM, VM.eTup, VM.eCall, VM.eIx, VM.getIx, VM.eSl, VM.getSl, VM.iE, VM.iRange1, VM.iRange2, VM.iZip, VM.iRev, VM.eComp, VM.eCompM, VM.eAppend, VM.eInsert, VM.eB1, VM.fLen, VM.fAbs, VM.fInt, VM.fList, VM.fListM, VM.fTuple, VM.fSum, VM.fAll, VM.fAny, VM.fIsi, VM.bLen, VM.seqOf, VM.sq, VM.asL, VM.items, VM.isSeq, VM.truth, VM.opBin, VM.opAdd, VM.opSub, VM.opMul, VM.opFdiv, VM.opMod, VM.opPow, VM.opCm, VM.opEq, VM.frz, VM.isD, VM.eqv, VM.isNon, VM.kdOf, VM.D0, VM.turn, List.map_cons, List.map_nil, List.replicate_succ, List.replicate_zero, List.cons_append, List.nil_append, List.getElem?_cons_zero, List.getElem?_cons_succ, List.set_cons_zero, List.set_cons_succ, Nat.reduceSub, VM.wipe, List.length_cons, List.length_nil, Nat.reduceAdd]
  refine ⟨trivial, comp_of ilst (fun r => if (!decide (nth r at_ = 0)) = true then some (ilst r) else none) trivial rows (fun r m k' hk' => ?_) (by show _ ≤ 16777216; omega) ?_⟩
  · obtain ⟨x1, x2⟩ := ge r m
    simp only [VM.sNil, VM.sCons, VM.sSet, VM.sPar, VM.sSetIx, VM.setIx, VM.sExpr, VM.sRet, VM.sRetN, VM.sIf, VM.sBreak, VM.sCont, VM.sFor, VM.gName, VM.gTup, VM.gEach, VM.eVar, VM.eC, VM.eBin, VM.eNeg, VM.eCmp, VM.eChain, VM.tOf, VM.tCmp, VM.tChain, VM.tAnd, VM.tOr, VM.tNot, VM.tYes, VM.eTest, VM.eAnd, VM.eOr, VM.eNot, VM.eIf, VM.aNil, VM.aCons, VM.eLst, VM.eLstM, VM.eTup, VM.eCall, VM.eIx, VM.getIx, VM.eSl, VM.getSl, VM.iE, VM.iRange1, VM.iRange2, VM.iZip, VM.iRev, VM.eComp, VM.eCompM, VM.eAppend, VM.eInsert, VM.eB1, VM.fLen, VM.fAbs, VM.fInt, VM.fList, VM.fListM, VM.fTuple, VM.fSum, VM.fAll, VM.fAny, VM.fIsi, VM.bLen, VM.seqOf, VM.sq, VM.asL, VM.items, VM.isSeq, VM.truth, VM.opBin, VM.opAdd, VM.opSub, VM.opMul, VM.opFdiv, VM.opMod, VM.opPow, VM.opCm, VM.opEq, VM.frz, VM.isD, VM.eqv, VM.isNon, VM.kdOf, VM.D0, VM.turn, List.map_cons, List.map_nil, List.replicate_succ, List.replicate_zero, List.cons_append, List.nil_append, List.getElem?_cons_zero, List.getElem?_cons_succ, List.set_cons_zero, List.set_cons_succ, Nat.reduceSub, VM.wipe, List.length_cons, List.length_nil, Nat.reduceAdd, x1, x2]
    refine ⟨trivial, trivial, ?_⟩
    by_cases z : nth r at_ = 0
    · simpa [z] using hk'
    · simpa [z] using hk'
  rw [fm_filter]
  refine ⟨trivial, comp_of ilst (fun r => if (decide (nth r at_ = 0)) = true then some (ilst r) else none) trivial rows (fun r m k' hk' => ?_) (by show _ ≤ 16777216; omega) ?_⟩
  · obtain ⟨x1, x2⟩ := ge r m
    simp only [VM.sNil, VM.sCons, VM.sSet, VM.sPar, VM.sSetIx, VM.setIx, VM.sExpr, VM.sRet, VM.sRetN, VM.sIf, VM.sBreak, VM.sCont, VM.sFor, VM.gName, VM.gTup, VM.gEach, VM.eVar, VM.eC, VM.eBin, VM.eNeg, VM.eCmp, VM.eChain, VM.tOf, VM.tCmp, VM.tChain, VM.tAnd, VM.tOr, VM.tNot, VM.tYes, VM.eTest, VM.eAnd, VM.eOr, VM.eNot, VM.eIf, VM.aNil, VM.aCons, VM.eLst, VM.eLstM, VM.eTup, VM.eCall, VM.eIx, VM.getIx, VM.eSl, VM.getSl, VM.iE, VM.iRange1, VM.iRange2, VM.iZip, VM.iRev, VM.eComp, VM.eCompM, VM.eAppend, VM.eInsert, VM.eB1, VM.fLen, VM.fAbs, VM.fInt, VM.fList, VM.fListM, VM.fTuple, VM.fSum, VM.fAll, VM.fAny, VM.fIsi, VM.bLen, VM.seqOf, VM.sq, VM.asL, VM.items, VM.isSeq, VM.truth, VM.opBin, VM.opAdd, VM.opSub, VM.opMul, VM.opFdiv, VM.opMod, VM.opPow, VM.opCm, VM.opEq, VM.frz, VM.isD, VM.eqv, VM.isNon, VM.kdOf, VM.D0, VM.turn, List.map_cons, List.map_nil, List.replicate_succ, List.replicate_zero, List.cons_append, List.nil_append, List.getElem?_cons_zero, List.getElem?_cons_succ, List.set_cons_zero, List.set_cons_succ, Nat.reduceSub, VM.wipe, List.length_cons, List.length_nil, Nat.reduceAdd, x1, x2]
    refine ⟨trivial, trivial, ?_⟩
    by_cases z : nth r at_ = 0
    · simpa [z] using hk'
    · simpa [z] using hk'
  rw [fm_filter]
  have c0 := filter_nz at_ rows w e hl hb
  refine while_meas (fun m ρ st' => st' = st ∧ ∃ (a3 a5 a6 a7 a8 : Option PV) (left rest : List Vec), ρ = [some (rl rows), some (.int at_), some (rl left), a3, some (rl rest), a5, a6, a7, a8] ∧ Cl w at_ e rows left rest ∧ (1 < left.length → ∃ r ∈ left, (nth r at_).natAbs ≤ m) ∧ Few at_ rows left rest) ?_ (2 ^ e) _ _ ⟨rfl, _, _, _, _, _, _, _, rfl, c0, fun h => ?_, .inr ⟨rfl, rfl⟩⟩
  · rintro m ρ st' ⟨rfl, a3, a5, a6, a7, a8, left, rest, rfl, c, hm, few⟩ D' d1 d2 d3 d4 d5
    have few2 : 1 < left.length → 1 < (fnz at_ rows).length := fun h => by
      rcases few with f | ⟨f, _⟩
      · exact f
      · rw [← f]; exact h
    simp only [VM.sNil, VM.sCons, VM.sSet, VM.sPar, VM.sSetIx, VM.setIx, VM.sExpr, VM.sRet, VM.sRetN, VM.sIf, VM.sBreak, VM.sCont, VM.sFor, VM.gName, VM.gTup, VM.gEach, VM.eVar, VM.eC, VM.eBin, VM.eNeg, VM.eCmp, VM.eChain, VM.tOf, VM.tCmp, VM.tChain, VM.tAnd, VM.tOr, VM.tNot, VM.tYes, VM.eTest, VM.eAnd, VM.eOr, VM.eNot, VM.eIf, VM.aNil, VM.aCons, VM.eLst, VM.eLstM, VM.eTup, VM.eCall, VM.eIx, VM.getIx, VM.eSl, VM.getSl, VM.iE, VM.iRange1, VM.iRange2, VM.iZip, VM.iRev, VM.eComp, VM.eCompM, VM.eAppend, VM.eInsert, VM.eB1, VM.fLen, VM.fAbs, VM.fInt, VM.fList, VM.fListM, VM.fTuple, VM.fSum, VM.fAll, VM.fAny, VM.fIsi, VM.bLen, VM.seqOf, VM.sq, VM.asL, VM.items, VM.isSeq, VM.truth, VM.opBin, VM.opAdd, VM.opSub, VM.opMul, VM.opFdiv, VM.opMod, VM.opPow, VM.opCm, VM.opEq, VM.frz, VM.isD, VM.eqv, VM.isNon, VM.kdOf, VM.D0, VM.turn, List.map_cons, List.map_nil, List.replicate_succ, List.replicate_zero, List.cons_append, List.nil_append, List.getElem?_cons_zero, List.getElem?_cons_succ, List.set_cons_zero, List.set_cons_succ, Nat.reduceSub, VM.wipe, List.length_cons, List.length_nil, Nat.reduceAdd, List.length_map]
    by_cases h : 1 < left.length
    · have h' : (1 : Int) < (left.length : Int) := by omega
      simp only [h', decide_true, if_true]
      refine cl_turn mn hl hat hw hrl hs c h fun head late rest' b3 b5 b6 b7 b8 hm1 hm2 I => ?_
      obtain ⟨r0, mr0, er0⟩ := hm h
      have := hm2 r0 mr0
      have nz := c.nz head hm1
      by_cases h2 : 1 < late.length
      · obtain ⟨r, mr, er⟩ := I.less c hm1 h2
        exact d4 (nth r at_).natAbs _ _ (by omega) ⟨rfl, _, _, _, _, _, late, rest', rfl, c.step hl hm1 hm2 I, (fun _ => ⟨r, mr, Nat.le_refl _⟩), .inl (few2 h)⟩
      · exact d4 0 _ _ (by omega) ⟨rfl, _, _, _, _, _, late, rest', rfl, c.step hl hm1 hm2 I, (fun h3 => (h2 h3).elim), .inl (few2 h)⟩
    · have h' : ¬ (1 : Int) < (left.length : Int) := by omega
      simp only [h', decide_false, Bool.false_eq_true, if_false]
      exact ⟨by decide, hk left rest ⟨c, by omega, few⟩⟩
  · cases hf : rows.filter fun r => !decide (nth r at_ = 0) with
    | nil => rw [hf] at h; simp at h
    | cons r l =>
      have mr : r ∈ rows.filter fun r => !decide (nth r at_ = 0) := by rw [hf]; exact List.mem_cons_self ..
      exact ⟨r, List.mem_cons_self .., Nat.le_of_lt ((hb r (List.mem_filter.mp mr).1).nth at_)⟩
end VP
end
section
namespace VP
open VM
def Sm : Nat → PV → Prop
  | _, .non => True
  | _, .bl _ => True
  | _, .int _ => True
  | _, .str _ => True
  | n + 1, .lst xs => xs.length ≤ SZ ∧ ∀ x ∈ xs, Sm n x
  | n + 1, .tup xs => xs.length ≤ SZ ∧ ∀ x ∈ xs, Sm n x
  | _, _ => False
def SpSame (n : Nat) (cs : CS) : Prop := ∀ (y : PV) (st : Store) (k x : KV), Sm n y → k (.bl true) st → cs 16 [y, y] st k x
theorem all_true (n : Nat) : allBl (List.replicate n (PV.bl true)) = some (List.replicate n true) := by
  induction n with
  | zero => rfl
  | succ n ih => rw [List.replicate_succ, allBl, ih]; rfl
theorem all_true2 (n : Nat) : (List.replicate n true).all id = true := by
  induction n with
  | zero => rfl
  | succ n ih => rw [List.replicate_succ, List.all_cons, ih]; rfl
theorem zip_self (xs : List PV) : List.zipWith (fun x y => PV.tup [x, y]) xs xs = xs.map fun x => PV.tup [x, x] := by
  induction xs with
  | nil => rfl
  | cons x xs ih => simp [ih]
theorem same_at {FT : Nat → Option FD} (hF : FT 16 = some ⟨2, 4, T__law_same⟩) : ∀ n, At FT (n + 1) (SpSame n) := by
  intro n
  induction n with
  | zero =>
    refine at_of (C := fun _ => True) hF (fun _ _ => trivial) fun cs cs' _ go => ?_
    intro y st k x hy hk
    refine go _ _ _ _ rfl ?_
    cases y <;> first | (exact hy.elim) | (simp [T__law_same, VM.sNil, VM.sCons, VM.sSet, VM.sPar, VM.sSetIx, VM.setIx, VM.sExpr, VM.sRet, VM.sRetN, VM.sIf, VM.sBreak, VM.sCont, VM.sFor, VM.gName, VM.gTup, VM.gEach, VM.eVar, VM.eC, VM.eBin, VM.eNeg, VM.eCmp, VM.eChain, VM.tOf, VM.tCmp, VM.tChain, VM.tAnd, VM.tOr, VM.tNot, VM.tYes, VM.eTest, VM.eAnd, VM.eOr, VM.eNot, VM.eIf, VM.aNil, VM.aCons, VM.eLst, VM.eLstM, VM.eTup, VM.eCall, VM.eIx, VM.getIx, VM.eSl, VM.getSl, VM.iE, VM.iRange1, VM.iRange2, VM.iZip, VM.iRev, VM.eComp, VM.eCompM, VM.eAppend, VM.eInsert, VM.eB1, VM.fLen, VM.fAbs, VM.fInt, VM.fList, VM.fListM, VM.fTuple, VM.fSum, VM.fAll, VM.fAny, VM.fIsi, VM.bLen, VM.seqOf, VM.sq, VM.asL, VM.items, VM.isSeq, VM.truth, VM.opBin, VM.opAdd, VM.opSub, VM.opMul, VM.opFdiv, VM.opMod, VM.opPow, VM.opCm, VM.opEq, VM.frz, VM.isD, VM.eqv, VM.isNon, VM.kdOf, VM.D0, VM.turn, List.map_cons, List.map_nil, List.replicate_succ, List.replicate_zero, List.cons_append, List.nil_append, List.getElem?_cons_zero, List.getElem?_cons_succ, List.set_cons_zero, List.set_cons_succ, Nat.reduceSub, VM.wipe, List.length_cons, List.length_nil, Nat.reduceAdd, kdIs]; exact hk)
  | succ n ih =>
    refine at_of hF ih fun cs cs' ih go => ?_
    intro y st k x hy hk
    refine go _ _ _ _ rfl ?_
    cases y <;> first | (exact hy.elim) | (simp [T__law_same, VM.sNil, VM.sCons, VM.sSet, VM.sPar, VM.sSetIx, VM.setIx, VM.sExpr, VM.sRet, VM.sRetN, VM.sIf, VM.sBreak, VM.sCont, VM.sFor, VM.gName, VM.gTup, VM.gEach, VM.eVar, VM.eC, VM.eBin, VM.eNeg, VM.eCmp, VM.eChain, VM.tOf, VM.tCmp, VM.tChain, VM.tAnd, VM.tOr, VM.tNot, VM.tYes, VM.eTest, VM.eAnd, VM.eOr, VM.eNot, VM.eIf, VM.aNil, VM.aCons, VM.eLst, VM.eLstM, VM.eTup, VM.eCall, VM.eIx, VM.getIx, VM.eSl, VM.getSl, VM.iE, VM.iRange1, VM.iRange2, VM.iZip, VM.iRev, VM.eComp, VM.eCompM, VM.eAppend, VM.eInsert, VM.eB1, VM.fLen, VM.fAbs, VM.fInt, VM.fList, VM.fListM, VM.fTuple, VM.fSum, VM.fAll, VM.fAny, VM.fIsi, VM.bLen, VM.seqOf, VM.sq, VM.asL, VM.items, VM.isSeq, VM.truth, VM.opBin, VM.opAdd, VM.opSub, VM.opMul, VM.opFdiv, VM.opMod, VM.opPow, VM.opCm, VM.opEq, VM.frz, VM.isD, VM.eqv, VM.isNon, VM.kdOf, VM.D0, VM.turn, List.map_cons, List.map_nil, List.replicate_succ, List.replicate_zero, List.cons_append, List.nil_append, List.getElem?_cons_zero, List.getElem?_cons_succ, List.set_cons_zero, List.set_cons_succ, Nat.reduceSub, VM.wipe, List.length_cons, List.length_nil, Nat.reduceAdd, kdIs]; exact hk) | skip
    · rename_i xs
      obtain ⟨h1, h2⟩ := hy
      have fin : compGo (gTup [gName 2, gName 3]) tYes (eCall cs 16 (aCons (eVar 2) (aCons (eVar 3) aNil))) [2, 3] (fun st' => stays st (.tup xs) st' ∧ stays st (.tup xs) st') (List.zipWith (fun x y => PV.tup [x, y]) xs xs) [] [some (.tup xs), some (.tup xs), none, none] st
          (fun ys st => match allBl ys with | some bs => k (.bl (bs.all id)) st | none => False) := by
        rw [zip_self]
        refine comp_of (fun z => PV.tup [z, z]) (fun _ => some (.bl true)) ⟨trivial, trivial⟩ xs (fun z hz k' hk' => ?_) h1 ?_
        · simp only [VM.sNil, VM.sCons, VM.sSet, VM.sPar, VM.sSetIx, VM.setIx, VM.sExpr, VM.sRet, VM.sRetN, VM.sIf, VM.sBreak, VM.sCont, VM.sFor, VM.gName, VM.gTup, VM.gEach, VM.eVar, VM.eC, VM.eBin, VM.eNeg, VM.eCmp, VM.eChain, VM.tOf, VM.tCmp, VM.tChain, VM.tAnd, VM.tOr, VM.tNot, VM.tYes, VM.eTest, VM.eAnd, VM.eOr, VM.eNot, VM.eIf, VM.aNil, VM.aCons, VM.eLst, VM.eLstM, VM.eTup, VM.eCall, VM.eIx, VM.getIx, VM.eSl, VM.getSl, VM.iE, VM.iRange1, VM.iRange2, VM.iZip, VM.iRev, VM.eComp, VM.eCompM, VM.eAppend, VM.eInsert, VM.eB1, VM.fLen, VM.fAbs, VM.fInt, VM.fList, VM.fListM, VM.fTuple, VM.fSum, VM.fAll, VM.fAny, VM.fIsi, VM.bLen, VM.seqOf, VM.sq, VM.asL, VM.items, VM.isSeq, VM.truth, VM.opBin, VM.opAdd, VM.opSub, VM.opMul, VM.opFdiv, VM.opMod, VM.opPow, VM.opCm, VM.opEq, VM.frz, VM.isD, VM.eqv, VM.isNon, VM.kdOf, VM.D0, VM.turn, List.map_cons, List.map_nil, List.replicate_succ, List.replicate_zero, List.cons_append, List.nil_append, List.getElem?_cons_zero, List.getElem?_cons_succ, List.set_cons_zero, List.set_cons_succ, Nat.reduceSub, VM.wipe, List.length_cons, List.length_nil, Nat.reduceAdd, if_true]
          exact ⟨trivial, ih z st _ _ (h2 z hz) hk'⟩
        · have e : xs.filterMap (fun _ => some (PV.bl true)) = List.replicate xs.length (.bl true) := by
            rw [show (fun _ : PV => some (PV.bl true)) = some ∘ (fun _ => PV.bl true) from rfl, List.filterMap_eq_map, List.map_const']
          rw [e, all_true]
          show k _ _
          rw [all_true2]
          exact hk
      simp only [and_self, zip_self] at fin
      simp [T__law_same, VM.sNil, VM.sCons, VM.sSet, VM.sPar, VM.sSetIx, VM.setIx, VM.sExpr, VM.sRet, VM.sRetN, VM.sIf, VM.sBreak, VM.sCont, VM.sFor, VM.gName, VM.gTup, VM.gEach, VM.eVar, VM.eC, VM.eBin, VM.eNeg, VM.eCmp, VM.eChain, VM.tOf, VM.tCmp, VM.tChain, VM.tAnd, VM.tOr, VM.tNot, VM.tYes, VM.eTest, VM.eAnd, VM.eOr, VM.eNot, VM.eIf, VM.aNil, VM.aCons, VM.eLst, VM.eLstM, VM.eTup, VM.eCall, VM.eIx, VM.getIx, VM.eSl, VM.getSl, VM.iE, VM.iRange1, VM.iRange2, VM.iZip, VM.iRev, VM.eComp, VM.eCompM, VM.eAppend, VM.eInsert, VM.eB1, VM.fLen, VM.fAbs, VM.fInt, VM.fList, VM.fListM, VM.fTuple, VM.fSum, VM.fAll, VM.fAny, VM.fIsi, VM.bLen, VM.seqOf, VM.sq, VM.asL, VM.items, VM.isSeq, VM.truth, VM.opBin, VM.opAdd, VM.opSub, VM.opMul, VM.opFdiv, VM.opMod, VM.opPow, VM.opCm, VM.opEq, VM.frz, VM.isD, VM.eqv, VM.isNon, VM.kdOf, VM.D0, VM.turn, List.map_cons, List.map_nil, List.replicate_succ, List.replicate_zero, List.cons_append, List.nil_append, List.getElem?_cons_zero, List.getElem?_cons_succ, List.set_cons_zero, List.set_cons_succ, Nat.reduceSub, VM.wipe, List.length_cons, List.length_nil, Nat.reduceAdd, kdIs, zip_self]
      exact fin
    · rename_i xs
      obtain ⟨h1, h2⟩ := hy
      have fin : compGo (gTup [gName 2, gName 3]) tYes (eCall cs 16 (aCons (eVar 2) (aCons (eVar 3) aNil))) [2, 3] (fun st' => stays st (.lst xs) st' ∧ stays st (.lst xs) st') (List.zipWith (fun x y => PV.tup [x, y]) xs xs) [] [some (.lst xs), some (.lst xs), none, none] st
          (fun ys st => match allBl ys with | some bs => k (.bl (bs.all id)) st | none => False) := by
        rw [zip_self]
        refine comp_of (fun z => PV.tup [z, z]) (fun _ => some (.bl true)) ⟨trivial, trivial⟩ xs (fun z hz k' hk' => ?_) h1 ?_
        · simp only [VM.sNil, VM.sCons, VM.sSet, VM.sPar, VM.sSetIx, VM.setIx, VM.sExpr, VM.sRet, VM.sRetN, VM.sIf, VM.sBreak, VM.sCont, VM.sFor, VM.gName, VM.gTup, VM.gEach, VM.eVar, VM.eC, VM.eBin, VM.eNeg, VM.eCmp, VM.eChain, VM.tOf, VM.tCmp, VM.tChain, VM.tAnd, VM.tOr, VM.tNot, VM.tYes, VM.eTest, VM.eAnd, VM.eOr, VM.eNot, VM.eIf, VM.aNil, VM.aCons, VM.eLst, VM.eLstM, VM.eTup, VM.eCall, VM.eIx, VM.getIx, VM.eSl, VM.getSl, VM.iE, VM.iRange1, VM.iRange2, VM.iZip, VM.iRev, VM.eComp, VM.eCompM, VM.eAppend, VM.eInsert, VM.eB1, VM.fLen, VM.fAbs, VM.fInt, VM.fList, VM.fListM, VM.fTuple, VM.fSum, VM.fAll, VM.fAny, VM.fIsi, VM.bLen, VM.seqOf, VM.sq, VM.asL, VM.items, VM.isSeq, VM.truth, VM.opBin, VM.opAdd, VM.opSub, VM.opMul, VM.opFdiv, VM.opMod, VM.opPow, VM.opCm, VM.opEq, VM.frz, VM.isD, VM.eqv, VM.isNon, VM.kdOf, VM.D0, VM.turn, List.map_cons, List.map_nil, List.replicate_succ, List.replicate_zero, List.cons_append, List.nil_append, List.getElem?_cons_zero, List.getElem?_cons_succ, List.set_cons_zero, List.set_cons_succ, Nat.reduceSub, VM.wipe, List.length_cons, List.length_nil, Nat.reduceAdd, if_true]
          exact ⟨trivial, ih z st _ _ (h2 z hz) hk'⟩
        · have e : xs.filterMap (fun _ => some (PV.bl true)) = List.replicate xs.length (.bl true) := by
            rw [show (fun _ : PV => some (PV.bl true)) = some ∘ (fun _ => PV.bl true) from rfl, List.filterMap_eq_map, List.map_const']
          rw [e, all_true]
          show k _ _
          rw [all_true2]
          exact hk
      simp only [and_self, zip_self] at fin
      simp [T__law_same, VM.sNil, VM.sCons, VM.sSet, VM.sPar, VM.sSetIx, VM.setIx, VM.sExpr, VM.sRet, VM.sRetN, VM.sIf, VM.sBreak, VM.sCont, VM.sFor, VM.gName, VM.gTup, VM.gEach, VM.eVar, VM.eC, VM.eBin, VM.eNeg, VM.eCmp, VM.eChain, VM.tOf, VM.tCmp, VM.tChain, VM.tAnd, VM.tOr, VM.tNot, VM.tYes, VM.eTest, VM.eAnd, VM.eOr, VM.eNot, VM.eIf, VM.aNil, VM.aCons, VM.eLst, VM.eLstM, VM.eTup, VM.eCall, VM.eIx, VM.getIx, VM.eSl, VM.getSl, VM.iE, VM.iRange1, VM.iRange2, VM.iZip, VM.iRev, VM.eComp, VM.eCompM, VM.eAppend, VM.eInsert, VM.eB1, VM.fLen, VM.fAbs, VM.fInt, VM.fList, VM.fListM, VM.fTuple, VM.fSum, VM.fAll, VM.fAny, VM.fIsi, VM.bLen, VM.seqOf, VM.sq, VM.asL, VM.items, VM.isSeq, VM.truth, VM.opBin, VM.opAdd, VM.opSub, VM.opMul, VM.opFdiv, VM.opMod, VM.opPow, VM.opCm, VM.opEq, VM.frz, VM.isD, VM.eqv, VM.isNon, VM.kdOf, VM.D0, VM.turn, List.map_cons, List.map_nil, List.replicate_succ, List.replicate_zero, List.cons_append, List.nil_append, List.getElem?_cons_zero, List.getElem?_cons_succ, List.set_cons_zero, List.set_cons_succ, Nat.reduceSub, VM.wipe, List.length_cons, List.length_nil, Nat.reduceAdd, kdIs, zip_self]
      exact fin
end VP
end
section
namespace VP
open VM
/-- p over q, in lowest terms, is a over b -/
structure ShOf (n : Nat) (p q a b : Int) : Prop where
  cr : p * b = a * q
  q1 : 1 ≤ q
  b1 : 1 ≤ b
  g : Int.gcd p q = 1
  sp : p.natAbs < 2 ^ n
  sq : q.natAbs < 2 ^ n
theorem ShOf.of {n : Nat} {t b : Int} (hb : 1 ≤ b) (h1 : t.natAbs < 2 ^ n) (h2 : b.natAbs < 2 ^ n) : ShOf n (t.fdiv (Int.gcd t b)) (b.fdiv (Int.gcd t b)) t b := by
  have g0 : 0 < Int.gcd t b := Int.gcd_pos_of_ne_zero_right _ (by omega)
  rw [Int.fdiv_eq_ediv_of_nonneg _ (by omega), Int.fdiv_eq_ediv_of_nonneg _ (by omega)]
  have gg := Int.gcd_ediv_gcd_ediv_gcd g0
  have d1 : t / (Int.gcd t b : Int) * (Int.gcd t b : Int) = t := Int.ediv_mul_cancel (Int.gcd_dvd_left t b)
  have d2 : b / (Int.gcd t b : Int) * (Int.gcd t b : Int) = b := Int.ediv_mul_cancel (Int.gcd_dvd_right t b)
  revert gg d1 d2
  generalize hg : (Int.gcd t b : Int) = g
  have g1 : 1 ≤ g := by omega
  generalize t / g = p
  generalize b / g = q
  intro gg d1 d2
  have np : p.natAbs ≤ t.natAbs := by
    rw [← d1, Int.natAbs_mul]
    exact Nat.le_mul_of_pos_right _ (by omega)
  have nq : q.natAbs ≤ b.natAbs := by
    rw [← d2, Int.natAbs_mul]
    exact Nat.le_mul_of_pos_right _ (by omega)
  refine ⟨?_, ?_, hb, gg, by omega, by omega⟩
  · rw [← d2]
    conv => rhs; rw [← d1]
    grind
  · rcases Int.lt_or_le q 1 with h | h
    · have := Int.mul_le_mul_of_nonneg_right (show q ≤ 0 by omega) (show 0 ≤ g by omega)
      omega
    · exact h
theorem ShOf.to {n : Nat} {p q a b c d : Int} (h : ShOf n p q a b) (hd : 1 ≤ d) (e : a * d = c * b) : ShOf n p q c d := by
  refine ⟨?_, h.q1, hd, h.g, h.sp, h.sq⟩
  have h1 := h.cr
  have hb : b ≠ 0 := by have := h.b1; omega
  apply Int.eq_of_mul_eq_mul_right hb
  grind
theorem ShOf.mono {n m : Nat} {p q a b : Int} (h : ShOf n p q a b) (hm : n ≤ m) : ShOf m p q a b :=
  ⟨h.cr, h.q1, h.b1, h.g, Nat.lt_of_lt_of_le h.sp (Nat.pow_le_pow_right (by decide) hm), Nat.lt_of_lt_of_le h.sq (Nat.pow_le_pow_right (by decide) hm)⟩
theorem dvd1 {p q r : Int} (h : q ∣ p * r) (g : Int.gcd p q = 1) : q ∣ r := by
  have e := Int.dvd_gcd_mul_iff_dvd_mul (k := q) (n := p) (m := r)
  rw [Int.gcd_comm, g] at e
  simpa using e.mpr h
/-- the terms are no more than one way -/
theorem ShOf.eq_iff {n m : Nat} {p q a b p' q' c d : Int} (h : ShOf n p q a b) (h' : ShOf m p' q' c d) : (p = p' ∧ q = q') ↔ a * d = c * b := by
  have h1 := h.cr
  have h2 := h'.cr
  have q1 := h.q1
  have q2 := h'.q1
  have b1 := h.b1
  have d1 := h'.b1
  constructor
  · rintro ⟨rfl, rfl⟩
    apply Int.eq_of_mul_eq_mul_right (show q ≠ 0 by omega)
    grind
  · intro e
    have x : p * q' = p' * q := by
      apply Int.eq_of_mul_eq_mul_right (show b * d ≠ 0 from Int.mul_ne_zero (by omega) (by omega))
      have e1 : p * q' * (b * d) = (p * b) * (q' * d) := by grind
      have e2 : p' * q * (b * d) = (p' * d) * (q * b) := by grind
      rw [e1, e2, h1, h2]
      grind
    have d1 : q ∣ q' := by
      have : q ∣ p * q' := ⟨p', by grind⟩
      exact dvd1 this h.g
    have d2 : q' ∣ q := by
      have : q' ∣ p' * q := ⟨p, by grind⟩
      exact dvd1 this h'.g
    have eq : q = q' := Int.le_antisymm (Int.le_of_dvd (by omega) d1) (Int.le_of_dvd (by omega) d2)
    refine ⟨?_, eq⟩
    rw [← eq] at x
    exact Int.eq_of_mul_eq_mul_right (show q ≠ 0 by omega) x
theorem ShOf.int {p q a b i : Int} {n : Nat} (h : ShOf n p q a b) : (q = 1 ∧ p = i) ↔ a = i * b := by
  have e := h.eq_iff (ShOf.of (n := i.natAbs + 1) (t := i) (b := 1) (by decide) (by
    have := Nat.lt_two_pow_self (n := i.natAbs + 1)
    omega) (by
    have := Nat.lt_two_pow_self (n := i.natAbs + 1)
    show 1 < _
    omega))
  have g1 : Int.gcd i 1 = 1 := Int.gcd_one_right i
  rw [g1] at e
  rw [show i.fdiv ((1 : Nat) : Int) = i from Int.fdiv_one i, show (1 : Int).fdiv ((1 : Nat) : Int) = 1 from rfl, Int.mul_one] at e
  rw [← e]
  exact And.comm
theorem sz_mul {n m : Nat} {i j : Int} (hi : i.natAbs < 2 ^ n) (hj : j.natAbs < 2 ^ m) : (i * j).natAbs < 2 ^ (n + m) := by
  rw [Int.natAbs_mul, Nat.pow_add]
  exact Nat.mul_lt_mul_of_lt_of_lt hi hj
theorem sz_add {n : Nat} {i j : Int} (hi : i.natAbs < 2 ^ n) (hj : j.natAbs < 2 ^ n) : (i + j).natAbs < 2 ^ (n + 1) := by
  rw [Nat.pow_succ]
  omega
theorem sz_sub {n : Nat} {i j : Int} (hi : i.natAbs < 2 ^ n) (hj : j.natAbs < 2 ^ n) : (i - j).natAbs < 2 ^ (n + 1) := by
  rw [Nat.pow_succ]
  omega
theorem sz_neg {n : Nat} {i : Int} (hi : i.natAbs < 2 ^ n) : (-i).natAbs < 2 ^ n := by omega
theorem sz_mono {n m : Nat} {i : Int} (hi : i.natAbs < 2 ^ n) (h : n ≤ m) : i.natAbs < 2 ^ m := Nat.lt_of_lt_of_le hi (Nat.pow_le_pow_right (by decide) h)
theorem mo {n m : Nat} {i j : Int} (hi : i.natAbs < 2 ^ n) (hj : j.natAbs < 2 ^ m) (h : n + m ≤ 1000000) : MulOk i j :=
  mulOk_of (a := n + 1) (b := m + 1) (sz_mono hi (by omega)) (sz_mono hj (by omega)) (by omega) (by omega) (by omega)
abbrev shv (p q : Int) : PV := .obj 0 [85, 69] [.int p, .int q]
def isI : PV → Bool
  | .int _ => true
  | _ => false
def SpWh (cs : CS) : Prop := ∀ (v : PV) (st : Store) (k x : KV), isFlat v = true → k (.bl (isI v)) st → cs 27 [v] st k x
theorem wh_at {FT : Nat → Option FD} (hF : FT 27 = some ⟨1, 1, T_is_whole_number⟩) : At FT 1 SpWh := at_of (C := fun _ => True) hF (fun _ _ => trivial) fun cs cs' _ go => by
  intro v st k x hv hk
  refine go _ _ _ _ rfl ?_
  cases v <;> first | (cases hv; done) | (simp [T_is_whole_number, VM.sNil, VM.sCons, VM.sSet, VM.sPar, VM.sSetIx, VM.setIx, VM.sExpr, VM.sRet, VM.sRetN, VM.sIf, VM.sBreak, VM.sCont, VM.sFor, VM.gName, VM.gTup, VM.gEach, VM.eVar, VM.eC, VM.eBin, VM.eNeg, VM.eCmp, VM.eChain, VM.tOf, VM.tCmp, VM.tChain, VM.tAnd, VM.tOr, VM.tNot, VM.tYes, VM.eTest, VM.eAnd, VM.eOr, VM.eNot, VM.eIf, VM.aNil, VM.aCons, VM.eLst, VM.eLstM, VM.eTup, VM.eCall, VM.eIx, VM.getIx, VM.eSl, VM.getSl, VM.iE, VM.iRange1, VM.iRange2, VM.iZip, VM.iRev, VM.eComp, VM.eCompM, VM.eAppend, VM.eInsert, VM.eB1, VM.fLen, VM.fAbs, VM.fInt, VM.fList, VM.fListM, VM.fTuple, VM.fSum, VM.fAll, VM.fAny, VM.fIsi, VM.bLen, VM.seqOf, VM.sq, VM.asL, VM.items, VM.isSeq, VM.truth, VM.opBin, VM.opAdd, VM.opSub, VM.opMul, VM.opFdiv, VM.opMod, VM.opPow, VM.opCm, VM.opEq, VM.frz, VM.isD, VM.eqv, VM.isNon, VM.kdOf, VM.D0, VM.turn, List.map_cons, List.map_nil, List.replicate_succ, List.replicate_zero, List.cons_append, List.nil_append, List.getElem?_cons_zero, List.getElem?_cons_succ, List.set_cons_zero, List.set_cons_succ, Nat.reduceSub, VM.wipe, List.length_cons, List.length_nil, Nat.reduceAdd, kdIs, fIsi, eB1, isI] at hk ⊢; exact hk)
def SpInit (cs : CS) : Prop := ∀ (t b : Int) (st : Store) (i : Nat) (k x : KV), st[i]? = some (.ins 0 [] []) → 1 ≤ b → k .non (st.set i (.ins 0 [85, 69] [.int (t.fdiv (Int.gcd t b)), .int (b.fdiv (Int.gcd t b))])) → cs 28 [.ref i, .int t, .int b] st k x
theorem init_at {FT : Nat → Option FD} {d : Nat} (hF : FT 28 = some ⟨3, 4, T_Share___init__⟩) (h : At FT d SpWh) : At FT (d + 1) SpInit := at_of hF h fun cs cs' W go => by
  intro t b st i k x hi hb hk
  refine go _ _ _ _ rfl ?_
  have g0 : 0 < Int.gcd t b := Int.gcd_pos_of_ne_zero_right _ (by omega)
  have il : i < st.length := by
    cases e : st[i]? with
    | none => rw [e] at hi; cases hi
    | some o => exact (List.getElem?_eq_some_iff.mp e).1
  have b1 : decide (b < 1) = false := by simpa using hb
  simp only [T_Share___init__, sCons, sIf, tNot, tOf, eCall, aCons, aNil, eVar, List.map_cons, List.map_nil, List.replicate_succ, List.replicate_zero, List.cons_append, List.nil_append, Nat.reduceSub, List.getElem?_cons_zero, List.getElem?_cons_succ]
  refine W _ _ _ _ rfl ?_
  simp only [isI, truth, Bool.not_true, Bool.false_eq_true, if_false, sNil, tOr, tNot, tOf, eCall, aCons, aNil, eVar, List.getElem?_cons_zero, List.getElem?_cons_succ]
  refine W _ _ _ _ rfl ?_
  simp only [isI, truth, Bool.not_true, Bool.false_eq_true, if_false, sNil, tCmp, eVar, eC, List.getElem?_cons_zero, List.getElem?_cons_succ, opCm, b1, sSet, eGcd, gName, List.set_cons_zero, List.set_cons_succ, sSetFld, eBin, opBin, opFdiv]
  refine ⟨by unfold DivOk; omega, ?_⟩
  simp only [eVar, List.set_cons_zero, List.set_cons_succ, List.getElem?_cons_zero, List.getElem?_cons_succ]
  rw [hi]
  refine ⟨rfl, by decide, ?_⟩
  simp only [sSetFld, eBin, eVar, List.getElem?_cons_zero, List.getElem?_cons_succ, opBin, opFdiv, List.set_cons_zero, List.set_cons_succ]
  refine ⟨by unfold DivOk; omega, ?_⟩
  try simp only [eVar, List.set_cons_zero, List.set_cons_succ, List.getElem?_cons_zero, List.getElem?_cons_succ]
  rw [set_self hi]
  refine ⟨rfl, by decide, ?_⟩
  rw [List.set_set]
  exact hk
theorem new_k {cs : CS} (I : SpInit cs) {n : Nat} {t b : Int} {st : Store} {k x : KV} (hb : 1 ≤ b) (h1 : t.natAbs < 2 ^ n) (h2 : b.natAbs < 2 ^ n) (hk : ∀ p q, ShOf n p q t b → k (shv p q) (st ++ [.dead])) :
    cs 28 [.ref st.length, .int t, .int b] (st ++ [.ins 0 [] []]) (fun v st' => isNon v = true ∧ match st'[st.length]? with
      | some (.ins c' ks vs) => k (.obj c' ks vs) (st'.set st.length .dead)
      | _ => False) x := by
  refine I t b _ _ _ _ (by simp) hb ⟨rfl, ?_⟩
  have e : ∀ o o' : SO, (st ++ [o]).set st.length o' = st ++ [o'] := fun o o' => by simp
  have e2 : ∀ o : SO, (st ++ [o])[st.length]? = some o := fun o => by simp
  rw [e, e2]
  show k _ _
  rw [e]
  exact hk _ _ (ShOf.of hb h1 h2)
theorem new_e {cs : CS} (I : SpInit cs) {n : Nat} {t b : Int} {T : TA} {ρ : Env} {st : Store} {k x : KV} (hT : ∀ (k : List PV → Store → Prop), k [.int t, .int b] st → T ρ st k x) (hb : 1 ≤ b) (h1 : t.natAbs < 2 ^ n) (h2 : b.natAbs < 2 ^ n) (hk : ∀ p q, ShOf n p q t b → k (shv p q) (st ++ [.dead])) : eNew cs 0 28 T ρ st k x := hT _ (new_k I hb h1 h2 hk)
structure CsS (cs : CS) : Prop where
  wh : SpWh cs
  ini : SpInit cs
/-- an operator on two shares -/
def SpSS (f : Nat) (F : Int → Int → Int → Int → Int) (cs : CS) : Prop := ∀ (n : Nat) (p q a b p' q' c d : Int) (st : Store) (k x : KV), n ≤ 1000 → ShOf n p q a b → ShOf n p' q' c d → (∀ r s, ShOf (n + n + 1) r s (F a b c d) (b * d) → k (shv r s) (st ++ [.dead])) → cs f [shv p q, shv p' q'] st k x
/-- an operator on a share and a whole number -/
def SpSI (f : Nat) (F : Int → Int → Int → Int) (cs : CS) : Prop := ∀ (n : Nat) (p q a b i : Int) (st : Store) (k x : KV), n ≤ 1000 → ShOf n p q a b → i.natAbs < 2 ^ n → (∀ r s, ShOf (n + n + 1) r s (F a b i) b → k (shv r s) (st ++ [.dead])) → cs f [shv p q, .int i] st k x
theorem fld85 {cs : CS} {p q : Int} {st : Store} {k x : KV} (h : k (.int p) st) : fldRun cs [] [0] 85 (shv p q) st k x := ⟨rfl, h⟩
theorem fld69 {cs : CS} {p q : Int} {st : Store} {k x : KV} (h : k (.int q) st) : fldRun cs [] [0] 69 (shv p q) st k x := ⟨rfl, h⟩
theorem fld85e {cs : CS} {p q : Int} : fldRun cs [] [0] 85 (shv p q) = fun st k x => (true = true) ∧ k (.int p) st := rfl
theorem fld69e {cs : CS} {p q : Int} : fldRun cs [] [0] 69 (shv p q) = fun st k x => (true = true) ∧ k (.int q) st := rfl
theorem isi_sh {p q : Int} {st : Store} {k : KV} (h : k (.bl true) st) : fIsiO [0] [0] (shv p q) st k := ⟨rfl, h⟩
theorem isi_int {i : Int} {st : Store} {k : KV} (h : k (.bl false) st) : fIsiO [0] [0] (.int i) st k := ⟨by simp [kdOf], h⟩
theorem pos_mul {a b : Int} (ha : 1 ≤ a) (hb : 1 ≤ b) : 1 ≤ a * b := by
  have := Int.mul_le_mul ha hb (by decide) (by omega)
  omega
end VP
end
section
namespace VP
open VM
theorem add_at {FT : Nat → Option FD} {d : Nat} (hF : FT 29 = some ⟨2, 3, T_Share___add__⟩) (h : At FT d CsS) : At FT (d + 1) (fun cs => SpSS 29 (fun a b c d => a * d + c * b) cs ∧ SpSI 29 (fun a b i => a + i * b) cs) := at_of hF h fun cs cs' C go => by
  constructor
  · intro n p q a b p' q' c d st k x hn h h' hk
    refine go _ _ _ _ rfl ?_
    have q1 := h.q1
    have q2 := h'.q1
    simp only [T_Share___add__, sCons, sIf, tOf, eB1, eVar, List.map_cons, List.map_nil, List.replicate_succ, List.replicate_zero, List.cons_append, List.nil_append, Nat.reduceSub, List.getElem?_cons_zero, List.getElem?_cons_succ]
    refine isi_sh ?_
    simp only [truth, if_true, sSet, eBin, eFld, eVar, fld85e, fld69e, List.getElem?_cons_zero, List.getElem?_cons_succ, opBin, opMul, opAdd, opSub, gName, List.set_cons_zero, List.set_cons_succ, true_and, sRet]
    refine ⟨mo h.sp h'.sq (by omega), mo h'.sp h.sq (by omega), ?_⟩
    refine new_e (t := p * q' + p' * q) (b := q * q') C.ini (fun k hk => ?_) (pos_mul q1 q2) (sz_add (sz_mul h.sp h'.sq) (sz_mul h'.sp h.sq)) (sz_mono (sz_mul h.sq h'.sq) (by omega)) fun r s hr => hk r s (hr.to (pos_mul h.b1 h'.b1) ?_)
    · simp only [aDfl, aCons, aNil, eBin, eFld, eVar, fld85e, fld69e, List.getElem?_cons_zero, List.getElem?_cons_succ, opBin, opMul, opAdd, opSub, true_and, List.append_nil]
      exact ⟨mo h.sq h'.sq (by omega), hk⟩
    · have h1 := h.cr
      have h2 := h'.cr
      grind
  · intro n p q a b i st k x hn h hi hk
    refine go _ _ _ _ rfl ?_
    have q1 := h.q1
    simp only [T_Share___add__, sCons, sIf, tOf, eB1, eCall, aCons, aNil, eVar, List.map_cons, List.map_nil, List.replicate_succ, List.replicate_zero, List.cons_append, List.nil_append, Nat.reduceSub, List.getElem?_cons_zero, List.getElem?_cons_succ]
    refine isi_int ?_
    simp only [truth, Bool.false_eq_true, if_false, sNil, sCons, sIf, tOf, eCall, aCons, aNil, eVar, List.getElem?_cons_zero, List.getElem?_cons_succ]
    refine C.wh _ _ _ _ rfl ?_
    simp only [isI, truth, if_true, sRet]
    refine new_e (t := p + i * q) (b := q) C.ini (fun k hk => ?_) q1 (sz_add (sz_mono h.sp (by omega)) (sz_mul hi h.sq)) (sz_mono h.sq (by omega)) fun r s hr => hk r s (hr.to h.b1 ?_)
    · simp only [aDfl, aCons, aNil, eBin, eFld, eVar, fld85e, fld69e, List.getElem?_cons_zero, List.getElem?_cons_succ, opBin, opMul, opAdd, opSub, true_and, List.append_nil]
      exact ⟨mo hi h.sq (by omega), hk⟩
    · have h1 := h.cr
      grind
theorem sub_at {FT : Nat → Option FD} {d : Nat} (hF : FT 34 = some ⟨2, 3, T_Share___sub__⟩) (h : At FT d CsS) : At FT (d + 1) (fun cs => SpSS 34 (fun a b c d => a * d - c * b) cs ∧ SpSI 34 (fun a b i => a - i * b) cs) := at_of hF h fun cs cs' C go => by
  constructor
  · intro n p q a b p' q' c d st k x hn h h' hk
    refine go _ _ _ _ rfl ?_
    have q1 := h.q1
    have q2 := h'.q1
    simp only [T_Share___sub__, sCons, sIf, tOf, eB1, eVar, List.map_cons, List.map_nil, List.replicate_succ, List.replicate_zero, List.cons_append, List.nil_append, Nat.reduceSub, List.getElem?_cons_zero, List.getElem?_cons_succ]
    refine isi_sh ?_
    simp only [truth, if_true, sSet, eBin, eFld, eVar, fld85e, fld69e, List.getElem?_cons_zero, List.getElem?_cons_succ, opBin, opMul, opAdd, opSub, gName, List.set_cons_zero, List.set_cons_succ, true_and, sRet]
    refine ⟨mo h.sp h'.sq (by omega), mo h'.sp h.sq (by omega), ?_⟩
    refine new_e (t := p * q' - p' * q) (b := q * q') C.ini (fun k hk => ?_) (pos_mul q1 q2) (sz_sub (sz_mul h.sp h'.sq) (sz_mul h'.sp h.sq)) (sz_mono (sz_mul h.sq h'.sq) (by omega)) fun r s hr => hk r s (hr.to (pos_mul h.b1 h'.b1) ?_)
    · simp only [aDfl, aCons, aNil, eBin, eFld, eVar, fld85e, fld69e, List.getElem?_cons_zero, List.getElem?_cons_succ, opBin, opMul, opAdd, opSub, true_and, List.append_nil]
      exact ⟨mo h.sq h'.sq (by omega), hk⟩
    · have h1 := h.cr
      have h2 := h'.cr
      grind
  · intro n p q a b i st k x hn h hi hk
    refine go _ _ _ _ rfl ?_
    have q1 := h.q1
    simp only [T_Share___sub__, sCons, sIf, tOf, eB1, eCall, aCons, aNil, eVar, List.map_cons, List.map_nil, List.replicate_succ, List.replicate_zero, List.cons_append, List.nil_append, Nat.reduceSub, List.getElem?_cons_zero, List.getElem?_cons_succ]
    refine isi_int ?_
    simp only [truth, Bool.false_eq_true, if_false, sNil, sCons, sIf, tOf, eCall, aCons, aNil, eVar, List.getElem?_cons_zero, List.getElem?_cons_succ]
    refine C.wh _ _ _ _ rfl ?_
    simp only [isI, truth, if_true, sRet]
    refine new_e (t := p - i * q) (b := q) C.ini (fun k hk => ?_) q1 (sz_sub (sz_mono h.sp (by omega)) (sz_mul hi h.sq)) (sz_mono h.sq (by omega)) fun r s hr => hk r s (hr.to h.b1 ?_)
    · simp only [aDfl, aCons, aNil, eBin, eFld, eVar, fld85e, fld69e, List.getElem?_cons_zero, List.getElem?_cons_succ, opBin, opMul, opAdd, opSub, true_and, List.append_nil]
      exact ⟨mo hi h.sq (by omega), hk⟩
    · have h1 := h.cr
      grind
theorem radd_at {FT : Nat → Option FD} {d : Nat} (hF : FT 30 = some ⟨2, 2, T_Share___radd__⟩) (h : At FT d CsS) : At FT (d + 1) (SpSI 30 (fun a b i => a + i * b)) := at_of hF h fun cs cs' C go => by
  intro n p q a b i st k x hn h hi hk
  refine go _ _ _ _ rfl ?_
  have q1 := h.q1
  simp only [T_Share___radd__, sCons, sIf, tOf, eB1, eCall, aCons, aNil, eVar, List.map_cons, List.map_nil, List.replicate_succ, List.replicate_zero, List.cons_append, List.nil_append, Nat.reduceSub, List.getElem?_cons_zero, List.getElem?_cons_succ]
  refine C.wh _ _ _ _ rfl ?_
  simp only [isI, truth, if_true, sRet]
  refine new_e (t := p + i * q) (b := q) C.ini (fun k hk => ?_) q1 (sz_add (sz_mono h.sp (by omega)) (sz_mul hi h.sq)) (sz_mono h.sq (by omega)) fun r s hr => hk r s (hr.to h.b1 ?_)
  · simp only [aDfl, aCons, aNil, eBin, eFld, eVar, fld85e, fld69e, List.getElem?_cons_zero, List.getElem?_cons_succ, opBin, opMul, opAdd, opSub, true_and, List.append_nil]
    exact ⟨mo hi h.sq (by omega), hk⟩
  · have h1 := h.cr
    grind
theorem rsub_at {FT : Nat → Option FD} {d : Nat} (hF : FT 35 = some ⟨2, 2, T_Share___rsub__⟩) (h : At FT d CsS) : At FT (d + 1) (SpSI 35 (fun a b i => i * b - a)) := at_of hF h fun cs cs' C go => by
  intro n p q a b i st k x hn h hi hk
  refine go _ _ _ _ rfl ?_
  have q1 := h.q1
  simp only [T_Share___rsub__, sCons, sIf, tOf, eB1, eCall, aCons, aNil, eVar, List.map_cons, List.map_nil, List.replicate_succ, List.replicate_zero, List.cons_append, List.nil_append, Nat.reduceSub, List.getElem?_cons_zero, List.getElem?_cons_succ]
  refine C.wh _ _ _ _ rfl ?_
  simp only [isI, truth, if_true, sRet]
  refine new_e (t := i * q - p) (b := q) C.ini (fun k hk => ?_) q1 (sz_sub (sz_mul hi h.sq) (sz_mono h.sp (by omega))) (sz_mono h.sq (by omega)) fun r s hr => hk r s (hr.to h.b1 ?_)
  · simp only [aDfl, aCons, aNil, eBin, eFld, eVar, fld85e, fld69e, List.getElem?_cons_zero, List.getElem?_cons_succ, opBin, opMul, opAdd, opSub, true_and, List.append_nil]
    exact ⟨mo hi h.sq (by omega), hk⟩
  · have h1 := h.cr
    grind
theorem rmul_at {FT : Nat → Option FD} {d : Nat} (hF : FT 37 = some ⟨2, 2, T_Share___rmul__⟩) (h : At FT d CsS) : At FT (d + 1) (SpSI 37 (fun a b i => a * i)) := at_of hF h fun cs cs' C go => by
  intro n p q a b i st k x hn h hi hk
  refine go _ _ _ _ rfl ?_
  have q1 := h.q1
  simp only [T_Share___rmul__, sCons, sIf, tOf, eB1, eCall, aCons, aNil, eVar, List.map_cons, List.map_nil, List.replicate_succ, List.replicate_zero, List.cons_append, List.nil_append, Nat.reduceSub, List.getElem?_cons_zero, List.getElem?_cons_succ]
  refine C.wh _ _ _ _ rfl ?_
  simp only [isI, truth, if_true, sRet]
  refine new_e (t := p * i) (b := q) C.ini (fun k hk => ?_) q1 (sz_mono (sz_mul h.sp hi) (by omega)) (sz_mono h.sq (by omega)) fun r s hr => hk r s (hr.to h.b1 ?_)
  · simp only [aDfl, aCons, aNil, eBin, eFld, eVar, fld85e, fld69e, List.getElem?_cons_zero, List.getElem?_cons_succ, opBin, opMul, opAdd, opSub, true_and, List.append_nil]
    exact ⟨mo h.sp hi (by omega), hk⟩
  · have h1 := h.cr
    grind
theorem mul_at {FT : Nat → Option FD} {d : Nat} (hF : FT 36 = some ⟨2, 2, T_Share___mul__⟩) (h : At FT d CsS) : At FT (d + 1) (fun cs => SpSS 36 (fun a b c d => a * c) cs ∧ SpSI 36 (fun a b i => a * i) cs) := at_of hF h fun cs cs' C go => by
  constructor
  · intro n p q a b p' q' c d st k x hn h h' hk
    refine go _ _ _ _ rfl ?_
    have q1 := h.q1
    have q2 := h'.q1
    simp only [T_Share___mul__, sCons, sIf, tOf, eB1, eVar, List.map_cons, List.map_nil, List.replicate_succ, List.replicate_zero, List.cons_append, List.nil_append, Nat.reduceSub, List.getElem?_cons_zero, List.getElem?_cons_succ]
    refine isi_sh ?_
    simp only [truth, if_true, sRet]
    refine new_e (t := p * p') (b := q * q') C.ini (fun k hk => ?_) (pos_mul q1 q2) (sz_mono (sz_mul h.sp h'.sp) (by omega)) (sz_mono (sz_mul h.sq h'.sq) (by omega)) fun r s hr => hk r s (hr.to (pos_mul h.b1 h'.b1) ?_)
    · simp only [aDfl, aCons, aNil, eBin, eFld, eVar, fld85e, fld69e, List.getElem?_cons_zero, List.getElem?_cons_succ, opBin, opMul, opAdd, opSub, true_and, List.append_nil]
      exact ⟨mo h.sp h'.sp (by omega), mo h.sq h'.sq (by omega), hk⟩
    · have h1 := h.cr
      have h2 := h'.cr
      have e1 : p * p' * (b * d) = (p * b) * (p' * d) := by grind
      rw [e1, h1, h2]
      grind
  · intro n p q a b i st k x hn h hi hk
    refine go _ _ _ _ rfl ?_
    have q1 := h.q1
    simp only [T_Share___mul__, sCons, sIf, tOf, eB1, eCall, aCons, aNil, eVar, List.map_cons, List.map_nil, List.replicate_succ, List.replicate_zero, List.cons_append, List.nil_append, Nat.reduceSub, List.getElem?_cons_zero, List.getElem?_cons_succ]
    refine isi_int ?_
    simp only [truth, Bool.false_eq_true, if_false, sNil, sCons, sIf, tOf, eCall, aCons, aNil, eVar, List.getElem?_cons_zero, List.getElem?_cons_succ]
    refine C.wh _ _ _ _ rfl ?_
    simp only [isI, truth, if_true, sRet]
    refine new_e (t := p * i) (b := q) C.ini (fun k hk => ?_) q1 (sz_mono (sz_mul h.sp hi) (by omega)) (sz_mono h.sq (by omega)) fun r s hr => hk r s (hr.to h.b1 ?_)
    · simp only [aDfl, aCons, aNil, eBin, eFld, eVar, fld85e, fld69e, List.getElem?_cons_zero, List.getElem?_cons_succ, opBin, opMul, opAdd, opSub, true_and, List.append_nil]
      exact ⟨mo h.sp hi (by omega), hk⟩
    · have h1 := h.cr
      grind
def SpNeg (cs : CS) : Prop := ∀ (n : Nat) (p q a b : Int) (st : Store) (k x : KV), n ≤ 1000 → ShOf n p q a b → (∀ r s, ShOf n r s (-a) b → k (shv r s) (st ++ [.dead])) → cs 38 [shv p q] st k x
theorem neg_at {FT : Nat → Option FD} {d : Nat} (hF : FT 38 = some ⟨1, 1, T_Share___neg__⟩) (h : At FT d CsS) : At FT (d + 1) SpNeg := at_of hF h fun cs cs' C go => by
  intro n p q a b st k x hn h hk
  refine go _ _ _ _ rfl ?_
  simp only [T_Share___neg__, sRet]
  refine new_e (t := -p) (b := q) C.ini (fun k hk => ?_) h.q1 (sz_neg h.sp) h.sq fun r s hr => hk r s (hr.to h.b1 ?_)
  · simp only [aDfl, aCons, aNil, eNeg, eFld, eVar, fld85e, fld69e, true_and, List.append_nil, List.map_cons, List.map_nil, List.replicate_succ, List.replicate_zero, List.cons_append, List.nil_append, Nat.reduceSub, List.getElem?_cons_zero, List.getElem?_cons_succ]
    exact hk
  · have h1 := h.cr
    grind
structure SpEq (cs : CS) : Prop where
  ss : ∀ (n m : Nat) (p q a b p' q' c d : Int) (st : Store) (k x : KV), ShOf n p q a b → ShOf m p' q' c d → k (.bl (decide (a * d = c * b))) st → cs 39 [shv p q, shv p' q'] st k x
  si : ∀ (n : Nat) (p q a b i : Int) (st : Store) (k x : KV), ShOf n p q a b → k (.bl (decide (a = i * b))) st → cs 39 [shv p q, .int i] st k x
  so : ∀ (p q : Int) (v : PV) (st : Store) (k x : KV), isFlat v = true → isI v = false → k (.bl false) st → cs 39 [shv p q, v] st k x
theorem eq_int {i j : Int} {st : Store} {k : Bool → Store → Prop} : opEq (.int i) (.int j) st k = (true = true ∧ true = true ∧ k (i == j) st) := rfl
theorem eq_at {FT : Nat → Option FD} {d : Nat} (hF : FT 39 = some ⟨2, 2, T_Share___eq__⟩) (h : At FT d CsS) : At FT (d + 1) SpEq := at_of hF h fun cs cs' C go => by
  refine ⟨?_, ?_, ?_⟩
  · intro n m p q a b p' q' c d st k x h h' hk
    refine go _ _ _ _ rfl ?_
    simp only [T_Share___eq__, sCons, sIf, tOf, eB1, eVar, List.map_cons, List.map_nil, List.replicate_succ, List.replicate_zero, List.cons_append, List.nil_append, Nat.reduceSub, List.getElem?_cons_zero, List.getElem?_cons_succ]
    refine isi_sh ?_
    simp only [truth, if_true, sRet, eAnd, eCmp, eFld, eVar, fld85e, fld69e, true_and, List.getElem?_cons_zero, List.getElem?_cons_succ, opCm, eq_int]
    have e := h.eq_iff h'
    by_cases hp : p = p'
    · simp only [hp, beq_self_eq_true]
      have : (q == q') = decide (a * d = c * b) := by
        rw [Bool.eq_iff_iff, beq_iff_eq, decide_eq_true_iff, ← e]
        exact ⟨fun z => ⟨hp, z⟩, fun z => z.2⟩
      rw [this]
      exact hk
    · have e0 : (p == p') = false := by simpa using hp
      simp only [e0]
      have : decide (a * d = c * b) = false := by
        rw [decide_eq_false_iff_not, ← e]
        exact fun z => hp z.1
      rw [this] at hk
      exact hk
  · intro n p q a b i st k x h hk
    refine go _ _ _ _ rfl ?_
    simp only [T_Share___eq__, sCons, sIf, tOf, eB1, eVar, List.map_cons, List.map_nil, List.replicate_succ, List.replicate_zero, List.cons_append, List.nil_append, Nat.reduceSub, List.getElem?_cons_zero, List.getElem?_cons_succ]
    refine isi_int ?_
    simp only [truth, Bool.false_eq_true, if_false, sNil, sRet, eAnd, eCall, aCons, aNil, eVar, List.getElem?_cons_zero, List.getElem?_cons_succ]
    refine C.wh _ _ _ _ rfl ?_
    simp only [isI, truth, if_true, eAnd, eCmp, eFld, eVar, eC, fld85e, fld69e, true_and, List.getElem?_cons_zero, List.getElem?_cons_succ, opCm, eq_int]
    have e := h.int (i := i)
    by_cases hq : q = 1
    · simp only [hq, beq_self_eq_true]
      have : (p == i) = decide (a = i * b) := by
        rw [Bool.eq_iff_iff, beq_iff_eq, decide_eq_true_iff, ← e]
        exact ⟨fun z => ⟨hq, z⟩, fun z => z.2⟩
      rw [this]
      exact hk
    · have e0 : (q == 1) = false := by simpa using hq
      simp only [e0]
      have : decide (a = i * b) = false := by
        rw [decide_eq_false_iff_not, ← e]
        exact fun z => hq z.1
      rw [this] at hk
      exact hk
  · intro p q v st k x hv hi hk
    refine go _ _ _ _ rfl ?_
    simp only [T_Share___eq__, sCons, sIf, tOf, eB1, eVar, List.map_cons, List.map_nil, List.replicate_succ, List.replicate_zero, List.cons_append, List.nil_append, Nat.reduceSub, List.getElem?_cons_zero, List.getElem?_cons_succ]
    have is : ∀ k : KV, k (.bl false) st → fIsiO [0] [0] v st k := fun k hk => by
      cases v <;> first | (cases hv; done) | exact ⟨by simp [kdOf], hk⟩
    refine is _ ?_
    simp only [truth, Bool.false_eq_true, if_false, sNil, sRet, eAnd, eCall, aCons, aNil, eVar, List.getElem?_cons_zero, List.getElem?_cons_succ]
    refine C.wh _ _ _ _ hv ?_
    simp only [hi, truth]
    exact hk
def SpTop (cs : CS) : Prop := ∀ (p q : Int) (st : Store) (k x : KV), k (.int p) st → cs 32 [shv p q] st k x
def SpBot (cs : CS) : Prop := ∀ (p q : Int) (st : Store) (k x : KV), k (.int q) st → cs 31 [shv p q] st k x
theorem top_at {FT : Nat → Option FD} (hF : FT 32 = some ⟨1, 1, T_Share_top⟩) : At FT 1 SpTop := at_of (C := fun _ => True) hF (fun _ _ => trivial) fun cs cs' _ go => by
  intro p q st k x hk
  refine go _ _ _ _ rfl ?_
  exact ⟨rfl, hk⟩
theorem bot_at {FT : Nat → Option FD} (hF : FT 31 = some ⟨1, 1, T_Share_bottom⟩) : At FT 1 SpBot := at_of (C := fun _ => True) hF (fun _ _ => trivial) fun cs cs' _ go => by
  intro p q st k x hk
  refine go _ _ _ _ rfl ?_
  exact ⟨rfl, hk⟩
def SpIs (cs : CS) : Prop := ∀ (n : Nat) (r s a b : Int) (st : Store) (k x : KV), n ≤ 10000 → ShOf n r s a b → a.natAbs < 2 ^ 10000 → b.natAbs < 2 ^ 10000 → k (.bl true) st → cs 33 [shv r s, .int a, .int b] st k x
theorem gcd_fmod {a b : Int} (hb : 0 < b) : Int.gcd b (a.fmod b) = Int.gcd a b := by
  rw [Int.fmod_eq_emod_of_nonneg _ (by omega)]
  have := Int.gcd_add_mul_left_right b (a % b) (a / b)
  rw [Int.emod_add_mul_ediv] at this
  rw [← this, Int.gcd_comm]
theorem gcd_zero_abs {a : Int} (h : Int.gcd a 0 = 1) : a.natAbs = 1 := by simpa using h
theorem is_at {FT : Nat → Option FD} (hF : FT 33 = some ⟨3, 5, T__law_is⟩) (h1 : At FT 1 SpTop) (h2 : At FT 1 SpBot) : At FT 2 SpIs := at_of (C := fun cs => SpTop cs ∧ SpBot cs) hF (fun n hn => ⟨h1 n hn, h2 n hn⟩) fun cs cs' C go => by
  obtain ⟨T, B⟩ := C
  have ft : ∀ {r s : Int} {st : Store} {k x : KV}, k (.int r) st → fldRun cs [(0, 32)] [] 113 (shv r s) st k x := fun h => T _ _ _ _ _ h
  have fb : ∀ {r s : Int} {st : Store} {k x : KV}, k (.int s) st → fldRun cs [(0, 31)] [] 17 (shv r s) st k x := fun h => B _ _ _ _ _ h
  intro n r s a b st k x hn h sa sb hk
  refine go _ _ _ _ rfl ?_
  have s1 := h.q1
  have d1 : decide (s < 1) = false := by simpa using s1
  simp only [T__law_is, sCons, sIf, tOr, tNot, tOf, eB1, eVar, List.map_cons, List.map_nil, List.replicate_succ, List.replicate_zero, List.cons_append, List.nil_append, Nat.reduceSub, List.getElem?_cons_zero, List.getElem?_cons_succ]
  refine isi_sh ?_
  simp only [truth, Bool.not_true, Bool.false_eq_true, if_false, tOr, tCmp, eFld, eVar, List.getElem?_cons_zero, List.getElem?_cons_succ]
  refine fb ?_
  simp only [eC, opCm, d1, Bool.false_eq_true, if_false, eBin, eFld, eVar, List.getElem?_cons_zero, List.getElem?_cons_succ]
  refine ft ?_
  simp only [opBin, opMul]
  refine ⟨mo h.sp sb (by omega), fb ?_⟩
  refine ⟨mo sa h.sq (by omega), ?_⟩
  have e0 : (r * b == a * s) = true := by rw [h.cr]; simp
  simp only [eq_int, e0, true_and, Bool.not_true, Bool.false_eq_true, if_false, sNil, sCons, sPar, aCons, aNil, eFld, eVar, List.getElem?_cons_zero, List.getElem?_cons_succ]
  refine ft (fb ?_)
  simp only [List.map_cons, List.map_nil, gEach, gName, List.set_cons_zero, List.set_cons_succ]
  refine while_meas (fun m ρ st' => st' = st ∧ ∃ u v : Int, ρ = [some (shv r s), some (.int a), some (.int b), some (.int u), some (.int v)] ∧ Int.gcd u v = 1 ∧ 0 ≤ v ∧ m = v.natAbs) ?_ s.natAbs _ _ ⟨rfl, r, s, rfl, h.g, by omega, rfl⟩
  rintro m ρ st' ⟨rfl, u, v, rfl, g, v0, rfl⟩ D' e1 e2 e3 nx ct
  simp only [tCmp, eVar, eC, List.getElem?_cons_zero, List.getElem?_cons_succ, opCm, eq_int, true_and]
  by_cases hv : v = 0
  · subst hv
    simp only [beq_self_eq_true, Bool.not_true, Bool.false_eq_true, if_false, sRet, eCmp, eB1, fAbs, eVar, eC, List.getElem?_cons_zero, List.getElem?_cons_succ, opCm, eq_int, true_and, gcd_zero_abs g]
    exact hk
  · have e0 : (v == 0) = false := by simpa using hv
    have v1 : 0 < v := by omega
    simp only [e0, Bool.not_false, if_true, sPar, aCons, aNil, eBin, eB1, fInt, eVar, List.getElem?_cons_zero, List.getElem?_cons_succ, opBin, opMod, List.map_cons, List.map_nil, gEach, gName, List.set_cons_zero, List.set_cons_succ]
    refine ⟨hv, nx (u.fmod v).natAbs _ _ ?_ ⟨rfl, v, u.fmod v, rfl, by rw [gcd_fmod v1]; exact g, Int.fmod_nonneg_of_pos _ v1, rfl⟩⟩
    have := Int.fmod_nonneg_of_pos u v1
    have := Int.fmod_lt_of_pos u v1
    omega
def SpNum (cs : CS) : Prop := ∀ (r : Nat) (st : Store), Dr cs 26 [] r 4 st fun v _ => ∃ c : Int, v = .int c ∧ c.natAbs ≤ 1000000000
theorem number_at {FT : Nat → Option FD} {d : Nat} (hF : FT 26 = some ⟨1, 1, T__law_number⟩) (h1 : At FT d SpTake) (h2 : At FT d SpOf) : At FT (d + 1) SpNum := at_of (C := fun cs => SpTake cs ∧ SpOf cs) hF (fun n hn => ⟨h1 n hn, h2 n hn⟩) fun cs cs' C go => by
  obtain ⟨tk, of⟩ := C
  intro r st b k x hb hk
  refine go _ _ _ _ rfl ?_
  simp only [T__law_number, sRet, eCall, eLst, eNeg, eBin, aCons, aNil, eVar, eC, List.map_cons, List.map_nil, List.replicate_succ, List.replicate_zero, List.cons_append, List.nil_append, Nat.reduceSub, List.getElem?_cons_zero, List.getElem?_cons_succ]
  refine tk r 41 (by decide) st (b + 3) _ _ hb fun v st1 hv hb1 k1 => ?_
  obtain ⟨d1, rfl, d10, d11⟩ := hv
  simp only [opBin, opSub, opPow]
  refine ⟨⟨by decide, by decide, by decide⟩, ?_⟩
  refine tk r ((10 : Int) ^ Int.toNat 6) (by decide) st1 (b + 2) _ _ hb1 fun v st2 hv hb2 k2 => ?_
  obtain ⟨d2, rfl, d20, d21⟩ := hv
  refine ⟨⟨by decide, by decide, by decide⟩, ?_⟩
  refine tk r ((10 : Int) ^ Int.toNat 9) (by decide) st2 (b + 1) _ _ hb2 fun v st3 hv hb3 k3 => ?_
  obtain ⟨d3, rfl, d30, d31⟩ := hv
  have e6 : (10 : Int) ^ Int.toNat 6 = 1000000 := by decide
  have e9 : (10 : Int) ^ Int.toNat 9 = 1000000000 := by decide
  rw [e6] at d21
  rw [e9] at d31
  refine ⟨by show 8 ≤ 16777216; decide, ?_⟩
  refine of r (.lst _) _ st3 rfl (by simp) (by simp) (fun _ e => by cases e) b _ _ hb3 fun v st4 hv hb4 k4 => ?_
  refine hk _ _ ?_ hb4 (((k1.trans k2).trans k3).trans k4)
  simp only [List.mem_cons, List.not_mem_nil, or_false] at hv
  rcases hv with h | h | h | h | h | h | h | h <;> exact ⟨_, h, by omega⟩
end VP
end
section
namespace VP
open VM
def LET : List Nat := [97, 98, 99, 100, 101, 102, 103, 104, 105, 106, 107, 108, 109, 110, 111, 112, 113, 114, 115, 116, 117, 118, 119, 120, 121, 122]
def nmS (s : List Nat) : Bool := decide (1 ≤ s.length) && decide (s.length ≤ 6) && s.all fun c => decide (c ∈ LET)
def nmB : PV → Bool
  | .str s => nmS s
  | _ => false
def SpNm (f : Nat) (cs : CS) : Prop := ∀ (n : Nat) (v : PV) (st : Store) (k x : KV), Sm n v → k (.bl (nmB v)) st → cs f [v] st k x
theorem allBl_map {α : Type} (g : α → Bool) : ∀ xs : List α, allBl (xs.map fun x => PV.bl (g x)) = some (xs.map g)
  | [] => rfl
  | x :: xs => by
    rw [List.map_cons]
    unfold allBl
    rw [allBl_map g xs]
    rfl
theorem all_id {α : Type} (g : α → Bool) (xs : List α) : (xs.map g).all id = xs.all g := by
  rw [List.all_map]
  rfl
theorem all_fin {α : Type} (g : α → Bool) (xs : List α) {st : Store} {k : KV} (h : k (.bl (xs.all g)) st) : fAll (.lst (xs.map fun x => PV.bl (g x))) st k := by
  unfold fAll
  simp only [asL, allBl_map, all_id]
  exact h
abbrev nmT (cs : CS) : TS := sCons (sIf (tOr (tNot (tOf (eB1 (fIsi [.str]) (eVar 0)))) (tNot (tChain .le .le (eC (.int 1)) (eB1 fLen (eVar 0)) (eC (.int 6)))))
    (sRet (eC (.bl false))) sNil)
    (sRet (eB1 fAll (eComp (iE (eVar 0)) (gName 1) tYes (eCmp .isin (eVar 1) (eC (.str [97, 98, 99, 100, 101, 102, 103, 104, 105, 106, 107, 108, 109, 110, 111, 112, 113, 114, 115, 116, 117, 118, 119, 120, 121, 122]))) [1])))
theorem isi_sm {n : Nat} {v : PV} {ts : List Ty} {st : Store} {k : KV} (h : Sm n v) (hk : k (.bl (ts.any (kdIs (kdOf st v)))) st) : fIsi ts v st k := by
  refine ⟨?_, hk⟩
  cases n <;> cases v <;> first | (exact h.elim) | (intro e; cases e)
theorem nm_body {cs : CS} {n : Nat} {v : PV} {st : Store} {k x : KV} (hv : Sm n v) (hk : k (.bl (nmB v)) st) : nmT cs (D0 k x) [some v, none] st := by
  simp only [nmT, sCons, sIf, tOr, tNot, tOf, eB1, eVar, List.getElem?_cons_zero, List.getElem?_cons_succ]
  refine isi_sm hv ?_
  by_cases hs : ∃ s, v = .str s
  · obtain ⟨s, rfl⟩ := hs
    have nm : nmB (.str s) = nmS s := rfl
    rw [nm] at hk
    unfold nmS at hk
    simp only [kdOf, kdIs, List.any_cons, List.any_nil, Bool.or_false, truth, Bool.not_true, Bool.false_eq_true, if_false, tNot, tChain, eC, eB1, fLen, bLen, eVar, List.getElem?_cons_zero, opCm]
    by_cases h1 : 1 ≤ s.length
    · have e1 : decide ((1 : Int) ≤ (s.length : Int)) = true := by simp; omega
      rw [e1]
      simp only [if_true]
      by_cases h2 : s.length ≤ 6
      · have e2 : decide ((s.length : Int) ≤ 6) = true := by simp; omega
        rw [e2]
        simp only [Bool.not_true, Bool.false_eq_true, if_false, sNil, sRet, eB1, eComp, iE, eVar, List.getElem?_cons_zero, items, isSeq, signs]
        simp only [decide_eq_true h1, decide_eq_true h2, Bool.true_and] at hk
        refine ⟨trivial, comp_of (fun c => .str [c]) (fun c => some (.bl (decide (c ∈ LET)))) trivial s (fun c hc k' hk' => ?_) (by show _ ≤ 16777216; omega) ?_⟩
        · simp only [turn, gName, tYes, wipe, List.set_cons_zero, List.set_cons_succ, if_true, eCmp, eVar, eC, List.getElem?_cons_zero, List.getElem?_cons_succ, opCm, opIn]
          exact hk'
        · rw [show (fun c : Nat => some (PV.bl (decide (c ∈ LET)))) = some ∘ (fun c => PV.bl (decide (c ∈ LET))) from rfl, List.filterMap_eq_map]
          exact all_fin (fun c => decide (c ∈ LET)) s hk
      · have e2 : decide ((s.length : Int) ≤ 6) = false := by simp; omega
        rw [e2]
        simp only [Bool.not_false, if_true, sRet, eC]
        simp only [decide_eq_true h1, decide_eq_false h2, Bool.and_false, Bool.false_and] at hk
        exact hk
    · have e1 : decide ((1 : Int) ≤ (s.length : Int)) = false := by simp; omega
      rw [e1]
      simp only [Bool.false_eq_true, if_false, Bool.not_false, if_true, sRet, eC]
      simp only [decide_eq_false h1, Bool.false_and] at hk
      exact hk
  · have e0 : ([Ty.str].any (kdIs (kdOf st v))) = false := by
      cases n <;> cases v <;> first | (exact hv.elim) | rfl | (exact (hs ⟨_, rfl⟩).elim)
    have e1 : nmB v = false := by
      cases v <;> first | rfl | (exact (hs ⟨_, rfl⟩).elim)
    rw [e0]
    rw [e1] at hk
    simp only [truth, Bool.not_false, if_true, sRet, eC]
    exact hk
theorem name_at {FT : Nat → Option FD} (hF : FT 41 = some ⟨1, 2, T_is_name⟩) : At FT 1 (SpNm 41) := at_of (C := fun _ => True) hF (fun _ _ => trivial) fun cs cs' _ go => by
  intro n v st k x hv hk
  exact go _ _ _ _ rfl (nm_body (cs := cs) hv hk)
theorem right_at {FT : Nat → Option FD} (hF : FT 42 = some ⟨1, 2, T__law_right_name⟩) : At FT 1 (SpNm 42) := at_of (C := fun _ => True) hF (fun _ _ => trivial) fun cs cs' _ go => by
  intro n v st k x hv hk
  exact go _ _ _ _ rfl (nm_body (cs := cs) hv hk)
def inB (v : PV) (a b : Int) : Bool := match v with
  | .int i => decide (a ≤ i) && decide (i ≤ b)
  | _ => false
def SpIn (cs : CS) : Prop := ∀ (n : Nat) (v : PV) (a b : Int) (st : Store) (k x : KV), Sm n v → k (.bl (inB v a b)) st → cs 45 [v, .int a, .int b] st k x
theorem in_at {FT : Nat → Option FD} (hF : FT 45 = some ⟨3, 3, T_is_integer⟩) : At FT 1 SpIn := at_of (C := fun _ => True) hF (fun _ _ => trivial) fun cs cs' _ go => by
  intro n v a b st k x hv hk
  refine go _ _ _ _ rfl ?_
  simp only [T_is_integer, sRet, eAnd, eNot, eB1, eChain, eVar, List.map_cons, List.map_nil, List.replicate_zero, List.append_nil, List.getElem?_cons_zero, List.getElem?_cons_succ, Nat.reduceSub]
  refine isi_sm hv ?_
  by_cases hi : ∃ i, v = .int i
  · obtain ⟨i, rfl⟩ := hi
    simp only [kdOf, kdIs, List.any_cons, List.any_nil, Bool.or_false, truth]
    refine isi_sm hv ?_
    simp only [kdOf, kdIs, List.any_cons, List.any_nil, Bool.or_false, truth, Bool.not_false, opCm]
    simp only [inB] at hk
    by_cases h1 : a ≤ i
    · simp only [decide_eq_true h1, if_true, Bool.true_and] at hk ⊢
      exact hk
    · simp only [decide_eq_false h1, Bool.false_eq_true, if_false, Bool.false_and] at hk ⊢
      exact hk
  · have e1 : inB v a b = false := by
      cases v <;> first | rfl | (exact (hi ⟨_, rfl⟩).elim)
    rw [e1] at hk
    by_cases hb : ∃ i, v = .bl i
    · obtain ⟨i, rfl⟩ := hb
      simp only [kdOf, kdIs, List.any_cons, List.any_nil, Bool.or_false, truth]
      refine isi_sm hv ?_
      simp only [kdOf, kdIs, List.any_cons, List.any_nil, Bool.or_false, truth, Bool.not_true]
      exact hk
    · have e0 : ([Ty.int].any (kdIs (kdOf st v))) = false := by
        cases n <;> cases v <;> first | (exact hv.elim) | rfl | (exact (hi ⟨_, rfl⟩).elim) | (exact (hb ⟨_, rfl⟩).elim)
      rw [e0]
      simp only [truth]
      exact hk
end VP
end
section
namespace VP
open VM
def tmB : PV → Bool
  | .tup xs => match xs with | [a, b] => nmB a && inB b (-1000) 1000 | _ => false
  | _ => false
theorem sm_tup {n : Nat} {xs : List PV} (h : Sm n (.tup xs)) : xs.length ≤ SZ ∧ ∃ m, n = m + 1 ∧ ∀ x ∈ xs, Sm m x := by
  cases n with
  | zero => exact h.elim
  | succ n => exact ⟨h.1, n, rfl, h.2⟩
theorem not_tup {n : Nat} {v : PV} (h : Sm n v) (hn : ¬ ∃ xs, v = .tup xs) (st : Store) : ([Ty.tuple].any (kdIs (kdOf st v))) = false := by
  cases n <;> cases v <;> first | (exact h.elim) | rfl | (exact (hn ⟨_, rfl⟩).elim)
theorem len_ne {n : Nat} {m : Int} {st : Store} {k : Bool → Store → Prop} : opCm .ne (.int n) (.int m) st k = (true = true ∧ true = true ∧ k (!((n : Int) == m)) st) := rfl
theorem ix_tup {xs : List PV} {i : Nat} {x : PV} {st : Store} {k : KV} (h : xs[i]? = some x) (hk : k x st) : getIx (.tup xs) (.int i) st k := by
  have hl : i < xs.length := (List.getElem?_eq_some_iff.mp h).1
  have e : ix xs.length (i : Int) = some i := by
    unfold ix
    rw [if_pos (by omega), if_pos (by omega)]
    rfl
  unfold getIx
  simp only [e, h]
  exact hk
def SpTerm (cs : CS) : Prop := ∀ (n : Nat) (v : PV) (st : Store) (k x : KV), Sm n v → k (.bl (tmB v)) st → cs 47 [v] st k x
theorem term_at {FT : Nat → Option FD} {d : Nat} (hF : FT 47 = some ⟨1, 1, T_is_term⟩) (h1 : At FT d (SpNm 41)) (h2 : At FT d SpIn) : At FT (d + 1) SpTerm := at_of (C := fun cs => SpNm 41 cs ∧ SpIn cs) hF (fun n hn => ⟨h1 n hn, h2 n hn⟩) fun cs cs' C go => by
  obtain ⟨N, I⟩ := C
  intro n v st k x hv hk
  refine go _ _ _ _ rfl ?_
  simp only [T_is_term, sCons, sIf, tOr, tNot, tOf, eB1, eVar, List.map_cons, List.map_nil, List.replicate_zero, List.append_nil, Nat.reduceSub, List.getElem?_cons_zero, List.getElem?_cons_succ]
  refine isi_sm hv ?_
  by_cases ht : ∃ xs, v = .tup xs
  · obtain ⟨xs, rfl⟩ := ht
    obtain ⟨hl, m, rfl, hx⟩ := sm_tup hv
    simp only [kdOf, kdIs, List.any_cons, List.any_nil, Bool.or_false, truth, Bool.not_true, Bool.false_eq_true, if_false, tCmp, eB1, fLen, bLen, eVar, eC, List.getElem?_cons_zero, len_ne, true_and]
    by_cases h2 : xs.length = 2
    · obtain ⟨a, b, rfl⟩ : ∃ a b, xs = [a, b] := by
        match xs, h2 with
        | [a, b], _ => exact ⟨a, b, rfl⟩
      have e0 : (!((([a, b] : List PV).length : Int) == 2)) = false := rfl
      rw [e0]
      simp only [Bool.false_eq_true, if_false, sNil, sRet, eAnd, eCall, aCons, aNil, eIx, eVar, eC, List.getElem?_cons_zero]
      refine ix_tup (i := 0) rfl (N m a _ _ _ (hx a (by simp)) ?_)
      simp only [tmB] at hk
      cases ha : nmB a with
      | false =>
        rw [ha] at hk
        simp only [truth]
        exact hk
      | true =>
        rw [ha] at hk
        simp only [truth, eCall, aCons, aNil, eIx, eNeg, eVar, eC, List.getElem?_cons_zero]
        exact ix_tup (i := 1) rfl (I m b (-1000) 1000 _ _ _ (hx b (by simp)) hk)
    · have e0 : (!((xs.length : Int) == 2)) = true := by
        have : ((xs.length : Int) == 2) = false := by
          rw [beq_eq_false_iff_ne]
          omega
        rw [this]
        rfl
      rw [e0]
      have e1 : tmB (.tup xs) = false := by
        unfold tmB
        match xs, h2 with
        | [], _ => rfl
        | [_], _ => rfl
        | [_, _], h => exact (h rfl).elim
        | _ :: _ :: _ :: _, _ => rfl
      rw [e1] at hk
      simp only [if_true, sRet, eC]
      exact hk
  · rw [not_tup hv ht]
    have e1 : tmB v = false := by
      cases v <;> first | rfl | (exact (ht ⟨_, rfl⟩).elim)
    rw [e1] at hk
    simp only [truth, Bool.not_false, if_true, sRet, eC]
    exact hk
/-- the text of a right term's name -/
def tmN : PV → List Nat
  | .tup (.str s :: _) => s
  | _ => []
def tsB : PV → Bool
  | .tup xs => decide (xs.length ≤ 12) && xs.all tmB && decide (dcnt (xs.map tmN).reverse = xs.length)
  | _ => false
theorem tm_cases {v : PV} (h : tmB v = true) : ∃ s i, v = .tup [.str s, .int i] ∧ nmS s = true ∧ -1000 ≤ i ∧ i ≤ 1000 := by
  cases v <;> simp only [tmB] at h <;> try (cases h; done)
  split at h
  · rename_i a b
    rw [Bool.and_eq_true] at h
    obtain ⟨h1, h2⟩ := h
    cases a <;> simp only [nmB] at h1 <;> try (cases h1; done)
    cases b <;> simp only [inB] at h2 <;> try (cases h2; done)
    rw [Bool.and_eq_true, decide_eq_true_iff, decide_eq_true_iff] at h2
    exact ⟨_, _, rfl, h1, h2.1, h2.2⟩
  · cases h
theorem asStrs_map (ss : List (List Nat)) : asStrs (ss.map PV.str) = some ss := by
  induction ss with
  | nil => rfl
  | cons s ss ih => rw [List.map_cons, asStrs, ih]
def SpTerms (cs : CS) : Prop := ∀ (n : Nat) (v : PV) (st : Store) (k x : KV), Sm n v → k (.bl (tsB v)) st → cs 48 [v] st k x
theorem terms_at {FT : Nat → Option FD} {d : Nat} (hF : FT 48 = some ⟨1, 3, T_is_terms⟩) (h1 : At FT d SpTerm) : At FT (d + 1) SpTerms := at_of hF h1 fun cs cs' C go => by
  intro n v st k x hv hk
  refine go _ _ _ _ rfl ?_
  simp only [T_is_terms, sCons, sIf, tOr, tNot, tOf, eB1, eVar, List.map_cons, List.map_nil, List.replicate_succ, List.replicate_zero, List.cons_append, List.nil_append, Nat.reduceSub, List.getElem?_cons_zero, List.getElem?_cons_succ]
  refine isi_sm hv ?_
  by_cases ht : ∃ xs, v = .tup xs
  · obtain ⟨xs, rfl⟩ := ht
    obtain ⟨hl, m, rfl, hx⟩ := sm_tup hv
    simp only [kdOf, kdIs, List.any_cons, List.any_nil, Bool.or_false, truth, Bool.not_true, Bool.false_eq_true, if_false, tCmp, eB1, fLen, bLen, eVar, eC, List.getElem?_cons_zero, opCm]
    simp only [tsB] at hk
    by_cases h2 : xs.length ≤ 12
    · have e0 : decide ((12 : Int) < (xs.length : Int)) = false := by simp; omega
      rw [e0]
      rw [decide_eq_true h2, Bool.true_and] at hk
      simp only [Bool.false_eq_true, if_false, sNil, sCons, sIf, tNot, tOf, eB1, eComp, iE, eVar, List.getElem?_cons_zero, items, isSeq]
      refine ⟨trivial, comp_map (fun v => .bl (tmB v)) trivial xs (fun y hy k' hk' => ?_) (by show _ ≤ 16777216; omega) ?_⟩
      · simp only [turn, gName, tYes, wipe, List.set_cons_zero, List.set_cons_succ, if_true, eCall, aCons, aNil, eVar, List.getElem?_cons_zero, List.getElem?_cons_succ]
        exact C m y _ _ _ (hx y hy) hk'
      · refine all_fin tmB xs ?_
        cases ha : xs.all tmB with
        | false =>
          rw [ha] at hk
          simp only [truth, Bool.not_false, if_true, sRet, eC]
          exact hk
        | true =>
          rw [ha, Bool.true_and] at hk
          simp only [truth, Bool.not_true, Bool.false_eq_true, if_false, sNil, sCons, sSet, eComp, iE, eVar, List.getElem?_cons_zero, items, isSeq]
          refine ⟨trivial, comp_map (fun v => .str (tmN v)) trivial xs (fun y hy k' hk' => ?_) (by show _ ≤ 16777216; omega) ?_⟩
          · obtain ⟨s, i, rfl, _⟩ := tm_cases (List.all_eq_true.mp ha y hy)
            simp only [turn, gName, tYes, wipe, List.set_cons_zero, List.set_cons_succ, if_true, eIx, eVar, eC, List.getElem?_cons_zero, List.getElem?_cons_succ]
            exact ix_tup (i := 0) rfl hk'
          · have em : xs.map (fun v => PV.str (tmN v)) = (xs.map tmN).map PV.str := by rw [List.map_map]; rfl
            rw [em]
            simp only [gName, List.set_cons_zero, List.set_cons_succ, sRet, eCmp, eLenSet, eB1, fLen, bLen, eVar, List.getElem?_cons_zero, List.getElem?_cons_succ, asL, asStrs_map, opCm, eq_int, true_and, List.length_map, Option.map]
            refine ⟨by omega, ?_⟩
            have e9 : ((dcnt (xs.map tmN).reverse : Int) == (xs.length : Int)) = decide (dcnt (xs.map tmN).reverse = xs.length) := by
              rw [Bool.eq_iff_iff, beq_iff_eq, decide_eq_true_iff]
              omega
            rw [e9]
            exact hk
    · have e0 : decide ((12 : Int) < (xs.length : Int)) = true := by simp; omega
      rw [e0]
      rw [decide_eq_false h2, Bool.false_and, Bool.false_and] at hk
      simp only [if_true, sRet, eC]
      exact hk
  · rw [not_tup hv ht]
    have e1 : tsB v = false := by
      cases v <;> first | rfl | (exact (ht ⟨_, rfl⟩).elim)
    rw [e1] at hk
    simp only [truth, Bool.not_false, if_true, sRet, eC]
    exact hk
def rwB : PV → Bool
  | .tup xs => match xs with | [t, v, m] => tsB t && (inB v (-1000000000000) 1000000000000 && (inB m 0 1000000 && !eqv m (.int 1))) | _ => false
  | _ => false
def SpRow (cs : CS) : Prop := ∀ (n : Nat) (v : PV) (st : Store) (k x : KV), Sm n v → k (.bl (rwB v)) st → cs 49 [v] st k x
theorem row_at {FT : Nat → Option FD} {d : Nat} (hF : FT 49 = some ⟨1, 1, T_is_row⟩) (h1 : At FT d SpTerms) (h2 : At FT d SpIn) : At FT (d + 1) SpRow := at_of (C := fun cs => SpTerms cs ∧ SpIn cs) hF (fun n hn => ⟨h1 n hn, h2 n hn⟩) fun cs cs' C go => by
  obtain ⟨N, I⟩ := C
  intro n v st k x hv hk
  refine go _ _ _ _ rfl ?_
  simp only [T_is_row, sCons, sIf, tOr, tNot, tOf, eB1, eVar, List.map_cons, List.map_nil, List.replicate_zero, List.append_nil, Nat.reduceSub, List.getElem?_cons_zero, List.getElem?_cons_succ]
  refine isi_sm hv ?_
  by_cases ht : ∃ xs, v = .tup xs
  · obtain ⟨xs, rfl⟩ := ht
    obtain ⟨hl, m, rfl, hx⟩ := sm_tup hv
    simp only [kdOf, kdIs, List.any_cons, List.any_nil, Bool.or_false, truth, Bool.not_true, Bool.false_eq_true, if_false, tOr, tCmp, eB1, fLen, bLen, eVar, eC, List.getElem?_cons_zero, len_ne, true_and]
    by_cases h2 : xs.length = 3
    · obtain ⟨a, b, c, rfl⟩ : ∃ a b c, xs = [a, b, c] := by
        match xs, h2 with
        | [a, b, c], _ => exact ⟨a, b, c, rfl⟩
      have e0 : (!((([a, b, c] : List PV).length : Int) == 3)) = false := rfl
      rw [e0]
      simp only [Bool.false_eq_true, if_false, tNot, tOf, eCall, aCons, aNil, eIx, eVar, eC, List.getElem?_cons_zero]
      refine ix_tup (i := 0) rfl (N m a _ _ _ (hx a (by simp)) ?_)
      simp only [rwB] at hk
      cases ha : tsB a with
      | false =>
        rw [ha] at hk
        simp only [truth, Bool.not_false, if_true, sRet, eC]
        exact hk
      | true =>
        rw [ha, Bool.true_and] at hk
        simp only [truth, Bool.not_true, Bool.false_eq_true, if_false, sNil, sCons, sIf, tNot, tOf, eCall, aCons, aNil, eIx, eNeg, eVar, eC, List.getElem?_cons_zero]
        refine ix_tup (i := 1) rfl (I m b (-1000000000000) 1000000000000 _ _ _ (hx b (by simp)) ?_)
        cases hb : inB b (-1000000000000) 1000000000000 with
        | false =>
          rw [hb] at hk
          simp only [truth, Bool.not_false, if_true, sRet, eC]
          exact hk
        | true =>
          rw [hb, Bool.true_and] at hk
          simp only [truth, Bool.not_true, Bool.false_eq_true, if_false, sNil, sRet, eAnd, eCmp, eCall, aCons, aNil, eIx, eVar, eC, List.getElem?_cons_zero]
          refine ix_tup (i := 2) rfl (I m c 0 1000000 _ _ _ (hx c (by simp)) ?_)
          cases hc : inB c 0 1000000 with
          | false =>
            rw [hc] at hk
            simp only [truth]
            exact hk
          | true =>
            rw [hc, Bool.true_and] at hk
            simp only [truth]
            refine ix_tup (i := 2) rfl ?_
            cases c <;> simp only [inB] at hc <;> first | (cases hc; done) | exact ⟨rfl, rfl, hk⟩
    · have e0 : (!((xs.length : Int) == 3)) = true := by
        have : ((xs.length : Int) == 3) = false := by
          rw [beq_eq_false_iff_ne]
          omega
        rw [this]
        rfl
      rw [e0]
      have e1 : rwB (.tup xs) = false := by
        unfold rwB
        match xs, h2 with
        | [], _ => rfl
        | [_], _ => rfl
        | [_, _], _ => rfl
        | [_, _, _], h => exact (h rfl).elim
        | _ :: _ :: _ :: _ :: _, _ => rfl
      rw [e1] at hk
      simp only [if_true, sRet, eC]
      exact hk
  · rw [not_tup hv ht]
    have e1 : rwB v = false := by
      cases v <;> first | rfl | (exact (ht ⟨_, rfl⟩).elim)
    rw [e1] at hk
    simp only [truth, Bool.not_false, if_true, sRet, eC]
    exact hk
end VP
end
section
namespace VP
open VM
def wrap : Nat → PV
  | 0 => .tup []
  | n + 1 => .tup [wrap n]
def SpNest (cs : CS) : Prop := ∀ (st : Store) (k x : KV), k (wrap 5) st → cs 43 [] st k x
theorem nest_at {FT : Nat → Option FD} (hF : FT 43 = some ⟨0, 2, T__law_nest⟩) : At FT 1 SpNest := at_of (C := fun _ => True) hF (fun _ _ => trivial) fun cs cs' _ go => by
  intro st k x hk
  refine go _ _ _ _ rfl ?_
  simp only [T__law_nest, sCons, sSet, sFor, iRange1, eTup, aNil, aCons, eC, gName, List.map_nil, List.nil_append, List.replicate_succ, List.replicate_zero, Nat.reduceSub, List.set_cons_zero]
  refine ⟨by show 0 ≤ 16777216; decide, by unfold i62; decide, ?_⟩
  refine for_inv (fun rem ρ st' => st' = st ∧ rem.length ≤ 5 ∧ ∃ c, ρ = [some (wrap (5 - rem.length)), c]) ?_ ?_ _ _ _ ⟨rfl, by decide, none, rfl⟩
  · rintro v rem ρ st' ⟨rfl, h5, c, rfl⟩
    refine ⟨trivial, fun D' d1 d2 d3 d4 d5 => ?_⟩
    simp only [gName, List.set_cons_zero, List.set_cons_succ, sSet, eTup, aCons, aNil, eVar, List.getElem?_cons_zero]
    refine ⟨by show 1 ≤ 16777216; decide, ?_⟩
    rw [List.length_cons] at h5
    refine d4 _ _ ⟨rfl, by omega, some v, ?_⟩
    have e : 5 - rem.length = (5 - (v :: rem).length) + 1 := by
      rw [List.length_cons]
      omega
    rw [e]
    rfl
  · rintro ρ st' ⟨rfl, _, c, rfl⟩
    exact ⟨trivial, hk⟩
theorem sm_wrap (n : Nat) : ∀ k, k < n → Sm n (wrap k) := by
  induction n with
  | zero => intro k h; omega
  | succ n ih =>
    intro k h
    cases k with
    | zero => exact ⟨by decide, fun _ m => nomatch m⟩
    | succ k => exact ⟨by show 1 ≤ 16777216; decide, fun y m => by rw [List.mem_singleton.mp m]; exact ih k (by omega)⟩
def SpOdd (cs : CS) : Prop := ∀ (r : Nat) (st : Store), Dr cs 44 [] r 1 st fun v _ => nmB v = false ∧ Sm 8 v
theorem odd_at {FT : Nat → Option FD} {d : Nat} (hF : FT 44 = some ⟨1, 1, T__law_odd⟩) (h1 : At FT d SpOf) (h2 : At FT d SpNest) : At FT (d + 1) SpOdd := at_of (C := fun cs => SpOf cs ∧ SpNest cs) hF (fun n hn => ⟨h1 n hn, h2 n hn⟩) fun cs cs' C go => by
  obtain ⟨of, ns⟩ := C
  intro r st b k x hb hk
  refine go _ _ _ _ rfl ?_
  simp only [T__law_odd, sRet, eCall, eLst, eTup, eNeg, aCons, aNil, eVar, eC, List.map_cons, List.map_nil, List.replicate_zero, List.append_nil, Nat.reduceSub, List.getElem?_cons_zero]
  refine ⟨by show 1 ≤ 16777216; decide, by show 1 ≤ 16777216; decide, ns _ _ _ ⟨by show 13 ≤ 16777216; decide, ?_⟩⟩
  refine of r (.lst _) _ st rfl (by simp) (by simp) (fun _ e => by cases e) b _ _ hb fun v st' hv hb' kp => ?_
  refine hk _ _ ?_ hb' kp
  have one : ∀ s, Sm 8 (.tup [.str s]) ∧ Sm 8 (.lst [.str s]) := fun s => ⟨⟨by show 1 ≤ 16777216; decide, fun y m => by rw [List.mem_singleton.mp m]; trivial⟩, ⟨by show 1 ≤ 16777216; decide, fun y m => by rw [List.mem_singleton.mp m]; trivial⟩⟩
  simp only [List.mem_cons, List.not_mem_nil, or_false] at hv
  rcases hv with h | h | h | h | h | h | h | h | h | h | h | h | h <;> subst h
  · exact ⟨rfl, trivial⟩
  · exact ⟨rfl, trivial⟩
  · exact ⟨rfl, trivial⟩
  · exact ⟨rfl, trivial⟩
  · exact ⟨by decide, trivial⟩
  · exact ⟨by decide, trivial⟩
  · exact ⟨by decide, trivial⟩
  · exact ⟨by decide, trivial⟩
  · exact ⟨rfl, (one _).1⟩
  · exact ⟨rfl, (one _).2⟩
  · exact ⟨rfl, trivial⟩
  · exact ⟨by decide, trivial⟩
  · exact ⟨rfl, sm_wrap 8 5 (by decide)⟩
def SpMd (cs : CS) : Prop := ∀ (r : Nat) (st : Store), Dr cs 22 [] r 3 st fun v _ => ∃ m : Int, v = .int m ∧ 0 ≤ m ∧ m ≤ 1000000 ∧ m ≠ 1
theorem md_at {FT : Nat → Option FD} {d : Nat} (hF : FT 22 = some ⟨1, 1, T__law_modulus⟩) (h1 : At FT d SpTake) (h2 : At FT d SpOf) : At FT (d + 1) SpMd := at_of (C := fun cs => SpTake cs ∧ SpOf cs) hF (fun n hn => ⟨h1 n hn, h2 n hn⟩) fun cs cs' C go => by
  obtain ⟨tk, of⟩ := C
  intro r st b k x hb hk
  refine go _ _ _ _ rfl ?_
  have p6 : PowOk 10 6 := ⟨by decide, by decide, by decide⟩
  have e6 : (10 : Int) ^ Int.toNat 6 - 1 = 999999 := by decide
  simp only [T__law_modulus, VM.sNil, VM.sCons, VM.sSet, VM.sPar, VM.sSetIx, VM.setIx, VM.sExpr, VM.sRet, VM.sRetN, VM.sIf, VM.sBreak, VM.sCont, VM.sFor, VM.gName, VM.gTup, VM.gEach, VM.eVar, VM.eC, VM.eBin, VM.eNeg, VM.eCmp, VM.eChain, VM.tOf, VM.tCmp, VM.tChain, VM.tAnd, VM.tOr, VM.tNot, VM.tYes, VM.eTest, VM.eAnd, VM.eOr, VM.eNot, VM.eIf, VM.aNil, VM.aCons, VM.eLst, VM.eLstM, VM.eTup, VM.eCall, VM.eIx, VM.getIx, VM.eSl, VM.getSl, VM.iE, VM.iRange1, VM.iRange2, VM.iZip, VM.iRev, VM.eComp, VM.eCompM, VM.eAppend, VM.eInsert, VM.eB1, VM.fLen, VM.fAbs, VM.fInt, VM.fList, VM.fListM, VM.fTuple, VM.fSum, VM.fAll, VM.fAny, VM.fIsi, VM.bLen, VM.seqOf, VM.sq, VM.asL, VM.items, VM.isSeq, VM.truth, VM.opBin, VM.opAdd, VM.opSub, VM.opMul, VM.opFdiv, VM.opMod, VM.opPow, VM.opCm, VM.opEq, VM.frz, VM.isD, VM.eqv, VM.isNon, VM.kdOf, VM.D0, VM.turn, List.map_cons, List.map_nil, List.replicate_succ, List.replicate_zero, List.cons_append, List.nil_append, List.getElem?_cons_zero, List.getElem?_cons_succ, List.set_cons_zero, List.set_cons_succ, Nat.reduceSub, VM.wipe, List.length_cons, List.length_nil, Nat.reduceAdd]
  refine tk r 40 (by decide) st (b + 2) _ _ hb fun v st1 hv hb1 k1 => ?_
  obtain ⟨d1, rfl, d10, d11⟩ := hv
  simp only []
  refine ⟨p6, ?_⟩
  rw [e6]
  refine tk r 999999 (by decide) st1 (b + 1) _ _ hb1 fun v st2 hv hb2 k2 => ?_
  obtain ⟨d2, rfl, d20, d21⟩ := hv
  simp only []
  refine ⟨by decide, ?_⟩
  refine of r (.lst _) _ st2 rfl (by simp) (by simp) (fun _ e => by cases e) b _ _ hb2 fun v st3 hv hb3 k3 => ?_
  refine hk _ _ ?_ hb3 ((k1.trans k2).trans k3)
  simp only [List.mem_cons, List.not_mem_nil, or_false] at hv
  rcases hv with h | h | h | h | h | h | h | h | h | h <;> exact ⟨_, h, by omega, by omega, by omega⟩
/-- a sign drawn -/
def SpOfS (cs : CS) : Prop := ∀ (r : Nat) (s : List Nat) (st : Store), s ≠ [] → Dr cs 2 [.str s] r 1 st fun v _ => ∃ c ∈ s, v = .str [c]
theorem ofS_at {FT : Nat → Option FD} {d : Nat} (hF : FT 2 = some ⟨2, 2, T__law_of⟩) (h1 : At FT d SpTake) : At FT (d + 1) SpOfS := at_of hF h1 fun cs cs' tk go => by
  intro r s st hne b k x hb hk
  refine go _ _ _ _ rfl ?_
  have hl : (0 : Int) < (s.length : Int) := by
    cases s with
    | nil => exact (hne rfl).elim
    | cons => simp
  simp only [T__law_of, sRet, eIx, eCall, aCons, aNil, eVar, eB1, fLen, List.map_cons, List.map_nil, List.cons_append, List.nil_append, List.getElem?_cons_zero, List.getElem?_cons_succ, bLen]
  refine tk r _ hl st b _ _ hb fun v st' hv hb' kp => ?_
  obtain ⟨dd, rfl, d0, d1⟩ := hv
  have hi := ixN d0 (by simpa using d1)
  have hn : dd.toNat < s.length := by omega
  simp only [getIx, hi, List.getElem?_eq_getElem hn]
  exact hk _ _ ⟨_, List.getElem_mem hn, rfl⟩ hb' kp
/-- signs drawn one by one -/
theorem comp_signs {g : TG} {t : TT} {e : TE} {own : List Nat} {ρ : Env} {st : Store} {r c b : Nat} {S : List Nat} {k : List PV → Store → Prop} (xs : List PV)
    (hf : ∀ v (st : Store) (b : Nat) (k' : Option PV → Store → Prop), Bag st r (b + c) → (∀ z st', z ∈ S → Bag st' r b → Keep r st st' → k' (some (.str [z])) st') → turn g t e ρ st v k')
    (hl : xs.length ≤ SZ) (hb : Bag st r (b + xs.length * c)) (hk : ∀ (s : List Nat) st', s.length = xs.length → (∀ z ∈ s, z ∈ S) → Bag st' r b → Keep r st st' → k (s.map fun z => .str [z]) st') :
    compGo g t e own (fun _ => True) xs [] ρ st k := by
  refine comp_inv (fun rem acc st' => ∃ s : List Nat, acc = s.map (fun z => .str [z]) ∧ s.length + rem.length = xs.length ∧ (∀ z ∈ s, z ∈ S) ∧ Bag st' r (b + rem.length * c) ∧ Keep r st st') ?_ ?_ xs [] st ⟨[], rfl, by simp, by simp, hb, Keep.refl⟩
  · rintro v rem acc st' ⟨u, rfl, h2, h3, h4, h5⟩
    refine ⟨trivial, fun k' hk' => ?_⟩
    rw [List.length_cons] at h2 h4
    refine hf v st' (b + rem.length * c) _ (by rw [Nat.add_mul, Nat.one_mul, ← Nat.add_assoc] at h4; exact h4) fun z st2 hz hb2 k2 => ?_
    refine hk' _ _ ⟨by rw [List.length_map]; omega, u ++ [z], by simp, by rw [List.length_append, List.length_singleton]; omega, fun w hw => ?_, hb2, h5.trans k2⟩
    rcases List.mem_append.mp hw with hw | hw
    · exact h3 w hw
    · rw [List.mem_singleton.mp hw]; exact hz
  · rintro acc st' ⟨u, rfl, h2, h3, h4, h5⟩
    exact ⟨trivial, hk u st' (by simpa using h2) h3 (h4.le (by simp)) h5⟩
theorem join_signs (s : List Nat) : joinS [] (s.map fun z => [z]) = s := by
  induction s with
  | nil => rfl
  | cons z s ih =>
    cases s with
    | nil => rfl
    | cons y s =>
      show [z] ++ [] ++ joinS [] ((y :: s).map fun z => [z]) = _
      rw [ih]
      rfl
theorem sum_signs (s : List Nat) : ((s.map fun z => [z]).map List.length).sum = s.length := by
  induction s with
  | nil => rfl
  | cons z s ih =>
    rw [List.map_cons, List.map_cons, List.sum_cons, ih]
    show 1 + s.length = s.length + 1
    omega
theorem strs_signs (s : List Nat) : asStrs (s.map fun z => PV.str [z]) = some (s.map fun z => [z]) := by
  have := asStrs_map (s.map fun z => [z])
  rw [List.map_map] at this
  exact this
def L25 : List Nat := [97, 98, 99, 100, 101, 102, 103, 104, 105, 106, 107, 108, 109, 110, 112, 113, 114, 115, 116, 117, 118, 119, 120, 121, 122]
def nth25 (i : Int) : Nat := L25.getD i.toNat 0
theorem nth25_mem {i : Int} (h0 : 0 ≤ i) (h1 : i < 25) : nth25 i ∈ L25 := by
  have h : i.toNat < L25.length := by show i.toNat < 25; omega
  unfold nth25
  rw [List.getD_eq_getElem?_getD, List.getElem?_eq_getElem h]
  exact List.getElem_mem h
theorem nth25_inj {i j : Int} (h0 : 0 ≤ i) (h1 : i < 25) (g0 : 0 ≤ j) (g1 : j < 25) (e : nth25 i = nth25 j) : i = j := by
  have key : ∀ a : Fin 25, ∀ b : Fin 25, L25.getD a 0 = L25.getD b 0 → a = b := by decide
  have := key ⟨i.toNat, by omega⟩ ⟨j.toNat, by omega⟩ e
  have := congrArg Fin.val this
  simp only at this
  omega
theorem L25_let : ∀ c ∈ L25, c ∈ LET ∧ c ≠ 111 := by decide
def stepsL : List Int := [1, 2, 3, 4, 6, 7, 8, 9, 11, 12]
/-- the name with number k -/
def nameK (s : List Nat) (at' : Nat) (f t : Int) (k : Nat) : List Nat := s.take at' ++ [nth25 ((f + k * t).fmod 25)] ++ s.drop at'
theorem nameK_inj {s : List Nat} {a : Nat} {f t : Int} (ht : t ∈ stepsL) {i j : Nat} (hi : i < 11) (hj : j < 11) (e : nameK s a f t i = nameK s a f t j) : i = j := by
  unfold nameK at e
  have e1 := List.append_cancel_left (List.append_cancel_right e)
  have e2 : nth25 ((f + i * t).fmod 25) = nth25 ((f + j * t).fmod 25) := by simpa using e1
  have e3 := nth25_inj (Int.fmod_nonneg_of_pos _ (by decide)) (Int.fmod_lt_of_pos _ (by decide)) (Int.fmod_nonneg_of_pos _ (by decide)) (Int.fmod_lt_of_pos _ (by decide)) e2
  rw [Int.fmod_eq_emod_of_nonneg _ (by decide), Int.fmod_eq_emod_of_nonneg _ (by decide)] at e3
  unfold stepsL at ht
  simp only [List.mem_cons, List.not_mem_nil, or_false] at ht
  rcases ht with h | h | h | h | h | h | h | h | h | h <;> subst h <;> omega
theorem nameK_ok {s : List Nat} {a : Nat} {f t : Int} (hs : s.length ≤ 5) (hm : ∀ c ∈ s, c ∈ L25) (k : Nat) : nmS (nameK s a f t k) = true ∧ 111 ∉ nameK s a f t k := by
  have hl : (nameK s a f t k).length = s.length + 1 := by
    unfold nameK
    rw [List.length_append, List.length_append, List.length_take, List.length_drop, List.length_singleton]
    omega
  have hc : ∀ c ∈ nameK s a f t k, c ∈ L25 := by
    intro c hc
    unfold nameK at hc
    rcases List.mem_append.mp hc with hc | hc
    · rcases List.mem_append.mp hc with hc | hc
      · exact hm c (List.mem_of_mem_take hc)
      · rw [List.mem_singleton.mp hc]
        exact nth25_mem (Int.fmod_nonneg_of_pos _ (by decide)) (Int.fmod_lt_of_pos _ (by decide))
    · exact hm c (List.mem_of_mem_drop hc)
  constructor
  · unfold nmS
    rw [hl, decide_eq_true (by omega), decide_eq_true (by omega)]
    simp only [Bool.true_and, List.all_eq_true, decide_eq_true_iff]
    exact fun c m => (L25_let c (hc c m)).1
  · exact fun m => (L25_let 111 (hc _ m)).2 rfl
theorem slc_to {s : List Nat} {a : Int} (h0 : 0 ≤ a) (h1 : a ≤ s.length) : slc s none (some a) = s.take a.toNat := by
  unfold slc cutIx
  simp only []
  rw [if_neg (by omega)]
  show (s.drop 0).take (min a.toNat s.length - 0) = _
  rw [List.drop_zero, Nat.min_eq_left (by omega), Nat.sub_zero]
theorem slc_from {s : List Nat} {a : Int} (h0 : 0 ≤ a) (h1 : a ≤ s.length) : slc s (some a) none = s.drop a.toNat := by
  unfold slc cutIx
  simp only []
  rw [if_neg (by omega), Nat.min_eq_left (by omega)]
  rw [List.take_of_length_le]
  rw [List.length_drop]
  omega
def SpNames (cs : CS) : Prop := ∀ (r : Nat) (st : Store), Dr cs 46 [.int 11] r 9 st fun v _ => ∃ ss : List (List Nat), v = .lst (ss.map .str) ∧ ss.length = 11 ∧ ss.Nodup ∧ ∀ s ∈ ss, nmS s = true ∧ 111 ∉ s
theorem names_at {FT : Nat → Option FD} {d : Nat} (hF : FT 46 = some ⟨2, 8, T__law_names⟩) (h1 : At FT d SpTake) (h2 : At FT d SpOf) (h3 : At FT d SpOfS) : At FT (d + 1) SpNames := at_of (C := fun cs => SpTake cs ∧ SpOf cs ∧ SpOfS cs) hF (fun n hn => ⟨h1 n hn, h2 n hn, h3 n hn⟩) fun cs cs' C go => by
  obtain ⟨tk, of, ofS⟩ := C
  intro r st b k x hb hk
  refine go _ _ _ _ rfl ?_
  simp only [T__law_names, sCons, sSet, eJoin, eComp, iRange1, eCall, aCons, aNil, eVar, eC, gName, isStr, List.map_cons, List.map_nil, List.replicate_succ, List.replicate_zero, List.cons_append, List.nil_append, Nat.reduceSub, List.getElem?_cons_zero, List.getElem?_cons_succ, List.set_cons_zero, List.set_cons_succ, true_and]
  refine tk r 6 (by decide) st (b + 8) _ _ hb fun v st1 hv hb1 k1 => ?_
  obtain ⟨m, rfl, m0, m1⟩ := hv
  refine ⟨by unfold i62; omega, ?_⟩
  have hn : ((List.range m.toNat).map fun i : Nat => PV.int (i : Int)).length = m.toNat := by rw [List.length_map, List.length_range]
  refine comp_signs (r := r) (c := 1) (b := b + 3) (S := L25) _ (fun v st' b' k' hb' hk' => ?_) (by rw [hn]; show _ ≤ 16777216; omega) (by rw [hn]; exact hb1.le (by omega)) fun s st2 hs sm hb2 k2 => ?_
  · simp only [turn, gName, tYes, wipe, List.set_cons_zero, List.set_cons_succ, if_true, eCall, aCons, aNil, eVar, List.getElem?_cons_zero, List.getElem?_cons_succ]
    refine ofS r L25 st' (by decide) b' _ _ hb' fun z st3 hz hb3 k3 => ?_
    obtain ⟨c, hc, rfl⟩ := hz
    exact hk' c st3 hc hb3 k3
  rw [hn] at hs
  simp only [seqOf, asL, strs_signs]
  refine ⟨by rw [sum_signs, List.length_map]; show _ ≤ 16777216; simp; omega, ?_⟩
  rw [join_signs]
  simp only [wipe, List.set_cons_zero, List.set_cons_succ, sCons, sSet, eTup, eCall, aCons, aNil, eBin, eB1, fLen, bLen, eVar, eC, List.getElem?_cons_zero, List.getElem?_cons_succ, opBin, opAdd]
  refine tk r ((s.length : Int) + 1) (by omega) st2 (b + 2) _ _ hb2 fun v st3 hv hb3 k3 => ?_
  obtain ⟨a, rfl, a0, a1⟩ := hv
  refine tk r 25 (by decide) st3 (b + 1) _ _ hb3 fun v st4 hv hb4 k4 => ?_
  obtain ⟨f, rfl, f0, f1⟩ := hv
  refine ⟨by show 2 ≤ 16777216; decide, ?_⟩
  simp only [gTup, gEach, gName, List.length_cons, List.length_nil, List.set_cons_zero, List.set_cons_succ, true_and, sCons, sSet, eCall, eLst, aCons, aNil, eVar, eC, List.getElem?_cons_zero, List.getElem?_cons_succ]
  refine ⟨by show 10 ≤ 16777216; decide, ?_⟩
  refine of r (.lst _) _ st4 rfl (by simp) (by simp) (fun _ e => by cases e) b _ _ hb4 fun v st5 hv hb5 k5 => ?_
  obtain ⟨t, rfl, ht⟩ : ∃ t : Int, v = .int t ∧ t ∈ stepsL := by
    simp only [List.mem_cons, List.not_mem_nil, or_false] at hv
    rcases hv with h | h | h | h | h | h | h | h | h | h <;> exact ⟨_, h, by decide⟩
  have tb : t.natAbs ≤ 12 := by
    have key : ∀ t ∈ stepsL, t.natAbs ≤ 12 := by decide
    exact key t ht
  have sl : s.length ≤ 5 := by omega
  simp only [sRet, eComp, iRange1, eVar, List.getElem?_cons_zero, List.getElem?_cons_succ]
  refine ⟨by unfold i62; decide, ?_⟩
  refine comp_of (fun i : Nat => PV.int (i : Int)) (fun i => some (.str (nameK s a.toNat f t i))) trivial (List.range (11 : Int).toNat) (fun i hi k' hk' => ?_) (by rw [List.length_range]; decide) ?_
  · have i11 : i < 11 := List.mem_range.mp hi
    simp only [turn, gName, tYes, wipe, List.set_cons_zero, List.set_cons_succ, if_true, eBin, eSl, eIx, eB1, fInt, eVar, eC, List.getElem?_cons_zero, List.getElem?_cons_succ, getSl, opBin, opMul, opAdd, opMod]
    rw [slc_to a0 (by omega), slc_from a0 (by omega)]
    refine ⟨mo (n := 10) (m := 10) (by show (i : Int).natAbs < 1024; omega) (by show t.natAbs < 1024; omega) (by decide), by decide, ?_⟩
    have q0 := Int.fmod_nonneg_of_pos (f + i * t) (show (0 : Int) < 25 by decide)
    have q1 := Int.fmod_lt_of_pos (f + i * t) (show (0 : Int) < 25 by decide)
    have ei : ix 25 ((f + i * t).fmod 25) = some ((f + i * t).fmod 25).toNat := ixN q0 q1
    have hlt : ((f + i * t).fmod 25).toNat < L25.length := by show _ < 25; omega
    have eg : L25[((f + i * t).fmod 25).toNat]? = some (nth25 ((f + i * t).fmod 25)) := by
      unfold nth25
      rw [List.getD_eq_getElem?_getD, List.getElem?_eq_getElem hlt]
      rfl
    show getIx (.str L25) _ _ _
    have e25 : L25.length = 25 := rfl
    simp only [getIx, e25, ei, eg]
    refine ⟨?_, ?_, hk'⟩
    · rw [List.length_take]
      show _ + 1 ≤ 16777216
      omega
    · rw [List.length_append, List.length_take, List.length_drop]
      show _ + 1 + _ ≤ 16777216
      omega
  · rw [show (fun i : Nat => some (PV.str (nameK s a.toNat f t i))) = some ∘ (fun i => PV.str (nameK s a.toNat f t i)) from rfl, List.filterMap_eq_map]
    refine hk _ _ ⟨(List.range (11 : Int).toNat).map (nameK s a.toNat f t), by rw [List.map_map]; rfl, by rw [List.length_map, List.length_range]; rfl, ?_, fun z hz => ?_⟩ hb5 ((((k1.trans k2).trans k3).trans k4).trans k5)
    · refine List.pairwise_map.mpr (List.Pairwise.imp_of_mem (fun {i j} hi hj hne e => hne ?_) (List.nodup_range (n := (11 : Int).toNat)))
      exact nameK_inj ht (List.mem_range.mp hi) (List.mem_range.mp hj) e
    · obtain ⟨i, _, rfl⟩ := List.mem_map.mp hz
      exact nameK_ok sl sm i
end VP
end
section
namespace VP
open VM
theorem sm_mono {n : Nat} : ∀ {m : Nat} {v : PV}, Sm n v → n ≤ m → Sm m v := by
  induction n with
  | zero =>
    intro m v h _
    cases v <;> first | (exact h.elim) | (cases m <;> trivial)
  | succ n ih =>
    intro m v h hm
    obtain ⟨m, rfl⟩ : ∃ q, m = q + 1 := ⟨m - 1, by omega⟩
    cases v <;> first | (exact h.elim) | trivial | exact ⟨h.1, fun x mx => ih (h.2 x mx) (by omega)⟩
theorem slc_to' {α : Type} {s : List α} {a : Int} (h0 : 0 ≤ a) (h1 : a ≤ s.length) : slc s none (some a) = s.take a.toNat := by
  unfold slc cutIx
  simp only []
  rw [if_neg (by omega)]
  show (s.drop 0).take (min a.toNat s.length - 0) = _
  rw [List.drop_zero, Nat.min_eq_left (by omega), Nat.sub_zero]
theorem slc_from' {α : Type} {s : List α} {a : Int} (h0 : 0 ≤ a) (h1 : a ≤ s.length) : slc s (some a) none = s.drop a.toNat := by
  unfold slc cutIx
  simp only []
  rw [if_neg (by omega), Nat.min_eq_left (by omega)]
  rw [List.take_of_length_le]
  rw [List.length_drop]
  omega
theorem sm_tuple {n : Nat} {xs : List PV} (hl : xs.length ≤ 1000) (h : ∀ x ∈ xs, Sm n x) : Sm (n + 1) (.tup xs) := ⟨by show _ ≤ 16777216; omega, h⟩
theorem sm_list {n : Nat} {xs : List PV} (hl : xs.length ≤ 1000) (h : ∀ x ∈ xs, Sm n x) : Sm (n + 1) (.lst xs) := ⟨by show _ ≤ 16777216; omega, h⟩
theorem sm0 {n : Nat} {v : PV} (h : Sm 0 v) : Sm n v := sm_mono h (Nat.zero_le _)
def strOf : PV → List Nat
  | .str s => s
  | _ => []
theorem perm_strs {ys : List PV} {ss : List (List Nat)} (h : ys.Perm (ss.map PV.str)) : ∃ zs : List (List Nat), ys = zs.map PV.str ∧ zs.Perm ss := by
  refine ⟨ys.map strOf, ?_, ?_⟩
  · rw [List.map_map]
    have key : ∀ y ∈ ys, (PV.str ∘ strOf) y = y := fun y m => by
      obtain ⟨s, _, rfl⟩ := List.mem_map.mp (h.mem_iff.mp m)
      rfl
    conv => lhs; rw [← List.map_id ys]
    exact (List.map_congr_left fun y m => (key y m).symm)
  · have := h.map strOf
    rw [List.map_map] at this
    have e : ss.map (strOf ∘ PV.str) = ss := by
      conv => rhs; rw [← List.map_id ss]
      rfl
    rw [e] at this
    exact this
end VP
end
section
namespace VP
open VM
theorem digs_nat (n : Nat) : digs (n : Int) = TL.numL n := by
  rw [← TL.tl_num, TL.tl_ofString]
  rfl
theorem digs_neg (n : Nat) : digs (Int.negSucc n) = 45 :: TL.numL (n + 1) := by
  show ((String.append "-" (n + 1).repr).toList.map Char.toNat) = _
  rw [show String.append "-" (n + 1).repr = "-" ++ (n + 1).repr from rfl]
  simp [Nat.repr, TL.numL]
theorem digs_cases (i : Int) : (∃ n : Nat, i = n ∧ digs i = TL.numL n) ∨ ∃ n : Nat, i = -((n + 1 : Nat) : Int) ∧ digs i = 45 :: TL.numL (n + 1) := by
  cases i with
  | ofNat n => exact .inl ⟨n, rfl, digs_nat n⟩
  | negSucc n => exact .inr ⟨n, rfl, digs_neg n⟩
def I60 (i : Int) : Prop := i.natAbs < 10 ^ 60
theorem numL60 {n : Nat} (h : n < 10 ^ 60) : (TL.numL n).length ≤ 60 := TL.numL_len (by decide) h
theorem digs_len {i : Int} (h : I60 i) : (digs i).length ≤ 61 := by
  unfold I60 at h
  rcases digs_cases i with ⟨n, rfl, e⟩ | ⟨n, rfl, e⟩
  · rw [e]
    have := numL60 (n := n) (by omega)
    omega
  · rw [e, List.length_cons]
    have := numL60 (n := n + 1) (by omega)
    omega
theorem digs_free {i : Int} {c : Nat} (h : c < 45 ∨ 57 < c) : c ∉ digs i := by
  rcases digs_cases i with ⟨n, rfl, e⟩ | ⟨n, rfl, e⟩
  · rw [e]
    exact TL.numL_free (by omega)
  · rw [e]
    intro m
    rcases List.mem_cons.mp m with h2 | m
    · omega
    · exact TL.numL_free (by omega) m
theorem digs_ne (i : Int) : digs i ≠ [] := by
  rcases digs_cases i with ⟨n, rfl, e⟩ | ⟨n, rfl, e⟩
  · rw [e]
    exact TL.numL_ne n
  · rw [e]
    simp
theorem digs_zero {i : Int} (h : digs i = [48]) : i = 0 := by
  have e0 : TL.numL 0 = [48] := TL.numL_lt (by decide)
  rcases digs_cases i with ⟨n, rfl, e⟩ | ⟨n, rfl, e⟩
  · rw [e, ← e0] at h
    have := TL.numL_inj h
    omega
  · rw [e] at h
    injection h with h1 _
    cases h1
theorem log_small {i : Int} (h : I60 i) : i.natAbs.log2 < 1920 := by
  have h2 : i.natAbs < 2 ^ 200 := Nat.lt_of_lt_of_le h (by decide)
  exact Nat.lt_of_lt_of_le (log_lt h2 (by decide)) (by decide)
/-- the first digit -/
theorem numL_head (n : Nat) : n ≠ 0 → ∃ c r, TL.numL n = c :: r ∧ c ≠ 48 := by
  induction n using Nat.strongRecOn with
  | _ n ih =>
    intro h0
    by_cases h : n < 10
    · rw [TL.numL_lt h]
      exact ⟨48 + n, [], rfl, by omega⟩
    · obtain ⟨c, r, e, hc⟩ := ih (n / 10) (by omega) (by omega)
      rw [TL.numL_step (by omega), e]
      exact ⟨c, r ++ [48 + n % 10], rfl, hc⟩
def DIG : List Nat := [48, 49, 50, 51, 52, 53, 54, 55, 56, 57]
theorem dig_mem {c : Nat} (h : 48 ≤ c ∧ c ≤ 57) : c ∈ DIG := by
  have key : ∀ d : Fin 10, 48 + d.val ∈ DIG := by decide
  have := key ⟨c - 48, by omega⟩
  have e : 48 + (c - 48) = c := by omega
  simp only [e] at this
  exact this
theorem eq_str {a b : List Nat} {st : Store} {k : Bool → Store → Prop} : opEq (.str a) (.str b) st k = (true = true ∧ true = true ∧ k (a == b) st) := rfl
def SpNumT (cs : CS) : Prop := ∀ (i : Int) (st : Store) (k x : KV), I60 i → k (.bl true) st → cs 56 [.str (digs i)] st k x
/-- behind the sign -/
theorem num_tail {cs : CS} {n : Nat} {w : List Nat} {st : Store} {k x : KV} (h : n < 10 ^ 60) (hw : n = 0 → w = [48]) (hk : k (.bl true) st) :
    sCons (sIf (tOr (tNot (tChain .le .le (eC (.int 1)) (eB1 fLen (eVar 1)) (eC (.int 60)))) (tNot (tOf (eB1 fAll (eComp (iE (eVar 1)) (gName 2) tYes (eCmp .isin (eVar 2) (eC (.str [48, 49, 50, 51, 52, 53, 54, 55, 56, 57]))) [2])))))
    (sRet (eC (.bl false)))
    sNil)
    (sRet (eOr (eCmp .ne (eIx (eVar 1) (eC (.int 0))) (eC (.str [48]))) (eCmp .eq (eVar 0) (eC (.str [48]))))) (D0 k x) [some (.str w), some (.str (TL.numL n)), none] st := by
  have l1 := numL60 h
  have l0 : 1 ≤ (TL.numL n).length := List.length_pos_iff.mpr (TL.numL_ne n)
  have e1 : decide ((1 : Int) ≤ ((TL.numL n).length : Int)) = true := by simp; omega
  have e2 : decide (((TL.numL n).length : Int) ≤ 60) = true := by simp; omega
  simp only [sCons, sIf, tOr, tNot, tChain, eC, eB1, fLen, bLen, eVar, List.getElem?_cons_zero, List.getElem?_cons_succ, opCm, e1, e2, if_true, Bool.not_true, Bool.false_eq_true, if_false, tOf, eComp, iE, items, isSeq, signs]
  refine ⟨trivial, comp_of (fun c => .str [c]) (fun c => some (.bl true)) trivial (TL.numL n) (fun c hc k' hk' => ?_) (by show _ ≤ 16777216; omega) ?_⟩
  · have hd := dig_mem (TL.numL_digits n c hc)
    simp only [turn, gName, tYes, wipe, List.set_cons_zero, List.set_cons_succ, if_true, eCmp, eVar, eC, List.getElem?_cons_zero, List.getElem?_cons_succ, opCm, opIn]
    rw [show decide (c ∈ [48, 49, 50, 51, 52, 53, 54, 55, 56, 57]) = true from decide_eq_true hd]
    exact hk'
  · rw [show (fun c : Nat => some (PV.bl true)) = some ∘ (fun c => PV.bl ((fun _ => true) c)) from rfl, List.filterMap_eq_map]
    refine all_fin (fun _ => true) (TL.numL n) ?_
    have ea : (TL.numL n).all (fun _ => true) = true := by simp
    rw [ea]
    simp only [truth, Bool.not_true, Bool.false_eq_true, if_false, sNil, sRet, eOr, eCmp, eIx, eVar, eC, List.getElem?_cons_zero, List.getElem?_cons_succ]
    by_cases h0 : n = 0
    · have hw2 := hw h0
      subst h0
      subst hw2
      have e0 : TL.numL 0 = [48] := TL.numL_lt (by decide)
      rw [e0]
      exact ⟨rfl, rfl, ⟨rfl, rfl, hk⟩⟩
    · obtain ⟨c, r, e, hc⟩ := numL_head n h0
      rw [e]
      have ei : ix (c :: r).length 0 = some 0 := by
        unfold ix
        rw [if_pos (by omega), if_pos (by rw [List.length_cons]; omega)]
        rfl
      have en : (([c] : List Nat) == [48]) = false := by
        rw [beq_eq_false_iff_ne]
        intro z
        injection z with z
        exact hc z
      simp only [getIx, ei, List.getElem?_cons_zero, opCm, eq_str, en, true_and, Bool.not_false, truth]
      exact hk
theorem numT_at {FT : Nat → Option FD} (hF : FT 56 = some ⟨1, 3, T_is_number⟩) : At FT 1 SpNumT := at_of (C := fun _ => True) hF (fun _ _ => trivial) fun cs cs' _ go => by
  intro i st k x hi hk
  refine go _ _ _ _ rfl ?_
  unfold I60 at hi
  unfold T_is_number
  rw [sCons]
  simp only [sSet, eIf, tOf, eStarts, eC, eVar, isStr, List.map_cons, List.map_nil, List.replicate_succ, List.replicate_zero, List.cons_append, List.nil_append, Nat.reduceSub, List.getElem?_cons_zero, true_and]
  rcases digs_cases i with ⟨n, rfl, e⟩ | ⟨n, rfl, e⟩
  · rw [e]
    have ep : pre [45] (TL.numL n) = false := by
      cases hl : TL.numL n with
      | nil => exact (TL.numL_ne n hl).elim
      | cons c r =>
        have := TL.numL_digits n c (by rw [hl]; simp)
        show ([c] == [45]) = false
        rw [beq_eq_false_iff_ne]
        intro z
        injection z with z
        omega
    simp only [ep, truth, Bool.false_eq_true, if_false, eVar, gName, List.getElem?_cons_zero, List.set_cons_zero, List.set_cons_succ]
    refine num_tail (cs := cs) (n := n) (by omega) (fun h0 => ?_) hk
    subst h0
    exact TL.numL_lt (by decide)
  · rw [e]
    have ep : pre [45] (45 :: TL.numL (n + 1)) = true := rfl
    have es : slc (45 :: TL.numL (n + 1)) (some 1) none = TL.numL (n + 1) := by
      rw [slc_from' (by decide) (by rw [List.length_cons]; omega)]
      rfl
    simp only [ep, truth, if_true, eSl, getSl, eVar, eC, gName, es, List.getElem?_cons_zero, List.set_cons_zero, List.set_cons_succ]
    exact num_tail (cs := cs) (n := n + 1) (by omega) (fun h0 => by omega) hk
/-- a text that may be a name in a text of terms -/
structure Wd (s : List Nat) : Prop where
  ne : s ≠ []
  n32 : 32 ∉ s
  n42 : 42 ∉ s
  n61 : 61 ∉ s
  len : s.length ≤ 20
def SpWord (cs : CS) : Prop := ∀ (s : List Nat) (st : Store) (k x : KV), Wd s → k (.bl true) st → cs 57 [.str s] st k x
theorem word_at {FT : Nat → Option FD} (hF : FT 57 = some ⟨1, 2, T_is_word⟩) : At FT 1 SpWord := at_of (C := fun _ => True) hF (fun _ _ => trivial) fun cs cs' _ go => by
  intro s st k x W hk
  refine go _ _ _ _ rfl ?_
  have en : (s == []) = false := by
    rw [beq_eq_false_iff_ne]
    exact W.ne
  simp only [T_is_word, sRet, eAnd, eNot, eCmp, eB1, eComp, iE, eTup, aCons, aNil, eVar, eC, List.map_cons, List.map_nil, List.replicate_succ, List.replicate_zero, List.cons_append, List.nil_append, Nat.reduceSub, List.getElem?_cons_zero, opCm, eq_str, en, true_and, Bool.not_false, truth, items, isSeq]
  refine ⟨by show 3 ≤ 16777216; decide, comp_map (fun v => .bl false) trivial _ (fun y hy k' hk' => ?_) (by show 3 ≤ 16777216; decide) ?_⟩
  · simp only [List.mem_cons, List.not_mem_nil, or_false] at hy
    have fin : ∀ c, c ∉ s → decide (c ∈ s) = false := fun c h => decide_eq_false h
    rcases hy with rfl | rfl | rfl
    · simp only [turn, gName, tYes, wipe, List.set_cons_zero, List.set_cons_succ, if_true, eCmp, eVar, List.getElem?_cons_zero, List.getElem?_cons_succ, opCm, opIn, fin 32 W.n32]
      exact hk'
    · simp only [turn, gName, tYes, wipe, List.set_cons_zero, List.set_cons_succ, if_true, eCmp, eVar, List.getElem?_cons_zero, List.getElem?_cons_succ, opCm, opIn, fin 42 W.n42]
      exact hk'
    · simp only [turn, gName, tYes, wipe, List.set_cons_zero, List.set_cons_succ, if_true, eCmp, eVar, List.getElem?_cons_zero, List.getElem?_cons_succ, opCm, opIn, fin 61 W.n61]
      exact hk'
  · simp only [List.map_cons, List.map_nil, fAny, asL, allBl, Option.map, List.any_cons, List.any_nil, id, Bool.or_self, Bool.not_false]
    exact hk
end VP
end
section
namespace VP
open VM
def tmV (p : List Nat × Int) : PV := .tup [.str p.1, .int p.2]
def part (p : List Nat × Int) : List Nat := digs p.2 ++ [42] ++ p.1
def TT : List (List Nat × Int) → List Nat
  | [] => [48]
  | p :: r => joinS [32, 43, 32] ((p :: r).map part)
structure GTm (ts : List (List Nat × Int)) : Prop where
  len : ts.length ≤ 40
  ok : ∀ p ∈ ts, Wd p.1 ∧ I60 p.2
theorem part_len {p : List Nat × Int} (h : Wd p.1 ∧ I60 p.2) : (part p).length ≤ 82 := by
  unfold part
  rw [List.length_append, List.length_append, List.length_singleton]
  have := h.1.len
  have := digs_len h.2
  omega
theorem sum_parts {ts : List (List Nat × Int)} (h : ∀ p ∈ ts, Wd p.1 ∧ I60 p.2) : ((ts.map part).map List.length).sum ≤ 82 * ts.length := by
  induction ts with
  | nil => exact Nat.le_refl _
  | cons p r ih =>
    rw [List.map_cons, List.map_cons, List.sum_cons, List.length_cons]
    have h1 := part_len (h p (List.mem_cons_self ..))
    have h2 := ih fun q m => h q (List.mem_cons_of_mem _ m)
    omega
theorem tt_len {ts : List (List Nat × Int)} (G : GTm ts) : (TT ts).length ≤ 4000 := by
  cases ts with
  | nil => show 1 ≤ 4000; decide
  | cons p r =>
    have h1 := VS.join_bound [32, 43, 32] ((p :: r).map part)
    have h2 := sum_parts G.ok
    have h3 := G.len
    rw [List.length_map] at h1
    show (joinS [32, 43, 32] ((p :: r).map part)).length ≤ 4000
    have e3 : ([32, 43, 32] : List Nat).length = 3 := rfl
    rw [e3] at h1
    omega
theorem tms_d : ∀ ts : List (List Nat × Int), isDL 59 (ts.map tmV) = true
  | [] => rfl
  | p :: r => by
    rw [List.map_cons]
    unfold isDL
    rw [tms_d r]
    rfl
theorem join_k {cs : CS} {ts : List (List Nat × Int)} {st : Store} {k : KV} (G : GTm ts) (hne : ts ≠ []) (hk : k (.str (TT ts)) st) :
    (match seqOf st (.lst ((ts.map part).map PV.str)) with
      | some xs => (match asStrs xs with
        | some ss => (ss.map List.length).sum + ss.length * ([32, 43, 32] : List Nat).length ≤ SZ ∧ k (.str (joinS [32, 43, 32] ss)) st
        | none => False)
      | none => False) := by
  simp only [seqOf, asL, asStrs_map]
  have h2 := sum_parts G.ok
  have h3 := G.len
  refine ⟨?_, ?_⟩
  · rw [List.length_map]
    show _ + _ * 3 ≤ 16777216
    omega
  · cases ts with
    | nil => exact (hne rfl).elim
    | cons p r => exact hk
def SpTT (f : Nat) (cs : CS) : Prop := ∀ (ts : List (List Nat × Int)) (st : Store) (k x : KV), GTm ts → k (.str (TT ts)) st → cs f [.tup (ts.map tmV)] st k x
theorem ttext_at {FT : Nat → Option FD} (hF : FT 52 = some ⟨1, 3, T_terms_text⟩) : At FT 1 (SpTT 52) := at_of (C := fun _ => True) hF (fun _ _ => trivial) fun cs cs' _ go => by
  intro ts st k x G hk
  refine go _ _ _ _ rfl ?_
  unfold T_terms_text
  rw [sCons]
  simp only [sIf, tCmp, eTup, aNil, eVar, eC, List.map_cons, List.map_nil, List.replicate_succ, List.replicate_zero, List.cons_append, List.nil_append, Nat.reduceSub, List.getElem?_cons_zero, opCm, opEq, frz]
  refine ⟨by show 0 ≤ 16777216; decide, by show isDL 59 (ts.map tmV) = true; exact tms_d ts, rfl, ?_⟩
  cases ts with
  | nil =>
    have e : eqv (.tup (([] : List (List Nat × Int)).map tmV)) (.tup []) = true := rfl
    rw [e]
    simp only [if_true, sRet, eC]
    exact hk
  | cons p r =>
    have e : eqv (.tup ((p :: r).map tmV)) (.tup []) = false := rfl
    rw [e]
    simp only [Bool.false_eq_true, if_false, sNil, sRet, eJoin, eC, isStr, eComp, iE, eVar, List.getElem?_cons_zero, items, isSeq, true_and]
    refine comp_of tmV (fun p => some (.str (part p))) trivial (p :: r) (fun q hq k' hk' => ?_) (by have := G.len; show _ ≤ 16777216; omega) ?_
    · have l1 := digs_len (G.ok q hq).2
      have l2 := (G.ok q hq).1.len
      simp only [turn, tmV, gTup, gEach, gName, List.length_cons, List.length_nil, tYes, wipe, List.set_cons_zero, List.set_cons_succ, if_true, true_and, eJs, fJs, eFmt, eC, eVar, List.getElem?_cons_zero, List.getElem?_cons_succ, List.nil_append]
      refine ⟨log_small (G.ok q hq).2, by show _ ≤ 16777216; omega, by show _ ≤ 16777216; omega, by rw [List.length_append]; show _ + 1 ≤ 16777216; omega, by rw [List.length_append, List.length_append]; show _ + 1 + _ ≤ 16777216; omega, ?_⟩
      exact hk'
    · rw [show (fun p : List Nat × Int => some (PV.str (part p))) = some ∘ (PV.str ∘ part) from rfl, List.filterMap_eq_map, ← List.map_map]
      exact join_k (cs := cs) G (by simp) hk
theorem ltext_at {FT : Nat → Option FD} (hF : FT 54 = some ⟨1, 3, T__law_terms_text⟩) : At FT 1 (SpTT 54) := at_of (C := fun _ => True) hF (fun _ _ => trivial) fun cs cs' _ go => by
  intro ts st k x G hk
  refine go _ _ _ _ rfl ?_
  unfold T__law_terms_text
  simp only [sRet, eIf, tCmp, eTup, aNil, eVar, eC, List.map_cons, List.map_nil, List.replicate_succ, List.replicate_zero, List.cons_append, List.nil_append, Nat.reduceSub, List.getElem?_cons_zero, opCm, opEq, frz]
  refine ⟨by show 0 ≤ 16777216; decide, by show isDL 59 (ts.map tmV) = true; exact tms_d ts, rfl, ?_⟩
  cases ts with
  | nil =>
    have e : eqv (.tup (([] : List (List Nat × Int)).map tmV)) (.tup []) = true := rfl
    rw [e]
    simp only [Bool.not_true, Bool.false_eq_true, if_false]
    exact hk
  | cons p r =>
    have e : eqv (.tup ((p :: r).map tmV)) (.tup []) = false := rfl
    rw [e]
    simp only [Bool.not_false, if_true, eJoin, eC, isStr, eComp, iE, eVar, List.getElem?_cons_zero, items, isSeq, true_and]
    refine comp_of tmV (fun p => some (.str (part p))) trivial (p :: r) (fun q hq k' hk' => ?_) (by have := G.len; show _ ≤ 16777216; omega) ?_
    · have l1 := digs_len (G.ok q hq).2
      have l2 := (G.ok q hq).1.len
      have l3 : (toString q.2).length ≤ SZ := by
        have e : (digs q.2).length = (toString q.2).length := by
          unfold digs
          rw [List.length_map]
          rfl
        show _ ≤ 16777216
        omega
      simp only [turn, tmV, gTup, gEach, gName, List.length_cons, List.length_nil, tYes, wipe, List.set_cons_zero, List.set_cons_succ, if_true, true_and, eBin, eB1, fStr, eC, eVar, List.getElem?_cons_zero, List.getElem?_cons_succ, opBin, opAdd]
      refine ⟨log_small (G.ok q hq).2, l3, ?_, ?_, ?_⟩
      · show (digs q.2).length + 1 ≤ 16777216
        omega
      · show (digs q.2 ++ [42]).length + _ ≤ 16777216
        rw [List.length_append, List.length_singleton]
        omega
      · exact hk'
    · rw [show (fun p : List Nat × Int => some (PV.str (part p))) = some ∘ (PV.str ∘ part) from rfl, List.filterMap_eq_map, ← List.map_map]
      exact join_k (cs := cs) G (by simp) hk
theorem joinS_L (s : List Nat) : ∀ l : List (List Nat), joinS s l = TL.joinL s l
  | [] => rfl
  | [_] => rfl
  | x :: y :: r => by
    show x ++ s ++ joinS s (y :: r) = x ++ (s ++ TL.joinL s (y :: r))
    rw [joinS_L s (y :: r), List.append_assoc]
theorem part_free {p : List Nat × Int} (h : Wd p.1 ∧ I60 p.2) : 32 ∉ part p ∧ 61 ∉ part p := by
  unfold part
  constructor
  · intro m
    rcases List.mem_append.mp m with m | m
    · rcases List.mem_append.mp m with m | m
      · exact digs_free (by decide) m
      · simp at m
    · exact h.1.n32 m
  · intro m
    rcases List.mem_append.mp m with m | m
    · rcases List.mem_append.mp m with m | m
      · exact digs_free (by decide) m
      · simp at m
    · exact h.1.n61 m
theorem tt_split {ts : List (List Nat × Int)} (G : GTm ts) (hne : ts ≠ []) : spl [32, 43, 32] 0 [] (TT ts) = ts.map part := by
  cases ts with
  | nil => exact (hne rfl).elim
  | cons p r =>
    show spl [32, 43, 32] 0 [] (joinS [32, 43, 32] ((p :: r).map part)) = _
    rw [VS.spl_eq, joinS_L]
    refine TL.spl_join (by simp) fun q m => ?_
    obtain ⟨z, mz, rfl⟩ := List.mem_map.mp m
    exact (part_free (G.ok z mz)).1
theorem part_cut {p : List Nat × Int} : parT [42] (part p) = [.str (digs p.2), .str [42], .str p.1] := by
  unfold parT
  have e : VM.par [42] [] (part p) = some (digs p.2, p.1) := by
    rw [VS.par_eq]
    have h := TL.par_part1 (s := 42) (S := []) (p := digs p.2) (rest := p.1) (acc := []) (digs_free (by decide))
    rw [List.nil_append] at h
    unfold part
    rw [List.append_assoc]
    exact h
  rw [e]
theorem tt_no61 {ts : List (List Nat × Int)} (G : GTm ts) : 61 ∉ TT ts := by
  cases ts with
  | nil =>
    intro m
    rw [show TT [] = [48] from rfl] at m
    simp at m
  | cons p r =>
    intro m
    rcases VS.join_mem [32, 43, 32] ((p :: r).map part) m with m | ⟨z, mz, m⟩
    · simp at m
    · obtain ⟨q, mq, rfl⟩ := List.mem_map.mp mz
      exact (part_free (G.ok q mq)).2 m
theorem tt_not0 {p : List Nat × Int} {r : List (List Nat × Int)} : (TT (p :: r) == [48]) = false := by
  rw [beq_eq_false_iff_ne]
  intro e
  have m : 42 ∈ TT (p :: r) := by
    have m0 : 42 ∈ part p := by
      unfold part
      simp
    show 42 ∈ joinS [32, 43, 32] ((p :: r).map part)
    cases r with
    | nil => exact m0
    | cons q r =>
      show 42 ∈ part p ++ [32, 43, 32] ++ joinS [32, 43, 32] ((q :: r).map part)
      exact List.mem_append_left _ (List.mem_append_left _ m0)
  rw [e] at m
  simp at m
theorem sep_free {p rest : List Nat} (h : 61 ∉ p) : ∀ i, i < p.length → TL.pre [32, 61, 32] ((p ++ ([32, 61, 32] ++ rest)).drop i) = false := fun i hi => by
  cases hp : TL.pre [32, 61, 32] ((p ++ ([32, 61, 32] ++ rest)).drop i) with
  | false => rfl
  | true =>
    have e : ((p ++ ([32, 61, 32] ++ rest)).drop i).take 3 = [32, 61, 32] := eq_of_beq hp
    have e1 : (((p ++ ([32, 61, 32] ++ rest)).drop i).take 3)[1]? = some 61 := by rw [e]; rfl
    rw [List.getElem?_take_of_lt (by decide), List.getElem?_drop] at e1
    by_cases h1 : i + 1 < p.length
    · rw [List.getElem?_append_left h1] at e1
      exact (h (List.mem_of_getElem? e1)).elim
    · have h2 : i + 1 = p.length := by omega
      rw [h2, List.getElem?_append_right (Nat.le_refl _), Nat.sub_self] at e1
      cases e1
def SpRT (cs : CS) : Prop := ∀ (ts : List (List Nat × Int)) (st : Store) (k x : KV), GTm ts → (∀ os, k (.tup (ts.map tmV)) (st ++ os)) → cs 58 [.str (TT ts)] st k x
theorem rterms_at {FT : Nat → Option FD} {d : Nat} (hF : FT 58 = some ⟨1, 6, T_read_terms⟩) (h1 : At FT d SpNumT) (h2 : At FT d SpWord) : At FT (d + 1) SpRT := at_of (C := fun cs => SpNumT cs ∧ SpWord cs) hF (fun n hn => ⟨h1 n hn, h2 n hn⟩) fun cs cs' C go => by
  obtain ⟨N, Wo⟩ := C
  intro ts st k x G hk
  refine go _ _ _ _ rfl ?_
  have tl := tt_len G
  unfold T_read_terms
  rw [sCons]
  simp only [sIf, tNot, tOf, eB1, eVar, List.map_cons, List.map_nil, List.replicate_succ, List.replicate_zero, List.cons_append, List.nil_append, Nat.reduceSub, List.getElem?_cons_zero]
  refine isi_sm (n := 0) trivial ?_
  simp only [kdOf, kdIs, List.any_cons, List.any_nil, Bool.or_false, truth, Bool.not_true, Bool.false_eq_true, if_false, sNil]
  rw [sCons]
  simp only [sIf, tCmp, eVar, eC, List.getElem?_cons_zero, opCm, eq_str, true_and]
  cases ts with
  | nil =>
    have e : (TT [] == [48]) = true := rfl
    rw [e]
    simp only [if_true, sRet, eTup, aNil]
    refine ⟨by show 0 ≤ 16777216; decide, ?_⟩
    have := hk []
    rw [List.append_nil] at this
    exact this
  | cons p r =>
    rw [tt_not0]
    simp only [Bool.false_eq_true, if_false, sNil]
    rw [sCons]
    simp only [sSet, eLstM, aNil, gName, List.set_cons_zero, List.set_cons_succ]
    refine ⟨by show 0 ≤ 16777216; decide, ?_⟩
    rw [sCons]
    simp only [sFor, iE, eSplit, eVar, eC, isStr, List.getElem?_cons_zero, true_and]
    refine ⟨rfl, by show _ + 2 ≤ 16777216; omega, ?_⟩
    rw [tt_split G (by simp)]
    simp only [items]
    refine ⟨rfl, ?_⟩
    refine for_inv (fun rem ρ st' => ∃ done todo : List (List Nat × Int), p :: r = done ++ todo ∧ rem = (todo.map part).map PV.str ∧ st' = st ++ [.lst (done.map tmV)] ∧ ∃ c2 c3 c4 c5, ρ = [some (.str (TT (p :: r))), some (.ref st.length), c2, c3, c4, c5]) ?_ ?_ _ _ _ ⟨[], p :: r, rfl, rfl, rfl, _, _, _, _, rfl⟩
    · rintro v rem ρ st' ⟨done, todo, hu, hr, rfl, c2, c3, c4, c5, rfl⟩
      refine ⟨trivial, fun D' d1 d2 d3 d4 d5 => ?_⟩
      cases todo with
      | nil => cases hr
      | cons q todo =>
        rw [List.map_cons, List.map_cons] at hr
        injection hr with hv hr
        subst hv
        have hq := G.ok q (by rw [hu]; simp)
        have l1 := digs_len hq.2
        simp only [gName, List.set_cons_zero, List.set_cons_succ]
        rw [sCons]
        simp only [sSet, ePartition, eVar, eC, isStr, List.getElem?_cons_zero, List.getElem?_cons_succ, true_and]
        refine ⟨by simp, ?_⟩
        rw [part_cut]
        simp only [gTup, gEach, gName, List.length_cons, List.length_nil, List.set_cons_zero, List.set_cons_succ, true_and]
        rw [sCons]
        simp only [sIf, tOr, tNot, tOf, tCmp, eVar, eC, List.getElem?_cons_zero, List.getElem?_cons_succ, opCm, eq_str, true_and]
        have e42 : (([42] : List Nat) == []) = false := rfl
        rw [e42]
        simp only [Bool.false_eq_true, if_false, eCall, aCons, aNil, eVar, List.getElem?_cons_zero, List.getElem?_cons_succ]
        refine N q.2 _ _ _ hq.2 ?_
        simp only [truth, Bool.not_true, Bool.false_eq_true, if_false, eCall, aCons, aNil, eVar, List.getElem?_cons_zero, List.getElem?_cons_succ]
        refine Wo q.1 _ _ _ hq.1 ?_
        simp only [truth, Bool.not_true, Bool.false_eq_true, if_false, sNil, sExpr, eAppend, eTup, eB1, fIntT, aCons, aNil, eVar, List.getElem?_cons_zero, List.getElem?_cons_succ]
        have eg : (st ++ [SO.lst (done.map tmV)])[st.length]? = some (.lst (done.map tmV)) := by simp
        have dl : done.length ≤ 40 := by
          have := G.len
          rw [hu, List.length_append] at this
          omega
        simp only [asL, eg]
        refine ⟨rfl, q.2, rfl, by omega, by show 2 ≤ 16777216; decide, by rw [List.length_map]; show _ < 16777216; omega, ?_⟩
        refine d4 _ _ ⟨done ++ [q], todo, by rw [hu, List.append_assoc]; rfl, hr, ?_, _, _, _, _, rfl⟩
        simp [tmV]
    · rintro ρ st' ⟨done, todo, hu, hr, rfl, c2, c3, c4, c5, rfl⟩
      have t0 : todo = [] := by
        cases todo with
        | nil => rfl
        | cons z todo => cases hr
      subst t0
      rw [List.append_nil] at hu
      subst hu
      have eg : (st ++ [SO.lst ((p :: r).map tmV)])[st.length]? = some (.lst ((p :: r).map tmV)) := by simp
      simp only [sRet, eB1, fTuple, eVar, List.getElem?_cons_zero, List.getElem?_cons_succ, seqOf, asL, eg]
      exact ⟨trivial, hk _⟩
end VP
end
section
namespace VP
open VM
def base (ts : List (List Nat × Int)) (v : Int) : List Nat := TT ts ++ [32, 61, 32] ++ digs v
def RX (ts : List (List Nat × Int)) (v : Int) : Option Int → List Nat
  | none => base ts v
  | some m => base ts v ++ [32, 109, 111, 100, 32] ++ digs m
def rowV (ts : List (List Nat × Int)) (v m : Int) : PV := .tup [.tup (ts.map tmV), .int v, .int m]
theorem base_len {ts : List (List Nat × Int)} {v : Int} (G : GTm ts) (hv : I60 v) : (base ts v).length ≤ 5000 := by
  unfold base
  rw [List.length_append, List.length_append]
  have := tt_len G
  have := digs_len hv
  show _ + 3 + _ ≤ 5000
  omega
theorem ix0 {a b c : PV} {st : Store} {k : KV} (h : k a st) : getIx (.tup [a, b, c]) (.int 0) st k := h
theorem ix1 {a b c : PV} {st : Store} {k : KV} (h : k b st) : getIx (.tup [a, b, c]) (.int 1) st k := h
theorem ix2 {a b c : PV} {st : Store} {k : KV} (h : k c st) : getIx (.tup [a, b, c]) (.int 2) st k := h
theorem ixl0 {a : PV} {r : List PV} {st : Store} {k : KV} (h : k a st) : getIx (.lst (a :: r)) (.int 0) st k := by
  have e : ix (a :: r).length 0 = some 0 := by
    unfold ix
    rw [if_pos (by omega), if_pos (by rw [List.length_cons]; omega)]
    rfl
  simp only [getIx, asL, e, List.getElem?_cons_zero]
  exact h
theorem ixl1 {a b c : PV} {st : Store} {k : KV} (h : k b st) : getIx (.lst [a, b, c]) (.int 1) st k := h
theorem ixl2 {a b c : PV} {st : Store} {k : KV} (h : k c st) : getIx (.lst [a, b, c]) (.int 2) st k := h
theorem fstr_ok {i : Int} {st : Store} {k : KV} (h : I60 i) (hk : k (.str (digs i)) st) : fStr (.int i) st k := by
  have l1 := digs_len h
  have e : (digs i).length = (toString i).length := by
    unfold digs
    rw [List.length_map]
    rfl
  exact ⟨log_small h, by show _ ≤ 16777216; omega, hk⟩
def SpRo (f : Nat) (cs : CS) : Prop := ∀ (ts : List (List Nat × Int)) (v m : Int) (st : Store) (k x : KV), GTm ts → I60 v → I60 m → k (.str (RX ts v (if 0 < m then some m else none))) st → cs f [rowV ts v m] st k x
theorem rtext_at {FT : Nat → Option FD} {d : Nat} (hF : FT 53 = some ⟨1, 2, T_row_text⟩) (h1 : At FT d (SpTT 52)) : At FT (d + 1) (SpRo 53) := at_of hF h1 fun cs cs' C go => by
  intro ts v m st k x G hv hm hk
  refine go _ _ _ _ rfl ?_
  have tl := tt_len G
  have bl := base_len G hv
  have l1 := digs_len hv
  have l2 := digs_len hm
  unfold T_row_text rowV
  rw [sCons]
  simp only [sSet, eJs, fJs, eFmt, eCall, aCons, aNil, eIx, eVar, eC, List.map_cons, List.map_nil, List.replicate_succ, List.replicate_zero, List.cons_append, List.nil_append, Nat.reduceSub, List.getElem?_cons_zero]
  refine ix0 (C ts _ _ _ G ?_)
  refine ⟨by show _ ≤ 16777216; omega, by rw [List.length_append]; show _ + 3 ≤ 16777216; omega, ix1 ?_⟩
  refine ⟨log_small hv, by show _ ≤ 16777216; omega, by show (base ts v).length ≤ 16777216; omega, ?_⟩
  show sRet _ _ _ _
  simp only [gName, List.set_cons_zero, List.set_cons_succ, sRet, eIf, tCmp, eIx, eVar, eC, List.getElem?_cons_zero, List.getElem?_cons_succ]
  refine ix2 ?_
  simp only [opCm]
  by_cases h : 0 < m
  · rw [if_pos h] at hk
    rw [decide_eq_true h]
    simp only [if_true, eJs, fJs, eFmt, eIx, eVar, eC, List.nil_append, List.getElem?_cons_zero, List.getElem?_cons_succ]
    refine ⟨by show (base ts v).length ≤ 16777216; omega, by rw [List.length_append]; show (base ts v).length + 5 ≤ 16777216; omega, ix2 ⟨log_small hm, by show _ ≤ 16777216; omega, ?_, hk⟩⟩
    rw [List.length_append, List.length_append]
    show (base ts v).length + 5 + _ ≤ 16777216
    omega
  · rw [if_neg h] at hk
    rw [decide_eq_false h]
    simp only [Bool.false_eq_true, if_false]
    exact hk
theorem lrow_at {FT : Nat → Option FD} {d : Nat} (hF : FT 55 = some ⟨1, 2, T__law_row_text⟩) (h1 : At FT d (SpTT 54)) : At FT (d + 1) (SpRo 55) := at_of hF h1 fun cs cs' C go => by
  intro ts v m st k x G hv hm hk
  refine go _ _ _ _ rfl ?_
  have tl := tt_len G
  have bl := base_len G hv
  have l1 := digs_len hv
  have l2 := digs_len hm
  unfold T__law_row_text rowV
  rw [sCons]
  simp only [sSet, eBin, eB1, eCall, aCons, aNil, eIx, eVar, eC, List.map_cons, List.map_nil, List.replicate_succ, List.replicate_zero, List.cons_append, List.nil_append, Nat.reduceSub, List.getElem?_cons_zero]
  refine ix0 (C ts _ _ _ G ?_)
  simp only [opBin, opAdd]
  refine ⟨by show _ + 3 ≤ 16777216; omega, ix1 (fstr_ok hv ⟨?_, ?_⟩)⟩
  · rw [List.length_append]
    show _ + 3 + _ ≤ 16777216
    omega
  show sRet _ _ _ _
  simp only [gName, List.set_cons_zero, List.set_cons_succ, sRet, eIf, tCmp, eIx, eVar, eC, List.getElem?_cons_zero, List.getElem?_cons_succ]
  refine ix2 ?_
  simp only [opCm]
  by_cases h : 0 < m
  · rw [if_pos h] at hk
    rw [decide_eq_true h]
    simp only [if_true, eBin, eB1, eIx, eVar, eC, List.getElem?_cons_zero, List.getElem?_cons_succ, opBin, opAdd]
    refine ⟨by show (base ts v).length + 5 ≤ 16777216; omega, ix2 (fstr_ok hm ⟨?_, hk⟩)⟩
    rw [List.length_append]
    show (base ts v).length + 5 + _ ≤ 16777216
    omega
  · rw [if_neg h] at hk
    rw [decide_eq_false h]
    simp only [Bool.false_eq_true, if_false]
    exact hk
def rest (v : Int) : Option Int → List Nat
  | none => digs v
  | some m => digs v ++ [32, 109, 111, 100, 32] ++ digs m
theorem rx_cut {ts : List (List Nat × Int)} {v : Int} {o : Option Int} (G : GTm ts) : parT [32, 61, 32] (RX ts v o) = [.str (TT ts), .str [32, 61, 32], .str (rest v o)] := by
  have e : RX ts v o = TT ts ++ ([32, 61, 32] ++ rest v o) := by
    cases o with
    | none => simp [RX, base, rest]
    | some m => simp [RX, base, rest]
  unfold parT
  have h := TL.par_part (S := [32, 61, 32]) (p := TT ts) (rest := rest v o) (acc := []) (by simp) (sep_free (tt_no61 G))
  rw [List.nil_append] at h
  rw [VS.par_eq, e, h]
def wordsO (v : Int) : Option Int → List (List Nat)
  | none => [digs v]
  | some m => [digs v, [109, 111, 100], digs m]
theorem rest_words {v : Int} {o : Option Int} : spl [32] 0 [] (rest v o) = wordsO v o := by
  rw [VS.spl_eq]
  cases o with
  | none =>
    refine TL.spl_join (s := 32) (S := []) (parts := [digs v]) (by simp) fun p h => ?_
    rw [List.mem_singleton.mp h]
    exact digs_free (by decide)
  | some m =>
    have e : rest v (some m) = TL.joinL [32] [digs v, [109, 111, 100], digs m] := by
      show digs v ++ [32, 109, 111, 100, 32] ++ digs m = digs v ++ ([32] ++ ([109, 111, 100] ++ ([32] ++ digs m)))
      simp
    rw [e]
    refine TL.spl_join (s := 32) (S := []) (by simp) fun p h => ?_
    simp only [List.mem_cons, List.not_mem_nil, or_false] at h
    rcases h with rfl | rfl | rfl
    · exact digs_free (by decide)
    · decide
    · exact digs_free (by decide)
def SpRR (cs : CS) : Prop := ∀ (ts : List (List Nat × Int)) (v : Int) (o : Option Int) (st : Store) (k x : KV), GTm ts → I60 v → (∀ m, o = some m → I60 m ∧ m ≠ 0) → (∀ os, k (rowV ts v (o.getD 0)) (st ++ os)) → cs 59 [.str (RX ts v o)] st k x
theorem rrow_at {FT : Nat → Option FD} {d : Nat} (hF : FT 59 = some ⟨1, 7, T_read_row⟩) (h1 : At FT d SpNumT) (h2 : At FT d SpRT) : At FT (d + 1) SpRR := at_of (C := fun cs => SpNumT cs ∧ SpRT cs) hF (fun n hn => ⟨h1 n hn, h2 n hn⟩) fun cs cs' C go => by
  obtain ⟨N, R⟩ := C
  intro ts v o st k x G hv ho hk
  refine go _ _ _ _ rfl ?_
  have l1 := digs_len hv
  unfold T_read_row
  rw [sCons]
  simp only [sIf, tNot, tOf, eB1, eVar, List.map_cons, List.map_nil, List.replicate_succ, List.replicate_zero, List.cons_append, List.nil_append, Nat.reduceSub, List.getElem?_cons_zero]
  refine isi_sm (n := 0) trivial ?_
  simp only [kdOf, kdIs, List.any_cons, List.any_nil, Bool.or_false, truth, Bool.not_true, Bool.false_eq_true, if_false, sNil]
  rw [sCons]
  simp only [sSet, ePartition, eVar, eC, isStr, List.getElem?_cons_zero, true_and]
  refine ⟨by simp, ?_⟩
  rw [rx_cut G]
  simp only [gTup, gEach, gName, List.length_cons, List.length_nil, List.set_cons_zero, List.set_cons_succ, true_and]
  rw [sCons]
  simp only [sSet, eCall, aCons, aNil, eVar, List.getElem?_cons_zero, List.getElem?_cons_succ]
  refine R ts _ _ _ G fun os => ?_
  simp only [gName, List.set_cons_zero, List.set_cons_succ]
  rw [sCons]
  simp only [sSet, eSplit, eVar, eC, isStr, List.getElem?_cons_zero, List.getElem?_cons_succ, true_and]
  have rl : (rest v o).length ≤ 200 := by
    cases o with
    | none => show (digs v).length ≤ 200; omega
    | some m =>
      have := digs_len (ho m rfl).1
      show (digs v ++ [32, 109, 111, 100, 32] ++ digs m).length ≤ 200
      rw [List.length_append, List.length_append]
      show _ + 5 + _ ≤ 200
      omega
  refine ⟨rfl, by show _ + 2 ≤ 16777216; omega, ?_⟩
  rw [rest_words]
  simp only [gName, List.set_cons_zero, List.set_cons_succ]
  rw [sCons]
  simp only [sIf, tOr, tNot, tOf, tCmp, eVar, eC, List.getElem?_cons_zero, List.getElem?_cons_succ, opCm, eq_str, true_and]
  have e3 : (([32, 61, 32] : List Nat) == []) = false := rfl
  rw [e3]
  simp only [Bool.false_eq_true, if_false, eB1, eComp, iE, eSl2, eVar, List.getElem?_cons_zero, List.getElem?_cons_succ, asL]
  cases o with
  | none =>
    refine ⟨.inl rfl, rfl, comp_map (fun _ => .bl true) trivial [.str (digs v)] (fun y hy k' hk' => ?_) (by show 1 ≤ 16777216; decide) ?_⟩
    · rw [List.mem_singleton.mp hy]
      simp only [turn, gName, tYes, wipe, List.set_cons_zero, List.set_cons_succ, if_true, eCall, aCons, aNil, eVar, List.getElem?_cons_zero, List.getElem?_cons_succ]
      exact N v _ _ _ hv hk'
    · refine all_fin (fun _ => true) [.str (digs v)] ?_
      simp only [List.all_cons, List.all_nil, Bool.and_self, truth, Bool.not_true, Bool.false_eq_true, if_false, eB1, fLen, bLen, eTup, aCons, aNil, eVar, eC, wordsO, asL, List.map_cons, List.map_nil, Option.map, List.length_cons, List.length_nil, List.getElem?_cons_zero, List.getElem?_cons_succ]
      refine ⟨by show 2 ≤ 16777216; decide, rfl, rfl, ?_⟩
      show sNil _ _ _
      simp only [sNil]
      rw [sCons]
      simp only [sIf, tCmp, eB1, fLen, bLen, asL, Option.map, eVar, eC, List.length_cons, List.length_nil, List.getElem?_cons_zero, List.getElem?_cons_succ, opCm, eq_int, true_and]
      rw [if_pos (show ((((0 + 1 : Nat)) : Int) == 1) = true from rfl)]
      simp only [sRet, eTup, aCons, aNil, eB1, fIntT, eIx, eVar, eC, List.getElem?_cons_zero, List.getElem?_cons_succ]
      exact ixl0 ⟨v, rfl, by omega, by show 3 ≤ 16777216; decide, hk os⟩
  | some m =>
    obtain ⟨hm, hm0⟩ := ho m rfl
    have l2 := digs_len hm
    refine ⟨.inr rfl, rfl, comp_map (fun _ => .bl true) trivial [.str (digs v), .str (digs m)] (fun y hy k' hk' => ?_) (by show 2 ≤ 16777216; decide) ?_⟩
    · simp only [turn, gName, tYes, wipe, List.set_cons_zero, List.set_cons_succ, if_true, eCall, aCons, aNil, eVar, List.getElem?_cons_zero, List.getElem?_cons_succ]
      simp only [List.mem_cons, List.not_mem_nil, or_false] at hy
      rcases hy with rfl | rfl
      · exact N v _ _ _ hv hk'
      · exact N m _ _ _ hm hk'
    · refine all_fin (fun _ => true) [.str (digs v), .str (digs m)] ?_
      simp only [List.all_cons, List.all_nil, Bool.and_self, truth, Bool.not_true, Bool.false_eq_true, if_false, eB1, fLen, bLen, eTup, aCons, aNil, eVar, eC, wordsO, asL, List.map_cons, List.map_nil, Option.map, List.length_cons, List.length_nil, List.getElem?_cons_zero, List.getElem?_cons_succ]
      refine ⟨by show 2 ≤ 16777216; decide, rfl, rfl, ?_⟩
      show sNil _ _ _
      simp only [sNil]
      rw [sCons]
      simp only [sIf, tCmp, eB1, fLen, bLen, asL, Option.map, eVar, eC, List.length_cons, List.length_nil, List.getElem?_cons_zero, List.getElem?_cons_succ, opCm, eq_int, true_and]
      show sNil _ _ _
      simp only [sNil]
      rw [sCons]
      simp only [sIf, tOr, tCmp, eIx, eVar, eC, List.getElem?_cons_zero, List.getElem?_cons_succ]
      refine ixl1 ?_
      simp only [opCm, eq_str, true_and, beq_self_eq_true, Bool.not_true, Bool.false_eq_true, if_false]
      refine ixl2 ?_
      have em : (digs m == [48]) = false := by
        rw [beq_eq_false_iff_ne]
        exact fun z => hm0 (digs_zero z)
      simp only [eq_str, true_and, em, Bool.false_eq_true, if_false, sNil]
      simp only [sRet, eTup, aCons, aNil, eB1, fIntT, eIx, eVar, eC, List.getElem?_cons_zero, List.getElem?_cons_succ]
      exact ixl0 ⟨v, rfl, by omega, ixl2 ⟨m, rfl, by omega, by show 3 ≤ 16777216; decide, hk os⟩⟩
end VP
end
namespace L_k62
open VM VP
def FT : Nat → Option FD
  | 0 => some ⟨1, 4, T__law_bag⟩
  | 1 => some ⟨2, 5, T__law_take⟩
  | 2 => some ⟨2, 2, T__law_of⟩
  | 3 => some ⟨1, 1, T__law_small⟩
  | 4 => some ⟨1, 1, T__law_big_factor⟩
  | 16 => some ⟨2, 4, T__law_same⟩
  | 17 => some ⟨2, 4, T__law_mixed⟩
  | 22 => some ⟨1, 1, T__law_modulus⟩
  | 26 => some ⟨1, 1, T__law_number⟩
  | 46 => some ⟨2, 8, T__law_names⟩
  | 51 => some ⟨3, 5, T__law_terms⟩
  | 52 => some ⟨1, 3, T_terms_text⟩
  | 53 => some ⟨1, 2, T_row_text⟩
  | 54 => some ⟨1, 3, T__law_terms_text⟩
  | 55 => some ⟨1, 2, T__law_row_text⟩
  | 56 => some ⟨1, 3, T_is_number⟩
  | 57 => some ⟨1, 2, T_is_word⟩
  | 58 => some ⟨1, 6, T_read_terms⟩
  | 59 => some ⟨1, 7, T_read_row⟩
  | 60 => some ⟨1, 12, T_law_k62⟩
  | _ => none
end L_k62
section
namespace VP
open VM
theorem wd_of {s : List Nat} (h : nmS s = true) : Wd s := by
  unfold nmS at h
  simp only [Bool.and_eq_true, decide_eq_true_iff, List.all_eq_true] at h
  obtain ⟨⟨h1, h2⟩, h3⟩ := h
  have key : ∀ c ∈ LET, c ≠ 32 ∧ c ≠ 42 ∧ c ≠ 61 := by decide
  refine ⟨fun e => ?_, fun m => (key _ (h3 _ m)).1 rfl, fun m => (key _ (h3 _ m)).2.1 rfl, fun m => (key _ (h3 _ m)).2.2 rfl, by omega⟩
  subst e
  simp at h1
structure Cs62 (cs : CS) : Prop where
  bag : SpBag0 cs
  tk : SpTake cs
  of : SpOf cs
  big : SpBig cs
  md : SpMd cs
  num : SpNum cs
  mixed : SpMixed cs
  names : SpNames cs
  tt : SpTT 52 cs
  lt : SpTT 54 cs
  ro : SpRo 53 cs
  lr : SpRo 55 cs
  rt : SpRT cs
  rr : SpRR cs
  same : SpSame 4 cs
def SpT51 (cs : CS) : Prop := ∀ (nms : List (List Nat)) (r : Nat) (st : Store), nms.length = 11 → (∀ s ∈ nms, Wd s) → Dr cs 51 [.lst (nms.map .str), .int 11] r 34 st fun v _ => ∃ ts, v = .tup (ts.map tmV) ∧ GTm ts
theorem i60 {i : Int} {n : Nat} (h : i.natAbs ≤ n) (hn : n < 10 ^ 60) : I60 i := Nat.lt_of_le_of_lt h hn
theorem terms51_at {FT : Nat → Option FD} {d : Nat} (hF : FT 51 = some ⟨3, 5, T__law_terms⟩) (h1 : At FT d SpTake) (h2 : At FT d SpMixed) (h3 : At FT d SpBig) : At FT (d + 1) SpT51 := at_of (C := fun cs => SpTake cs ∧ SpMixed cs ∧ SpBig cs) hF (fun n hn => ⟨h1 n hn, h2 n hn, h3 n hn⟩) fun cs cs' C go => by
  obtain ⟨tk, mx, big⟩ := C
  intro nms r st nl nok b k x hb hk
  refine go _ _ _ _ rfl ?_
  unfold T__law_terms
  rw [sCons]
  simp only [sSet, eSl, eCall, eBin, aCons, aNil, eVar, eC, List.map_cons, List.map_nil, List.replicate_succ, List.replicate_zero, List.cons_append, List.nil_append, Nat.reduceSub, List.getElem?_cons_zero, List.getElem?_cons_succ]
  have nlm : (nms.map PV.str).length = 11 := by rw [List.length_map, nl]
  refine mx r (.lst (nms.map .str)) (nms.map .str) st rfl (by simp) (by rw [nlm]; decide) (b + 23) _ _ (by rw [nlm]; exact hb.le (by omega)) fun v st2 hv hb2 k2 => ?_
  obtain ⟨ys, rfl, hys, hp⟩ := hv
  simp only [opBin, opAdd]
  refine tk r (11 + 1) (by decide) st2 (b + 22) _ _ hb2 fun v st3 hv hb3 k3 => ?_
  obtain ⟨d, rfl, d0, d1⟩ := hv
  obtain ⟨zs, rfl, hz⟩ := perm_strs hp
  have rlt : r < st.length := hb.lt
  have h3 : st3[st.length]? = some (.lst (zs.map .str)) := by
    rw [k3.2 st.length (by omega) (List.getElem?_eq_some_iff.mp hys).1]
    exact hys
  have zl : zs.length = 11 := by rw [hz.length_eq, nl]
  simp only [getSl, asL, h3]
  rw [slc_to' d0 (by rw [List.length_map, zl]; omega), ← List.map_take]
  have tl : (zs.take d.toNat).length ≤ 11 := by rw [List.length_take]; omega
  have tok : ∀ s ∈ zs.take d.toNat, Wd s := fun s m => nok s (hz.mem_iff.mp (List.mem_of_mem_take m))
  have kp := k2.trans k3
  revert tl tok
  generalize zs.take d.toNat = us
  intro tl tok
  simp only [gName, List.set_cons_zero, List.set_cons_succ, sRet, eB1, eComp, iE, eVar, List.getElem?_cons_zero, List.getElem?_cons_succ, items]
  refine ⟨rfl, ?_⟩
  refine comp_inv (fun rem acc st' => ∃ (todo : List (List Nat)) (ts : List (List Nat × Int)), us = ts.map (·.1) ++ todo ∧ rem = todo.map PV.str ∧ acc = ts.map tmV ∧ (∀ p ∈ ts, Wd p.1 ∧ I60 p.2) ∧ Bag st' r (b + todo.length * 2) ∧ Keep r st st') ?_ ?_ _ [] st3 ⟨us, [], rfl, rfl, rfl, by simp, hb3.le (by omega), kp⟩
  · rintro y rem acc st' ⟨todo, ts, hu, hr, rfl, hok, hb', kp'⟩
    refine ⟨trivial, fun k' hk' => ?_⟩
    cases todo with
    | nil => cases hr
    | cons z todo =>
      rw [List.map_cons] at hr
      injection hr with hy hr
      subst hy
      have zok : Wd z := tok z (by rw [hu]; simp)
      have dl : ts.length ≤ 11 := by rw [hu, List.length_append, List.length_map] at tl; omega
      rw [List.length_cons] at hb'
      simp only [turn, gName, tYes, wipe, List.set_cons_zero, List.set_cons_succ, if_true, eTup, eCall, aCons, aNil, eVar, List.getElem?_cons_zero, List.getElem?_cons_succ]
      refine big r st' (b + todo.length * 2) _ _ (hb'.le (by omega)) fun v st4 hv hb4 k4 => ?_
      obtain ⟨c, rfl, hc⟩ := hv
      refine ⟨by show 2 ≤ 16777216; decide, ?_⟩
      refine hk' _ _ ⟨by rw [List.length_map]; show _ < 16777216; omega, todo, ts ++ [(z, c)], by rw [hu, List.map_append, List.append_assoc]; rfl, hr, by rw [List.map_append]; rfl, fun p mp => ?_, hb4, kp'.trans k4⟩
      rcases List.mem_append.mp mp with mp | mp
      · exact hok p mp
      · rw [List.mem_singleton.mp mp]
        exact ⟨zok, i60 hc (by decide)⟩
  · rintro acc st' ⟨todo, ts, hu, hr, rfl, hok, hb', kp'⟩
    refine ⟨trivial, ?_⟩
    have t0 : todo = [] := by
      cases todo with
      | nil => rfl
      | cons z todo => cases hr
    subst t0
    rw [List.append_nil] at hu
    have dl : ts.length ≤ 11 := by rw [hu, List.length_map] at tl; exact tl
    simp only [fTuple, seqOf, asL]
    exact hk _ _ ⟨ts, rfl, ⟨by omega, hok⟩⟩ hb' kp'
theorem Bag.apps {st : Store} {r b : Nat} (h : Bag st r b) : ∀ os : List SO, Bag (st ++ os) r b := fun os => by
  induction os generalizing st with
  | nil => rw [List.append_nil]; exact h
  | cons o os ih =>
    have := ih (st := st ++ [o]) h.app
    rw [List.append_assoc] at this
    exact this
theorem sm_tms {ts : List (List Nat × Int)} (G : GTm ts) : Sm 2 (.tup (ts.map tmV)) := sm_tuple (by rw [List.length_map]; have := G.len; omega) fun y m => by
  obtain ⟨p, _, rfl⟩ := List.mem_map.mp m
  exact sm_tuple (by show 2 ≤ 1000; decide) fun w mw => by
    simp only [List.mem_cons, List.not_mem_nil, or_false] at mw
    rcases mw with rfl | rfl <;> trivial
theorem sm_row {ts : List (List Nat × Int)} {v m : Int} (G : GTm ts) : Sm 3 (rowV ts v m) := sm_tuple (by show 3 ≤ 1000; decide) fun y my => by
  simp only [List.mem_cons, List.not_mem_nil, or_false] at my
  rcases my with rfl | rfl | rfl
  · exact sm_tms G
  · trivial
  · trivial
theorem sm_pair {a b : PV} (ha : Sm 3 a) (hb : Sm 3 b) : Sm 4 (.lst [a, b]) := sm_list (by show 2 ≤ 1000; decide) fun y my => by
  simp only [List.mem_cons, List.not_mem_nil, or_false] at my
  rcases my with rfl | rfl
  · exact ha
  · exact hb
theorem getD_if {m : Int} (h : 0 ≤ m) : (if 0 < m then some m else none : Option Int).getD 0 = m := by
  by_cases h1 : 0 < m
  · rw [if_pos h1]; rfl
  · rw [if_neg h1]
    show (0 : Int) = m
    omega
def body62b (cs : CS) : TS := (sCons (sSet (gName 7) (eB1 fTuple (eComp (iRange1 (eCall cs 1 (aCons (eVar 1) (aCons (eC (.int 4)) aNil)))) (gName 8) tYes (eTup (aCons (eCall cs 2 (aCons (eVar 1) (aCons (eLst (aCons (eC (.str [65])) (aCons (eC (.str [97, 45, 98])) (aCons (eC (.str [109, 111, 100])) (aCons (eC (.str [55])) (aCons (eC (.str [108, 111, 110, 103, 108, 111, 110, 103, 108, 111, 110, 103])) (aCons (eC (.str [43])) (aCons (eC (.str [97, 10, 98])) (aCons (eIx (eVar 2) (eC (.int 0))) aNil))))))))) aNil))) (aCons (eCall cs 2 (aCons (eVar 1) (aCons (eLst (aCons (eBin .sub (eC (.int 5)) (eBin .pow (eC (.int 10)) (eC (.int 59)))) (aCons (eBin .sub (eBin .pow (eC (.int 10)) (eC (.int 60))) (eC (.int 1))) (aCons (eC (.int 0)) (aCons (eC (.int 2)) aNil))))) aNil))) aNil))) [8])))
    (sCons (sSet (gName 9) (eTup (aCons (eVar 7) (aCons (eCall cs 2 (aCons (eVar 1) (aCons (eLst (aCons (eBin .sub (eBin .pow (eC (.int 10)) (eC (.int 60))) (eC (.int 1))) (aCons (eBin .sub (eC (.int 0)) (eBin .pow (eC (.int 10)) (eC (.int 59)))) (aCons (eC (.int 0)) aNil)))) aNil))) (aCons (eCall cs 2 (aCons (eVar 1) (aCons (eLst (aCons (eC (.int 0)) (aCons (eC (.int 1)) (aCons (eNeg (eC (.int 7))) (aCons (eBin .sub (eBin .pow (eC (.int 10)) (eC (.int 60))) (eC (.int 1))) aNil))))) aNil))) aNil)))))
    (sCons (sSet (gName 10) (eBin .add (eBin .add (eCall cs 54 (aCons (eVar 7) aNil)) (eC (.str [32, 61, 32]))) (eB1 fStr (eIx (eVar 9) (eC (.int 1))))))
    (sCons (sIf (tCmp .ne (eIx (eVar 9) (eC (.int 2))) (eC (.int 0)))
    (sSet (gName 10) (eBin .add (eBin .add (eVar 10) (eC (.str [32, 109, 111, 100, 32]))) (eB1 fStr (eIx (eVar 9) (eC (.int 2))))))
    sNil)
    (sIf (tNot (tOf (eCall cs 16 (aCons (eLst (aCons (eCall cs 59 (aCons (eVar 10) aNil)) (aCons (eCall cs 58 (aCons (eCall cs 54 (aCons (eVar 7) aNil)) aNil)) aNil))) (aCons (eLst (aCons (eVar 9) (aCons (eVar 7) aNil))) aNil)))))
    (sRet (eC (.bl false)))
    sNil)))))
def b62c (cs : CS) : TS := (sCons (sIf (tNot (tOf (eCall cs 16 (aCons (eLst (aCons (eCall cs 59 (aCons (eCall cs 53 (aCons (eVar 6) aNil)) aNil)) (aCons (eCall cs 58 (aCons (eCall cs 52 (aCons (eVar 4) aNil)) aNil)) aNil))) (aCons (eLst (aCons (eVar 6) (aCons (eVar 4) aNil))) aNil)))))
    (sRet (eC (.bl false)))
    sNil)
    (body62b cs))
def b62b (cs : CS) : TS := (sCons (sIf (tNot (tOf (eCall cs 16 (aCons (eLst (aCons (eCall cs 53 (aCons (eVar 6) aNil)) (aCons (eCall cs 52 (aCons (eVar 4) aNil)) aNil))) (aCons (eLst (aCons (eCall cs 55 (aCons (eVar 6) aNil)) (aCons (eCall cs 54 (aCons (eVar 4) aNil)) aNil))) aNil)))))
    (sRet (eC (.bl false)))
    sNil)
    (b62c cs))
def b62a (cs : CS) : TS := (sCons (sSet (gName 6) (eTup (aCons (eVar 4) (aCons (eVar 5) (aCons (eCall cs 22 (aCons (eVar 1) aNil)) aNil)))))
    (b62b cs))
def body62 (cs : CS) : TS := (sCons (sPar [4, 5] (aCons (eCall cs 51 (aCons (eVar 1) (aCons (eVar 2) (aCons (eC (.int 11)) aNil)))) (aCons (eCall cs 2 (aCons (eVar 1) (aCons (eLst (aCons (eCall cs 26 (aCons (eVar 1) aNil)) (aCons (eBin .pow (eC (.int 10)) (eC (.int 12))) (aCons (eBin .sub (eC (.int 0)) (eBin .pow (eC (.int 10)) (eC (.int 12)))) aNil)))) aNil))) aNil)))
    (b62a cs))
def tail62 (cs : CS) : TS := (sCons (sSet (gName 11) (eB1 fTuple (eComp (iRange1 (eBin .add (eC (.int 13)) (eCall cs 1 (aCons (eVar 1) (aCons (eC (.int 20)) aNil))))) (gName 8) tYes (eTup (aCons (eIx (eVar 2) (eBin .mod (eB1 fInt (eVar 8)) (eC (.int 11)))) (aCons (eBin .sub (eVar 8) (eC (.int 6))) aNil))) [8])))
    (sCons (sSet (gName 10) (eCall cs 54 (aCons (eVar 11) aNil)))
    (sCons (sIf (tNot (tOf (eCall cs 16 (aCons (eLst (aCons (eCall cs 58 (aCons (eVar 10) aNil)) (aCons (eCall cs 59 (aCons (eBin .add (eVar 10) (eC (.str [32, 61, 32, 53, 32, 109, 111, 100, 32, 51]))) aNil)) aNil))) (aCons (eLst (aCons (eVar 11) (aCons (eTup (aCons (eVar 11) (aCons (eC (.int 5)) (aCons (eC (.int 3)) aNil)))) aNil))) aNil)))))
    (sRet (eC (.bl false)))
    sNil)
    (sRet (eCall cs 16 (aCons (eLst (aCons (eCall cs 53 (aCons (eTup (aCons (eTup aNil) (aCons (eC (.int 0)) (aCons (eC (.int 0)) aNil)))) aNil)) (aCons (eCall cs 59 (aCons (eC (.str [48, 32, 61, 32, 45, 51, 32, 109, 111, 100, 32, 50])) aNil)) (aCons (eCall cs 58 (aCons (eC (.str [48])) aNil)) aNil)))) (aCons (eLst (aCons (eC (.str [48, 32, 61, 32, 48])) (aCons (eTup (aCons (eTup aNil) (aCons (eNeg (eC (.int 3))) (aCons (eC (.int 2)) aNil)))) (aCons (eTup aNil) aNil)))) aNil)))))))
end VP
end
section
namespace VP
open VM
theorem z2 : (2 : Nat) ≤ SZ := by show 2 ≤ 16777216; decide
theorem z3 : (3 : Nat) ≤ SZ := by show 3 ≤ 16777216; decide
theorem z4 : (4 : Nat) ≤ SZ := by show 4 ≤ 16777216; decide
theorem z8 : (8 : Nat) ≤ SZ := by show 8 ≤ 16777216; decide
theorem p60 : PowOk 10 60 := ⟨by decide, by decide, by decide⟩
theorem p59 : PowOk 10 59 := ⟨by decide, by decide, by decide⟩
theorem p12 : PowOk 10 12 := ⟨by decide, by decide, by decide⟩
theorem ts_fst {st : Store} {s : List Nat} {r : List PV} {k : KV} (h : k (.str s) st) : getIx (.lst (.str s :: r)) (.int 0) st k := ixl0 h
/-- terms drawn freely -/
theorem body62b_ok {cs : CS} (C : Cs62 cs) {nms : List (List Nat)} (nl : nms.length = 11) (nok : ∀ s ∈ nms, Wd s) {v0 : PV} {t c4 c5 c6 c7 c8 c9 c10 c11 : Option PV} {n : Nat} {st : Store} {D : Ends} (hb : Bag st 0 (n + 9))
    (hk : ∀ ρ2 st2, (∃ c3 c4 c5 c6 c7 c8 c9 c10 c11, ρ2 = [some v0, some (.ref 0), some (.lst (nms.map .str)), c3, c4, c5, c6, c7, c8, c9, c10, c11]) → Bag st2 0 n → D.nx ρ2 st2) :
    body62b cs D [some v0, some (.ref 0), some (.lst (nms.map .str)), t, c4, c5, c6, c7, c8, c9, c10, c11] st := by
  have e59 : (10 : Int) ^ Int.toNat 59 = 100000000000000000000000000000000000000000000000000000000000 := by decide
  have e60 : (10 : Int) ^ Int.toNat 60 = 1000000000000000000000000000000000000000000000000000000000000 := by decide
  obtain ⟨n0, nr, en⟩ : ∃ n0 nr, nms = n0 :: nr := by
    cases nms with
    | nil => cases nl
    | cons a b => exact ⟨a, b, rfl⟩
  have w0 : Wd n0 := nok n0 (by rw [en]; simp)
  unfold body62b
  rw [sCons]
  simp only [sSet, eB1, eComp, iRange1, eCall, aCons, aNil, eVar, eC, List.getElem?_cons_zero, List.getElem?_cons_succ]
  refine C.tk 0 4 (by decide) st (n + 8) _ _ hb fun v st1 hv hb1 k1 => ?_
  obtain ⟨m, rfl, m0, m1⟩ := hv
  refine ⟨by unfold i62; omega, ?_⟩
  have hn : ((List.range m.toNat).map fun i : Nat => PV.int (i : Int)).length = m.toNat := by rw [List.length_map, List.length_range]
  refine comp_inv (fun rem acc st' => ∃ ts : List (List Nat × Int), acc = ts.map tmV ∧ ts.length + rem.length ≤ 3 ∧ (∀ p ∈ ts, Wd p.1 ∧ I60 p.2) ∧ Bag st' 0 (n + 2 + rem.length * 2)) ?_ ?_ _ [] st1 ⟨[], rfl, by rw [hn]; simp; omega, by simp, by rw [hn]; exact hb1.le (by omega)⟩
  · rintro y rem acc st' ⟨ts, rfl, hl, hok, hb'⟩
    refine ⟨trivial, fun k' hk' => ?_⟩
    rw [List.length_cons] at hl hb'
    simp only [turn, gName, tYes, wipe, List.set_cons_zero, List.set_cons_succ, if_true, eTup, eCall, eLst, eIx, eBin, aCons, aNil, eVar, eC, List.getElem?_cons_zero, List.getElem?_cons_succ]
    rw [en, List.map_cons]
    refine ts_fst ⟨z8, ?_⟩
    refine C.of 0 (.lst _) _ st' rfl (by simp) (by simp) (fun _ e => by cases e) (n + 2 + rem.length * 2 + 1) _ _ (hb'.le (by omega)) fun v st4 hv hb4 k4 => ?_
    obtain ⟨w, rfl, hw⟩ : ∃ w : List Nat, v = .str w ∧ Wd w := by
      simp only [List.mem_cons, List.not_mem_nil, or_false] at hv
      rcases hv with h | h | h | h | h | h | h | h
      · exact ⟨_, h, by decide, by decide, by decide, by decide, by decide⟩
      · exact ⟨_, h, by decide, by decide, by decide, by decide, by decide⟩
      · exact ⟨_, h, by decide, by decide, by decide, by decide, by decide⟩
      · exact ⟨_, h, by decide, by decide, by decide, by decide, by decide⟩
      · exact ⟨_, h, by decide, by decide, by decide, by decide, by decide⟩
      · exact ⟨_, h, by decide, by decide, by decide, by decide, by decide⟩
      · exact ⟨_, h, by decide, by decide, by decide, by decide, by decide⟩
      · exact ⟨_, h, w0⟩
    simp only [opBin, opPow, opSub, e59, e60]
    refine ⟨p59, p60, z4, ?_⟩
    refine C.of 0 (.lst _) _ st4 rfl (by simp) (by simp) (fun _ e => by cases e) (n + 2 + rem.length * 2) _ _ hb4 fun v st5 hv hb5 k5 => ?_
    obtain ⟨f, rfl, hf⟩ : ∃ f : Int, v = .int f ∧ I60 f := by
      simp only [List.mem_cons, List.not_mem_nil, or_false] at hv
      rcases hv with h | h | h | h
      · exact ⟨_, h, by unfold I60; decide⟩
      · exact ⟨_, h, by unfold I60; decide⟩
      · exact ⟨_, h, by unfold I60; decide⟩
      · exact ⟨_, h, by unfold I60; decide⟩
    refine ⟨z2, hk' _ _ ⟨by rw [List.length_map]; show _ < 16777216; omega, ts ++ [(w, f)], by rw [List.map_append]; rfl, by rw [List.length_append, List.length_singleton]; omega, fun p mp => ?_, hb5⟩⟩
    rcases List.mem_append.mp mp with mp | mp
    · exact hok p mp
    · rw [List.mem_singleton.mp mp]
      exact ⟨hw, hf⟩
  · rintro acc st2 ⟨ts, rfl, hl, hok, hb2⟩
    refine ⟨trivial, ?_⟩
    have G : GTm ts := ⟨by omega, hok⟩
    have hb2' : Bag st2 0 (n + 2) := hb2.le (by omega)
    have tl := tt_len G
    simp only [fTuple, seqOf, asL, wipe, gName, List.set_cons_zero, List.set_cons_succ]
    rw [sCons]
    simp only [sSet, eTup, eCall, eLst, eBin, eNeg, aCons, aNil, eVar, eC, List.getElem?_cons_zero, List.getElem?_cons_succ, opBin, opPow, opSub, e59, e60]
    refine ⟨p60, p59, z3, ?_⟩
    refine C.of 0 (.lst _) _ st2 rfl (by simp) (by simp) (fun _ e => by cases e) (n + 1) _ _ hb2' fun v st3 hv hb3 k3 => ?_
    obtain ⟨va, rfl, hva⟩ : ∃ f : Int, v = .int f ∧ I60 f := by
      simp only [List.mem_cons, List.not_mem_nil, or_false] at hv
      rcases hv with h | h | h
      · exact ⟨_, h, by unfold I60; decide⟩
      · exact ⟨_, h, by unfold I60; decide⟩
      · exact ⟨_, h, by unfold I60; decide⟩
    refine ⟨p60, z4, ?_⟩
    refine C.of 0 (.lst _) _ st3 rfl (by simp) (by simp) (fun _ e => by cases e) n _ _ hb3 fun v st4 hv hb4 k4 => ?_
    obtain ⟨mo, rfl, hmo⟩ : ∃ f : Int, v = .int f ∧ I60 f := by
      simp only [List.mem_cons, List.not_mem_nil, or_false] at hv
      rcases hv with h | h | h | h
      · exact ⟨_, h, by unfold I60; decide⟩
      · exact ⟨_, h, by unfold I60; decide⟩
      · exact ⟨_, h, by unfold I60; decide⟩
      · exact ⟨_, h, by unfold I60; decide⟩
    refine ⟨z3, ?_⟩
    have bl := base_len G hva
    have l2 := digs_len hmo
    simp only [gName, List.set_cons_zero, List.set_cons_succ]
    rw [sCons]
    simp only [sSet, eBin, eB1, eCall, aCons, aNil, eIx, eVar, eC, List.getElem?_cons_zero, List.getElem?_cons_succ]
    refine C.lt ts _ _ _ G ?_
    simp only [opBin, opAdd]
    refine ⟨by show _ + 3 ≤ 16777216; omega, ix1 (fstr_ok hva ⟨?_, ?_⟩)⟩
    · have := digs_len hva
      rw [List.length_append]
      show _ + 3 + _ ≤ 16777216
      omega
    have fin : ∀ (o : Option Int) (st5 : Store), Bag st5 0 n → (∀ m, o = some m → I60 m ∧ m ≠ 0) → o.getD 0 = mo →
        sIf (tNot (tOf (eCall cs 16 (aCons (eLst (aCons (eCall cs 59 (aCons (eVar 10) aNil)) (aCons (eCall cs 58 (aCons (eCall cs 54 (aCons (eVar 7) aNil)) aNil)) aNil))) (aCons (eLst (aCons (eVar 9) (aCons (eVar 7) aNil))) aNil))))) (sRet (eC (.bl false))) sNil D
        [some v0, some (.ref 0), some (.lst (nms.map .str)), t, c4, c5, c6, some (.tup (ts.map tmV)), c8, some (rowV ts va mo), some (.str (RX ts va o)), c11] st5 := fun o st5 hb5 ho eo => by
      simp only [sIf, tNot, tOf, eCall, eLst, aCons, aNil, eVar, List.getElem?_cons_zero, List.getElem?_cons_succ]
      refine C.rr ts va o _ _ _ G hva ho fun os => ?_
      refine C.lt ts _ _ _ G (C.rt ts _ _ _ G fun os2 => ⟨z2, z2, ?_⟩)
      rw [eo]
      refine C.same (.lst [rowV ts va mo, .tup (ts.map tmV)]) _ _ _ (sm_pair (sm_row G) (sm_mono (sm_tms G) (by decide))) ?_
      simp only [truth, Bool.not_true, Bool.false_eq_true, if_false, sNil]
      exact hk _ _ ⟨_, _, _, _, _, _, _, _, _, rfl⟩ ((hb5.apps os).apps os2)
    simp only [gName, List.set_cons_zero, List.set_cons_succ]
    rw [sCons]
    simp only [sIf, tCmp, eIx, eVar, eC, List.getElem?_cons_zero, List.getElem?_cons_succ]
    refine ix2 ?_
    simp only [opCm, eq_int, true_and]
    by_cases h0 : mo = 0
    · have e0 : (mo == 0) = true := by rw [h0]; rfl
      rw [e0]
      simp only [Bool.not_true, Bool.false_eq_true, if_false]
      show sNil _ _ _
      simp only [sNil]
      exact fin none st4 hb4 (fun _ e => nomatch e) h0.symm
    · have e0 : (mo == 0) = false := by simpa using h0
      rw [e0]
      simp only [Bool.not_false, if_true, sSet, eBin, eB1, eIx, eVar, eC, List.getElem?_cons_zero, List.getElem?_cons_succ, opBin, opAdd]
      refine ⟨by show (base ts va).length + 5 ≤ 16777216; omega, ix2 (fstr_ok hmo ⟨?_, ?_⟩)⟩
      · rw [List.length_append]
        show (base ts va).length + 5 + _ ≤ 16777216
        omega
      · simp only [gName, List.set_cons_zero, List.set_cons_succ]
        exact fin (some mo) st4 hb4 (fun m e => by cases e; exact ⟨hmo, h0⟩) rfl
theorem body62_ok {cs : CS} (C : Cs62 cs) (T : SpT51 cs) {nms : List (List Nat)} (nl : nms.length = 11) (nok : ∀ s ∈ nms, Wd s) {v0 : PV} {t c4 c5 c6 c7 c8 c9 c10 c11 : Option PV} {n : Nat} {st : Store} {D : Ends} (hb : Bag st 0 (n + 51))
    (hk : ∀ ρ2 st2, (∃ c3 c4 c5 c6 c7 c8 c9 c10 c11, ρ2 = [some v0, some (.ref 0), some (.lst (nms.map .str)), c3, c4, c5, c6, c7, c8, c9, c10, c11]) → Bag st2 0 n → D.nx ρ2 st2) :
    body62 cs D [some v0, some (.ref 0), some (.lst (nms.map .str)), t, c4, c5, c6, c7, c8, c9, c10, c11] st := by
  have e12 : (10 : Int) ^ Int.toNat 12 = 1000000000000 := by decide
  unfold body62
  rw [sCons]
  simp only [sPar, eCall, aCons, eVar, List.getElem?_cons_zero, List.getElem?_cons_succ]
  refine T nms 0 st nl nok (n + 17) _ _ hb fun v st1 hv hb1 k1 => ?_
  obtain ⟨ts, rfl, G⟩ := hv
  simp only [eCall, eLst, eBin, aCons, eVar, eC, List.getElem?_cons_zero, List.getElem?_cons_succ]
  refine C.num 0 st1 (n + 13) _ _ hb1 fun v st2 hv hb2 k2 => ?_
  obtain ⟨c, rfl, hc⟩ := hv
  simp only [opBin, opPow, opSub, e12]
  refine ⟨p12, p12, z3, ?_⟩
  refine C.of 0 (.lst _) _ st2 rfl (by simp) (by simp) (fun _ e => by cases e) (n + 12) _ _ hb2 fun v st3 hv hb3 k3 => ?_
  obtain ⟨va, rfl, hva⟩ : ∃ f : Int, v = .int f ∧ I60 f := by
    simp only [List.mem_cons, List.not_mem_nil, or_false] at hv
    rcases hv with h | h | h
    · exact ⟨_, h, i60 hc (by decide)⟩
    · exact ⟨_, h, by unfold I60; decide⟩
    · exact ⟨_, h, by unfold I60; decide⟩
  show b62a cs D [some v0, some (.ref 0), some (.lst (nms.map .str)), t, some (.tup (ts.map tmV)), some (.int va), c6, c7, c8, c9, c10, c11] st3
  unfold b62a
  rw [sCons]
  simp only [sSet, eTup, eCall, aCons, eVar, List.getElem?_cons_zero, List.getElem?_cons_succ]
  refine C.md 0 st3 (n + 9) _ _ hb3 fun v st4 hv hb4 k4 => ⟨z3, ?_⟩
  obtain ⟨m, rfl, m0, m1, m2⟩ := hv
  have hm : I60 m := i60 (n := 1000000) (by omega) (by decide)
  have ho : ∀ q, (if 0 < m then some m else none : Option Int) = some q → I60 q ∧ q ≠ 0 := fun q e => by
    by_cases h : 0 < m
    · rw [if_pos h] at e
      cases e
      exact ⟨hm, by omega⟩
    · rw [if_neg h] at e
      cases e
  show b62b cs D [some v0, some (.ref 0), some (.lst (nms.map .str)), t, some (.tup (ts.map tmV)), some (.int va), some (rowV ts va m), c7, c8, c9, c10, c11] st4
  unfold b62b
  rw [sCons]
  simp only [sIf, tNot, tOf, eCall, eLst, aCons, eVar, List.getElem?_cons_zero, List.getElem?_cons_succ]
  refine C.ro ts va m _ _ _ G hva hm (C.tt ts _ _ _ G ⟨z2, C.lr ts va m _ _ _ G hva hm (C.lt ts _ _ _ G ⟨z2, ?_⟩)⟩)
  refine C.same (.lst [.str (RX ts va (if 0 < m then some m else none)), .str (TT ts)]) _ _ _ (sm_pair trivial trivial) ?_
  show b62c cs D [some v0, some (.ref 0), some (.lst (nms.map .str)), t, some (.tup (ts.map tmV)), some (.int va), some (rowV ts va m), c7, c8, c9, c10, c11] st4
  unfold b62c
  rw [sCons]
  simp only [sIf, tNot, tOf, eCall, eLst, aCons, eVar, List.getElem?_cons_zero, List.getElem?_cons_succ]
  refine C.ro ts va m _ _ _ G hva hm (C.rr ts va _ _ _ _ G hva ho fun os => C.tt ts _ _ _ G (C.rt ts _ _ _ G fun os2 => ⟨z2, z2, ?_⟩))
  rw [getD_if m0]
  refine C.same (.lst [rowV ts va m, .tup (ts.map tmV)]) _ _ _ (sm_pair (sm_row G) (sm_mono (sm_tms G) (by decide))) ?_
  show body62b cs D [some v0, some (.ref 0), some (.lst (nms.map .str)), t, some (.tup (ts.map tmV)), some (.int va), some (rowV ts va m), c7, c8, c9, c10, c11] _
  exact body62b_ok C nl nok ((hb4.apps os).apps os2) hk
end VP
end
section
namespace VP
open VM
theorem digs_num {n : Nat} (h : n < 10) : digs (n : Int) = [48 + n] := by rw [digs_nat, TL.numL_lt h]
theorem gtm0 : GTm [] := ⟨by decide, fun _ m => nomatch m⟩
theorem rx5 {ts : List (List Nat × Int)} : RX ts 5 (some 3) = TT ts ++ [32, 61, 32, 53, 32, 109, 111, 100, 32, 51] := by
  have e5 : digs 5 = [53] := digs_num (n := 5) (by decide)
  have e3 : digs 3 = [51] := digs_num (n := 3) (by decide)
  show TT ts ++ [32, 61, 32] ++ digs 5 ++ [32, 109, 111, 100, 32] ++ digs 3 = _
  rw [e5, e3]
  simp
theorem rx0 : RX [] 0 none = [48, 32, 61, 32, 48] := by
  have e0 : digs 0 = [48] := digs_num (n := 0) (by decide)
  show [48] ++ [32, 61, 32] ++ digs 0 = _
  rw [e0]
  rfl
theorem rx3 : RX [] (-3) (some 2) = [48, 32, 61, 32, 45, 51, 32, 109, 111, 100, 32, 50] := by
  have e2 : digs 2 = [50] := digs_num (n := 2) (by decide)
  have e3 : digs (-3) = [45, 51] := by
    show digs (Int.negSucc 2) = _
    rw [digs_neg, TL.numL_lt (by decide)]
  show [48] ++ [32, 61, 32] ++ digs (-3) ++ [32, 109, 111, 100, 32] ++ digs 2 = _
  rw [e2, e3]
  rfl
theorem tail62_ok {cs : CS} (C : Cs62 cs) {nms : List (List Nat)} (nl : nms.length = 11) (nok : ∀ s ∈ nms, Wd s) {v0 : PV} {t c4 c5 c6 c7 c8 c9 c10 c11 : Option PV} {st : Store} {D : Ends} (hb : Bag st 0 1) (hk : ∀ st', D.rt (.bl true) st') :
    tail62 cs D [some v0, some (.ref 0), some (.lst (nms.map .str)), t, c4, c5, c6, c7, c8, c9, c10, c11] st := by
  unfold tail62
  rw [sCons]
  simp only [sSet, eB1, eComp, iRange1, eBin, eCall, aCons, aNil, eVar, eC, List.getElem?_cons_zero, List.getElem?_cons_succ]
  refine C.tk 0 20 (by decide) st 0 _ _ hb fun v st1 hv hb1 k1 => ?_
  obtain ⟨m, rfl, m0, m1⟩ := hv
  simp only [opBin, opAdd]
  refine ⟨by unfold i62; omega, ?_⟩
  refine comp_of (fun i : Nat => PV.int (i : Int)) (fun i => some (tmV (nms.getD (i % 11) [], (i : Int) - 6))) trivial (List.range (13 + m).toNat) (fun i hi k' hk' => ?_) (by rw [List.length_range]; show _ ≤ 16777216; omega) ?_
  · have em : ((i : Int)).fmod 11 = ((i % 11 : Nat) : Int) := by
      rw [Int.fmod_eq_emod_of_nonneg _ (by decide)]
      rfl
    have lt : i % 11 < nms.length := by rw [nl]; omega
    have ei : ix (nms.map PV.str).length ((i % 11 : Nat) : Int) = some (i % 11) := by
      rw [List.length_map, nl]
      unfold ix
      rw [if_pos (by omega), if_pos (by omega)]
      rfl
    have eg : (nms.map PV.str)[i % 11]? = some (.str (nms.getD (i % 11) [])) := by
      rw [List.getElem?_map, List.getElem?_eq_getElem lt]
      simp [List.getD, lt]
    simp only [turn, gName, tYes, wipe, List.set_cons_zero, List.set_cons_succ, if_true, eTup, eIx, eBin, eB1, fInt, aCons, aNil, eVar, eC, List.getElem?_cons_zero, List.getElem?_cons_succ, opBin, opMod, opSub, em, getIx, asL, ei, eg]
    exact ⟨by decide, z2, hk'⟩
  rw [show (fun i : Nat => some (tmV (nms.getD (i % 11) [], (i : Int) - 6))) = some ∘ (fun i : Nat => tmV (nms.getD (i % 11) [], (i : Int) - 6)) from rfl, List.filterMap_eq_map]
  have eM : (List.range (13 + m).toNat).map (fun i : Nat => tmV (nms.getD (i % 11) [], (i : Int) - 6)) = ((List.range (13 + m).toNat).map fun i : Nat => (nms.getD (i % 11) [], (i : Int) - 6)).map tmV := by
    rw [List.map_map]
    rfl
  rw [eM]
  have G : GTm ((List.range (13 + m).toNat).map fun i : Nat => (nms.getD (i % 11) [], (i : Int) - 6)) := ⟨by rw [List.length_map, List.length_range]; omega, fun p mp => by
    obtain ⟨i, hi, rfl⟩ := List.mem_map.mp mp
    have := List.mem_range.mp hi
    have lt : i % 11 < nms.length := by rw [nl]; omega
    refine ⟨nok _ ?_, i60 (n := 100) (by show ((i : Int) - 6).natAbs ≤ 100; omega) (by decide)⟩
    show nms.getD (i % 11) [] ∈ nms
    have e : nms.getD (i % 11) [] = nms[i % 11] := by simp [List.getD, lt]
    rw [e]
    exact List.getElem_mem lt⟩
  revert G
  generalize ((List.range (13 + m).toNat).map fun i : Nat => (nms.getD (i % 11) [], (i : Int) - 6)) = ts
  intro G
  have tl := tt_len G
  simp only [fTuple, seqOf, asL, wipe, gName, List.set_cons_zero, List.set_cons_succ]
  rw [sCons]
  simp only [sSet, eCall, aCons, aNil, eVar, List.getElem?_cons_zero, List.getElem?_cons_succ]
  refine C.lt ts _ _ _ G ?_
  simp only [gName, List.set_cons_zero, List.set_cons_succ]
  rw [sCons]
  simp only [sIf, tNot, tOf, eCall, eLst, eTup, eBin, aCons, aNil, eVar, eC, List.getElem?_cons_zero, List.getElem?_cons_succ]
  refine C.rt ts _ _ _ G fun os => ?_
  simp only [opBin, opAdd]
  refine ⟨by show _ + 10 ≤ 16777216; omega, ?_⟩
  have i5 : I60 5 := by unfold I60; decide
  have i3 : I60 3 := by unfold I60; decide
  have i3' : I60 (-3) := by unfold I60; decide
  have i2 : I60 2 := by unfold I60; decide
  have i0 : I60 0 := by unfold I60; decide
  rw [← rx5]
  refine C.rr ts 5 (some 3) _ _ _ G i5 (fun m e => by cases e; exact ⟨i3, by decide⟩) fun os2 => ?_
  refine ⟨z2, z3, z2, ?_⟩
  refine C.same (.lst [.tup (ts.map tmV), rowV ts 5 3]) _ _ _ (sm_pair (sm_mono (sm_tms G) (by decide)) (sm_row G)) ?_
  simp only [truth, Bool.not_true, Bool.false_eq_true, if_false, sNil]
  simp only [sRet, eCall, eLst, eTup, eNeg, aCons, aNil, eC]
  refine ⟨by show 0 ≤ 16777216; decide, z3, ?_⟩
  refine C.ro [] 0 0 _ _ _ gtm0 i0 i0 ?_
  rw [if_neg (by decide), rx0, ← rx3]
  refine C.rr [] (-3) (some 2) _ _ _ gtm0 i3' (fun m e => by cases e; exact ⟨i2, by decide⟩) fun os3 => ?_
  refine C.rt [] _ _ _ gtm0 fun os4 => ?_
  refine ⟨z3, by show 0 ≤ 16777216; decide, z3, by show 0 ≤ 16777216; decide, z3, ?_⟩
  refine C.same (.lst [.str [48, 32, 61, 32, 48], rowV [] (-3) 2, .tup []]) _ _ _ (sm_list (by show 3 ≤ 1000; decide) fun y my => ?_) (hk _)
  simp only [List.mem_cons, List.not_mem_nil, or_false] at my
  rcases my with rfl | rfl | rfl
  · trivial
  · exact sm_row gtm0
  · exact sm_mono (n := 1) ⟨by decide, fun _ m => nomatch m⟩ (by decide)
theorem k62_law {cs cs' : CS} (C : Cs62 cs) (T : SpT51 cs) {f : Nat} (go : ∀ vs st k x, vs.length = 1 → T_law_k62 cs (D0 k x) (vs.map some ++ List.replicate (12 - 1) none) st → cs' f vs st k x) (is : List Int) (hl : is.length ≤ 63) (x : KV) : cs' f [.scr is] [] (fun v _ => v = .bl true) x := by
  refine go _ _ _ _ rfl ?_
  show (sCons _ (sCons _ (sCons (sFor _ _ (body62 cs)) (tail62 cs)))) _ _ _
  simp only [List.map_cons, List.map_nil, List.replicate_succ, List.replicate_zero, List.cons_append, List.nil_append, Nat.reduceSub]
  rw [sCons]
  simp only [sSet, eCall, aCons, aNil, eVar, gName, List.getElem?_cons_zero, List.getElem?_cons_succ, List.set_cons_zero, List.set_cons_succ]
  refine C.bag is [] _ _ hl fun st1 hb1 l1 _ => ?_
  rw [sCons]
  simp only [sSet, eCall, aCons, aNil, eVar, eC, gName, List.getElem?_cons_zero, List.getElem?_cons_succ, List.set_cons_zero, List.set_cons_succ]
  refine C.names 0 st1 (1 + 51 * 4) _ _ (hb1.le (by decide)) fun v st2 hv hb2 k2 => ?_
  obtain ⟨nms, rfl, nl, _, nok0⟩ := hv
  have nok : ∀ s ∈ nms, Wd s := fun s m => wd_of (nok0 s m).1
  rw [sCons]
  simp only [sFor, iRange1, eC]
  refine ⟨by unfold i62; decide, ?_⟩
  refine for_inv (fun rem ρ st' => (∃ c3 c4 c5 c6 c7 c8 c9 c10 c11, ρ = [some (.scr is), some (.ref 0), some (.lst (nms.map .str)), c3, c4, c5, c6, c7, c8, c9, c10, c11]) ∧ Bag st' 0 (1 + 51 * rem.length)) ?_ ?_ _ _ _ ⟨⟨_, _, _, _, _, _, _, _, _, rfl⟩, hb2⟩
  · rintro v rem ρ st' ⟨⟨c3, c4, c5, c6, c7, c8, c9, c10, c11, rfl⟩, hb'⟩
    refine ⟨trivial, fun D' d1 d2 d3 d4 d5 => ?_⟩
    rw [List.length_cons] at hb'
    simp only [gName, List.set_cons_zero, List.set_cons_succ]
    exact body62_ok C T nl nok (hb'.le (by omega) : Bag st' 0 (1 + 51 * rem.length + 51)) fun ρ2 st2 h1 h2 => d4 _ _ ⟨h1, h2⟩
  · rintro ρ st' ⟨⟨c3, c4, c5, c6, c7, c8, c9, c10, c11, rfl⟩, hb'⟩
    exact ⟨trivial, tail62_ok C nl nok (hb'.le (by simp)) fun _ => Eq.refl _⟩
theorem law_true62 (is : List Int) (hl : is.length ≤ 63) (x : KV) : callN L_k62.FT 90 60 [.scr is] [] (fun v _ => v = .bl true) x := by
  have bag := bag_at (FT := L_k62.FT) rfl
  have tk := take_at (FT := L_k62.FT) rfl
  have of := of_at (FT := L_k62.FT) rfl tk
  have ofS := ofS_at (FT := L_k62.FT) rfl tk
  have sm := small_at (FT := L_k62.FT) rfl of
  have big := big_at (FT := L_k62.FT) rfl (tk.mono (by decide)) sm
  have md := md_at (FT := L_k62.FT) rfl (tk.mono (d' := 2) (by decide)) of
  have num := number_at (FT := L_k62.FT) rfl (tk.mono (d' := 2) (by decide)) of
  have mx := mixed_at (FT := L_k62.FT) rfl tk
  have nms := names_at (FT := L_k62.FT) rfl (tk.mono (d' := 2) (by decide)) of ofS
  have nt := numT_at (FT := L_k62.FT) rfl
  have wo := word_at (FT := L_k62.FT) rfl
  have tt := ttext_at (FT := L_k62.FT) rfl
  have lt := ltext_at (FT := L_k62.FT) rfl
  have ro := rtext_at (FT := L_k62.FT) rfl tt
  have lr := lrow_at (FT := L_k62.FT) rfl lt
  have rt := rterms_at (FT := L_k62.FT) rfl nt wo
  have rr := rrow_at (FT := L_k62.FT) rfl (nt.mono (d' := 2) (by decide)) rt
  have t51 := terms51_at (FT := L_k62.FT) (d := 10) rfl (tk.mono (by decide)) (mx.mono (by decide)) (big.mono (by decide))
  have sme := same_at (FT := L_k62.FT) rfl 4
  have C : Cs62 (callN L_k62.FT 89) := ⟨bag _ (by decide), tk _ (by decide), of _ (by decide), big _ (by decide), md _ (by decide), num _ (by decide), mx _ (by decide), nms _ (by decide), tt _ (by decide), lt _ (by decide), ro _ (by decide), lr _ (by decide), rt _ (by decide), rr _ (by decide), sme _ (by decide)⟩
  exact k62_law (cs' := callN L_k62.FT 90) C (t51 _ (by decide)) (fun vs st k x h1 h2 => call_of (FT := L_k62.FT) (n := 89) (f := 60) rfl h1 h2) is hl x
end VP
end
namespace L_k62
open PySem PySem.Spec PyProof.Rows L2 VS VP
def topS (i : Nat) : Stmt := PySem.Challenge.pw_whatcrosses_k62_whole_texts_of_rows_ther.main.body.getD i (.Pass ⟨0, 0, 0, 0⟩)
def subS (s : Stmt) (j : Nat) : Stmt := match s with
  | .ClassDef (body := b) .. => b.getD j (.Pass ⟨0, 0, 0, 0⟩)
  | _ => .Pass ⟨0, 0, 0, 0⟩
abbrev s_law : Stmt := topS 26
abbrev N_law : List Str := ["_law_script", "_law_bag_here", "_law_names_here", "_law_turn", "_law_terms_here", "_law_value", "_law_row", "_law_wide", "_law_k", "_law_far", "_law_text", "_law_long"]
abbrev P_law : List Str := ["_law_script"]
theorem sc_law : FnScope N_law P_law (defScope s_law) := ⟨rfl, rfl, rfl, by decide +kernel, rfl, by decide +kernel, by decide +kernel⟩
abbrev s__law_bag : Stmt := topS 13
abbrev N__law_bag : List Str := ["_law_script", "_law_cells", "_law_cell", "_law_mixed_here"]
abbrev P__law_bag : List Str := ["_law_script"]
theorem sc__law_bag : FnScope N__law_bag P__law_bag (defScope s__law_bag) := ⟨rfl, rfl, rfl, by decide +kernel, rfl, by decide +kernel, by decide +kernel⟩
abbrev s__law_take : Stmt := topS 14
abbrev N__law_take : List Str := ["_law_bag_here", "_law_many", "_law_cell", "_law_digit", "_law_old"]
abbrev P__law_take : List Str := ["_law_bag_here", "_law_many"]
theorem sc__law_take : FnScope N__law_take P__law_take (defScope s__law_take) := ⟨rfl, rfl, rfl, by decide +kernel, rfl, by decide +kernel, by decide +kernel⟩
abbrev s__law_of : Stmt := topS 15
abbrev N__law_of : List Str := ["_law_bag_here", "_law_things"]
abbrev P__law_of : List Str := ["_law_bag_here", "_law_things"]
theorem sc__law_of : FnScope N__law_of P__law_of (defScope s__law_of) := ⟨rfl, rfl, rfl, by decide +kernel, rfl, by decide +kernel, by decide +kernel⟩
abbrev s__law_names : Stmt := topS 18
abbrev N__law_names : List Str := ["_law_bag_here", "_law_many", "_law_letters", "_law_stem", "_law_k", "_law_at", "_law_first", "_law_step"]
abbrev P__law_names : List Str := ["_law_bag_here", "_law_many"]
theorem sc__law_names : FnScope N__law_names P__law_names (defScope s__law_names) := ⟨rfl, rfl, rfl, by decide +kernel, rfl, by decide +kernel, by decide +kernel⟩
abbrev s__law_mixed : Stmt := topS 16
abbrev N__law_mixed : List Str := ["_law_bag_here", "_law_things", "_law_found", "_law_thing"]
abbrev P__law_mixed : List Str := ["_law_bag_here", "_law_things"]
theorem sc__law_mixed : FnScope N__law_mixed P__law_mixed (defScope s__law_mixed) := ⟨rfl, rfl, rfl, by decide +kernel, rfl, by decide +kernel, by decide +kernel⟩
abbrev s__law_small : Stmt := topS 19
abbrev N__law_small : List Str := ["_law_bag_here"]
abbrev P__law_small : List Str := ["_law_bag_here"]
theorem sc__law_small : FnScope N__law_small P__law_small (defScope s__law_small) := ⟨rfl, rfl, rfl, by decide +kernel, rfl, by decide +kernel, by decide +kernel⟩
abbrev s__law_big_factor : Stmt := topS 20
abbrev N__law_big_factor : List Str := ["_law_bag_here"]
abbrev P__law_big_factor : List Str := ["_law_bag_here"]
theorem sc__law_big_factor : FnScope N__law_big_factor P__law_big_factor (defScope s__law_big_factor) := ⟨rfl, rfl, rfl, by decide +kernel, rfl, by decide +kernel, by decide +kernel⟩
abbrev s__law_terms : Stmt := topS 21
abbrev N__law_terms : List Str := ["_law_bag_here", "_law_names_here", "_law_most", "_law_some", "_law_name"]
abbrev P__law_terms : List Str := ["_law_bag_here", "_law_names_here", "_law_most"]
theorem sc__law_terms : FnScope N__law_terms P__law_terms (defScope s__law_terms) := ⟨rfl, rfl, rfl, by decide +kernel, rfl, by decide +kernel, by decide +kernel⟩
abbrev s__law_number : Stmt := topS 23
abbrev N__law_number : List Str := ["_law_bag_here"]
abbrev P__law_number : List Str := ["_law_bag_here"]
theorem sc__law_number : FnScope N__law_number P__law_number (defScope s__law_number) := ⟨rfl, rfl, rfl, by decide +kernel, rfl, by decide +kernel, by decide +kernel⟩
abbrev s__law_modulus : Stmt := topS 22
abbrev N__law_modulus : List Str := ["_law_bag_here"]
abbrev P__law_modulus : List Str := ["_law_bag_here"]
theorem sc__law_modulus : FnScope N__law_modulus P__law_modulus (defScope s__law_modulus) := ⟨rfl, rfl, rfl, by decide +kernel, rfl, by decide +kernel, by decide +kernel⟩
abbrev s_terms_text : Stmt := topS 8
abbrev N_terms_text : List Str := ["terms", "name", "factor"]
abbrev P_terms_text : List Str := ["terms"]
theorem sc_terms_text : FnScope N_terms_text P_terms_text (defScope s_terms_text) := ⟨rfl, rfl, rfl, by decide +kernel, rfl, by decide +kernel, by decide +kernel⟩
abbrev s_row_text : Stmt := topS 9
abbrev N_row_text : List Str := ["row", "text"]
abbrev P_row_text : List Str := ["row"]
theorem sc_row_text : FnScope N_row_text P_row_text (defScope s_row_text) := ⟨rfl, rfl, rfl, by decide +kernel, rfl, by decide +kernel, by decide +kernel⟩
abbrev s__law_terms_text : Stmt := topS 24
abbrev N__law_terms_text : List Str := ["_law_terms_here", "_law_name", "_law_factor"]
abbrev P__law_terms_text : List Str := ["_law_terms_here"]
theorem sc__law_terms_text : FnScope N__law_terms_text P__law_terms_text (defScope s__law_terms_text) := ⟨rfl, rfl, rfl, by decide +kernel, rfl, by decide +kernel, by decide +kernel⟩
abbrev s__law_row_text : Stmt := topS 25
abbrev N__law_row_text : List Str := ["_law_row", "_law_text"]
abbrev P__law_row_text : List Str := ["_law_row"]
theorem sc__law_row_text : FnScope N__law_row_text P__law_row_text (defScope s__law_row_text) := ⟨rfl, rfl, rfl, by decide +kernel, rfl, by decide +kernel, by decide +kernel⟩
abbrev s__law_same : Stmt := topS 17
abbrev N__law_same : List Str := ["_law_found", "_law_due", "_law_one", "_law_two"]
abbrev P__law_same : List Str := ["_law_found", "_law_due"]
theorem sc__law_same : FnScope N__law_same P__law_same (defScope s__law_same) := ⟨rfl, rfl, rfl, by decide +kernel, rfl, by decide +kernel, by decide +kernel⟩
abbrev s_is_number : Stmt := topS 6
abbrev N_is_number : List Str := ["word", "digits", "sign"]
abbrev P_is_number : List Str := ["word"]
theorem sc_is_number : FnScope N_is_number P_is_number (defScope s_is_number) := ⟨rfl, rfl, rfl, by decide +kernel, rfl, by decide +kernel, by decide +kernel⟩
abbrev s_is_word : Stmt := topS 7
abbrev N_is_word : List Str := ["word", "sign"]
abbrev P_is_word : List Str := ["word"]
theorem sc_is_word : FnScope N_is_word P_is_word (defScope s_is_word) := ⟨rfl, rfl, rfl, by decide +kernel, rfl, by decide +kernel, by decide +kernel⟩
abbrev s_read_terms : Stmt := topS 10
abbrev N_read_terms : List Str := ["text", "found", "word", "number", "star", "name"]
abbrev P_read_terms : List Str := ["text"]
theorem sc_read_terms : FnScope N_read_terms P_read_terms (defScope s_read_terms) := ⟨rfl, rfl, rfl, by decide +kernel, rfl, by decide +kernel, by decide +kernel⟩
abbrev s_read_row : Stmt := topS 11
abbrev N_read_row : List Str := ["text", "left", "sign", "right", "terms", "words", "word"]
abbrev P_read_row : List Str := ["text"]
theorem sc_read_row : FnScope N_read_row P_read_row (defScope s_read_row) := ⟨rfl, rfl, rfl, by decide +kernel, rfl, by decide +kernel, by decide +kernel⟩
section
variable {P : Program} {w : World} {K : PySem.W.Frag} {mg : Str → Option Value} {base : Heap}
abbrev Ce (P : Program) (w : World) (K : PySem.W.Frag) (mg : Str → Option Value) (base : Heap) (n : Nat) (x : Str) (i : Nat) (ps : List Str) : Prop := Callee P w K mg base x (VM.callN FT n) (2 * n + 40) i ps
abbrev Me (P : Program) (w : World) (K : PySem.W.Frag) (mg : Str → Option Value) (base : Heap) (n i : Nat) (f : Addr) : Prop := FC P w K mg base (VM.callN FT n) (2 * n + 40) i f
abbrev Md (P : Program) (w : World) (K : PySem.W.Frag) (mg : Str → Option Value) (base : Heap) (n i : Nat) (f : Addr) (dvs : List V) : Prop := FCD P w K mg base (VM.callN FT n) (2 * n + 40) i f dvs
theorem b_law {n : Nat} (C__law_bag : Ce P w K mg base n "_law_bag" 0 P__law_bag) (C__law_modulus : Ce P w K mg base n "_law_modulus" 22 P__law_modulus) (C__law_names : Ce P w K mg base n "_law_names" 46 P__law_names) (C__law_number : Ce P w K mg base n "_law_number" 26 P__law_number) (C__law_of : Ce P w K mg base n "_law_of" 2 P__law_of) (C__law_row_text : Ce P w K mg base n "_law_row_text" 55 P__law_row_text) (C__law_same : Ce P w K mg base n "_law_same" 16 P__law_same) (C__law_take : Ce P w K mg base n "_law_take" 1 P__law_take) (C__law_terms : Ce P w K mg base n "_law_terms" 51 P__law_terms) (C__law_terms_text : Ce P w K mg base n "_law_terms_text" 54 P__law_terms_text) (C_read_row : Ce P w K mg base n "read_row" 59 P_read_row) (C_read_terms : Ce P w K mg base n "read_terms" 58 P_read_terms) (C_row_text : Ce P w K mg base n "row_text" 53 P_row_text) (C_terms_text : Ce P w K mg base n "terms_text" 52 P_terms_text) (z_int : mg "int" = none) (z_range : mg "range" = none) (z_str : mg "str" = none) (z_tuple : mg "tuple" = none) {cdv : Value} {A : Around} {outer : List Env} {s : Shared} {H : Hp} {E : XK} {f : Addr} (hr : Room (2 * n + 41) (A.deeper (envOfC "law" (defScope s_law) s.heap.objs.size f cdv))) (dv : Dv base P (envOfC "law" (defScope s_law) s.heap.objs.size f cdv :: outer) (A.deeper (envOfC "law" (defScope s_law) s.heap.objs.size f cdv))) :
    VB (cxOf CX0 P w K mg base N_law "law" (defScope s_law) f cdv A outer s H E).nox (defBody s_law) (T_law_k62 (VM.callN FT n)) := by
  have nd := (sc_law).nd
  have hr0 : Room (2 * n + 40) (A.deeper (envOfC "law" (defScope s_law) s.heap.objs.size f cdv)) := hr.mono (Nat.le_succ _)
  exact (vb_cons (vs_set nd rfl (Or.inr rfl) (ve_calle (i := 0) C__law_bag hr0 rfl (va_cons (ve_var 0) va_nil)) rfl (Or.inl rfl))
    (vb_cons (vs_set nd rfl (Or.inr rfl) (ve_calle (i := 46) C__law_names hr0 rfl (va_cons (ve_var 1) (va_cons ve_int va_nil))) rfl (Or.inl rfl))
    (vb_cons (vs_for PassesOwn.never rfl (vi_range1 rfl z_range ve_int) (vg_name nd rfl (Or.inl rfl) (Or.inr rfl))
    (vb_cons (vs_par rfl nd rfl rfl (by decide) rfl rfl (va_cons (ve_calle (i := 51) C__law_terms hr0 rfl (va_cons (ve_var 1) (va_cons (ve_var 2) (va_cons ve_int va_nil)))) (va_cons (ve_calle (i := 2) C__law_of hr0 rfl (va_cons (ve_var 1) (va_cons (ve_lst (va_cons (ve_calle (i := 26) C__law_number hr0 rfl (va_cons (ve_var 1) va_nil)) (va_cons (ve_bin o_pow ve_int ve_int) (va_cons (ve_bin o_sub ve_int (ve_bin o_pow ve_int ve_int)) va_nil)))) va_nil))) va_nil)) rfl)
    (vb_cons (vs_set nd rfl (Or.inl rfl) (ve_tup (va_cons (ve_var 4) (va_cons (ve_var 5) (va_cons (ve_calle (i := 22) C__law_modulus hr0 rfl (va_cons (ve_var 1) va_nil)) va_nil)))) rfl (Or.inr rfl))
    (vb_cons (vs_if (vt_not (vt_of (ve_calle (i := 16) C__law_same hr0 rfl (va_cons (ve_lst (va_cons (ve_calle (i := 53) C_row_text hr0 rfl (va_cons (ve_var 6) va_nil)) (va_cons (ve_calle (i := 52) C_terms_text hr0 rfl (va_cons (ve_var 4) va_nil)) va_nil))) (va_cons (ve_lst (va_cons (ve_calle (i := 55) C__law_row_text hr0 rfl (va_cons (ve_var 6) va_nil)) (va_cons (ve_calle (i := 54) C__law_terms_text hr0 rfl (va_cons (ve_var 4) va_nil)) va_nil))) va_nil)))))
    (vb_one (vs_ret ve_bl))
    vb_nil)
    (vb_cons (vs_if (vt_not (vt_of (ve_calle (i := 16) C__law_same hr0 rfl (va_cons (ve_lst (va_cons (ve_calle (i := 59) C_read_row hr0 rfl (va_cons (ve_calle (i := 53) C_row_text hr0 rfl (va_cons (ve_var 6) va_nil)) va_nil)) (va_cons (ve_calle (i := 58) C_read_terms hr0 rfl (va_cons (ve_calle (i := 52) C_terms_text hr0 rfl (va_cons (ve_var 4) va_nil)) va_nil)) va_nil))) (va_cons (ve_lst (va_cons (ve_var 6) (va_cons (ve_var 4) va_nil))) va_nil)))))
    (vb_one (vs_ret ve_bl))
    vb_nil)
    (vb_cons (vs_set nd rfl (Or.inl rfl) (ve_tuple (ve_comp (own := [("_law_k", 8)]) (sl := [8]) rfl nd  (blkOk_by (by first | (show blkC N_law (defScope s_law) _ _ = true; decide +kernel) | kernel_rfl)) (vi_range1 rfl z_range (ve_calle (i := 1) C__law_take hr0 rfl (va_cons (ve_var 1) (va_cons ve_int va_nil)))) (by decide) (fun _ _ _ _ _ => (vg_name nd rfl (Or.inl rfl) (Or.inr rfl))) (fun _ _ _ _ _ => vts_nil) (fun _ _ _ _ _ => (ve_tup (va_cons (ve_calle (i := 2) C__law_of hr0 rfl (va_cons (ve_var 1) (va_cons (ve_lst (va_cons ve_str (va_cons ve_str (va_cons ve_str (va_cons ve_str (va_cons ve_str (va_cons ve_str (va_cons ve_str (va_cons (ve_ix (ve_var 2) ve_int) va_nil))))))))) va_nil))) (va_cons (ve_calle (i := 2) C__law_of hr0 rfl (va_cons (ve_var 1) (va_cons (ve_lst (va_cons (ve_bin o_sub ve_int (ve_bin o_pow ve_int ve_int)) (va_cons (ve_bin o_sub (ve_bin o_pow ve_int ve_int) ve_int) (va_cons ve_int (va_cons ve_int va_nil))))) va_nil))) va_nil))))) rfl z_tuple) rfl (Or.inr rfl))
    (vb_cons (vs_set nd rfl (Or.inl rfl) (ve_tup (va_cons (ve_var 7) (va_cons (ve_calle (i := 2) C__law_of hr0 rfl (va_cons (ve_var 1) (va_cons (ve_lst (va_cons (ve_bin o_sub (ve_bin o_pow ve_int ve_int) ve_int) (va_cons (ve_bin o_sub ve_int (ve_bin o_pow ve_int ve_int)) (va_cons ve_int va_nil)))) va_nil))) (va_cons (ve_calle (i := 2) C__law_of hr0 rfl (va_cons (ve_var 1) (va_cons (ve_lst (va_cons ve_int (va_cons ve_int (va_cons (ve_neg ve_int) (va_cons (ve_bin o_sub (ve_bin o_pow ve_int ve_int) ve_int) va_nil))))) va_nil))) va_nil)))) rfl (Or.inr rfl))
    (vb_cons (vs_set nd rfl (Or.inl rfl) (ve_bin o_add (ve_bin o_add (ve_calle (i := 54) C__law_terms_text hr0 rfl (va_cons (ve_var 7) va_nil)) ve_str) (ve_strc (ve_ix (ve_var 9) ve_int) rfl z_str)) rfl (Or.inr rfl))
    (vb_cons (vs_if (vt_cmp (c_ne hr0.units) (ve_ix (ve_var 9) ve_int) ve_int (nomark _))
    (vb_one (vs_set nd rfl (Or.inl rfl) (ve_bin o_add (ve_bin o_add (ve_var 10) ve_str) (ve_strc (ve_ix (ve_var 9) ve_int) rfl z_str)) rfl (Or.inr rfl)))
    vb_nil)
    (vb_one (vs_if (vt_not (vt_of (ve_calle (i := 16) C__law_same hr0 rfl (va_cons (ve_lst (va_cons (ve_calle (i := 59) C_read_row hr0 rfl (va_cons (ve_var 10) va_nil)) (va_cons (ve_calle (i := 58) C_read_terms hr0 rfl (va_cons (ve_calle (i := 54) C__law_terms_text hr0 rfl (va_cons (ve_var 7) va_nil)) va_nil)) va_nil))) (va_cons (ve_lst (va_cons (ve_var 9) (va_cons (ve_var 7) va_nil))) va_nil)))))
    (vb_one (vs_ret ve_bl))
    vb_nil)))))))))))
    (vb_cons (vs_set nd rfl (Or.inl rfl) (ve_tuple (ve_comp (own := [("_law_k", 8)]) (sl := [8]) rfl nd  (blkOk_by (by first | (show blkC N_law (defScope s_law) _ _ = true; decide +kernel) | kernel_rfl)) (vi_range1 rfl z_range (ve_bin o_add ve_int (ve_calle (i := 1) C__law_take hr0 rfl (va_cons (ve_var 1) (va_cons ve_int va_nil))))) (by decide) (fun _ _ _ _ _ => (vg_name nd rfl (Or.inl rfl) (Or.inr rfl))) (fun _ _ _ _ _ => vts_nil) (fun _ _ _ _ _ => (ve_tup (va_cons (ve_ix (ve_var 2) (ve_bin o_mod (ve_int_ (ve_var 8) rfl z_int) ve_int)) (va_cons (ve_bin o_sub (ve_var 8) ve_int) va_nil))))) rfl z_tuple) rfl (Or.inr rfl))
    (vb_cons (vs_set nd rfl (Or.inl rfl) (ve_calle (i := 54) C__law_terms_text hr0 rfl (va_cons (ve_var 11) va_nil)) rfl (Or.inr rfl))
    (vb_cons (vs_if (vt_not (vt_of (ve_calle (i := 16) C__law_same hr0 rfl (va_cons (ve_lst (va_cons (ve_calle (i := 58) C_read_terms hr0 rfl (va_cons (ve_var 10) va_nil)) (va_cons (ve_calle (i := 59) C_read_row hr0 rfl (va_cons (ve_bin o_add (ve_var 10) ve_str) va_nil)) va_nil))) (va_cons (ve_lst (va_cons (ve_var 11) (va_cons (ve_tup (va_cons (ve_var 11) (va_cons ve_int (va_cons ve_int va_nil)))) va_nil))) va_nil)))))
    (vb_one (vs_ret ve_bl))
    vb_nil)
    (vb_one (vs_ret (ve_calle (i := 16) C__law_same hr0 rfl (va_cons (ve_lst (va_cons (ve_calle (i := 53) C_row_text hr0 rfl (va_cons (ve_tup (va_cons (ve_tup va_nil) (va_cons ve_int (va_cons ve_int va_nil)))) va_nil)) (va_cons (ve_calle (i := 59) C_read_row hr0 rfl (va_cons ve_str va_nil)) (va_cons (ve_calle (i := 58) C_read_terms hr0 rfl (va_cons ve_str va_nil)) va_nil)))) (va_cons (ve_lst (va_cons ve_str (va_cons (ve_tup (va_cons (ve_tup va_nil) (va_cons (ve_neg ve_int) (va_cons ve_int va_nil)))) (va_cons (ve_tup va_nil) va_nil)))) va_nil)))))))))))
theorem b__law_bag {n : Nat} (z_int : mg "int" = none) (z_len : mg "len" = none) {cdv : Value} {A : Around} {outer : List Env} {s : Shared} {H : Hp} {E : XK} {f : Addr} (hr : Room (2 * n + 41) (A.deeper (envOfC "_law_bag" (defScope s__law_bag) s.heap.objs.size f cdv))) (dv : Dv base P (envOfC "_law_bag" (defScope s__law_bag) s.heap.objs.size f cdv :: outer) (A.deeper (envOfC "_law_bag" (defScope s__law_bag) s.heap.objs.size f cdv))) :
    VB (cxOf CX0 P w K mg base N__law_bag "_law_bag" (defScope s__law_bag) f cdv A outer s H E).nox (defBody s__law_bag) (T__law_bag (VM.callN FT n)) := by
  have nd := (sc__law_bag).nd
  have hr0 : Room (2 * n + 40) (A.deeper (envOfC "_law_bag" (defScope s__law_bag) s.heap.objs.size f cdv)) := hr.mono (Nat.le_succ _)
  exact (vb_cons (vs_setc (own := [("_law_cell", 2)]) (sl := [2]) rfl nd rfl rfl (sw_true rfl rfl rfl rfl) (blkOk_by (by first | (show blkC N__law_bag (defScope s__law_bag) _ _ = true; decide +kernel) | kernel_rfl)) (vi_e (ve_sl (ve_var 0) vo_none (vo_some ve_int))) (by decide) (fun _ _ _ _ _ => (vg_name nd rfl (Or.inl rfl) (Or.inr rfl))) (fun _ _ _ _ _ => vts_nil) (fun _ _ _ _ _ => (ve_int_ (ve_var 2) rfl z_int)))
    (vb_cons (vs_set nd rfl (Or.inl rfl) (ve_bin o_add ve_int (ve_bin o_mul ve_int (ve_len (ve_var 1) rfl z_len))) rfl (Or.inr rfl))
    (vb_cons (vs_for PassesOwn.never rfl (vi_e (ve_var 1)) (vg_name nd rfl (Or.inl rfl) (Or.inr rfl))
    (vb_one (vs_set nd rfl (Or.inl rfl) (ve_bin o_mod (ve_int_ (ve_bin o_add (ve_bin o_mul (ve_var 3) ve_int) (ve_var 2)) rfl z_int) ve_int) rfl (Or.inr rfl))))
    (vb_one (vs_ret (ve_lstM (va_cons (ve_var 1) (va_cons ve_int (va_cons ve_int (va_cons (ve_var 3) (va_cons ve_int va_nil)))))))))))
theorem b__law_take {n : Nat} (z_int : mg "int" = none) (z_len : mg "len" = none) {cdv : Value} {A : Around} {outer : List Env} {s : Shared} {H : Hp} {E : XK} {f : Addr} (hr : Room (2 * n + 41) (A.deeper (envOfC "_law_take" (defScope s__law_take) s.heap.objs.size f cdv))) (dv : Dv base P (envOfC "_law_take" (defScope s__law_take) s.heap.objs.size f cdv :: outer) (A.deeper (envOfC "_law_take" (defScope s__law_take) s.heap.objs.size f cdv))) :
    VB (cxOf CX0 P w K mg base N__law_take "_law_take" (defScope s__law_take) f cdv A outer s H E).nox (defBody s__law_take) (T__law_take (VM.callN FT n)) := by
  have nd := (sc__law_take).nd
  have hr0 : Room (2 * n + 40) (A.deeper (envOfC "_law_take" (defScope s__law_take) s.heap.objs.size f cdv)) := hr.mono (Nat.le_succ _)
  exact (vb_cons (vs_setix (ve_bin o_add (ve_ix (ve_var 0) ve_int) ve_int) (ve_var 0) ve_int)
    (vb_cons (vs_if (vt_w (vw_and (vt_cmp c_lt (ve_ix (ve_var 0) ve_int) ve_int (nomark _)) (vw_and1 (vt_cmp c_lt (ve_ix (ve_var 0) ve_int) (ve_len (ve_ix (ve_var 0) ve_int) rfl z_len) (nomark _)))))
    (vb_cons (vs_set nd rfl (Or.inl rfl) (ve_ix (ve_ix (ve_var 0) ve_int) (ve_ix (ve_var 0) ve_int)) rfl (Or.inr rfl))
    (vb_cons (vs_setix (ve_bin o_add (ve_ix (ve_var 0) ve_int) ve_int) (ve_var 0) ve_int)
    (vb_cons (vs_setix (ve_bin o_mod (ve_int_ (ve_bin o_add (ve_bin o_add (ve_bin o_mul (ve_ix (ve_var 0) ve_int) ve_int) (ve_bin o_mul (ve_bin o_mod (ve_int_ (ve_var 2) rfl z_int) ve_int) ve_int)) (ve_ix (ve_var 0) ve_int)) rfl z_int) ve_int) (ve_var 0) ve_int)
    (vb_one (vs_setix (ve_if (vt_cmp c_ge (ve_var 2) (ve_bin o_pow ve_int ve_int) (nomark _)) (ve_var 2) ve_int) (ve_var 0) ve_int)))))
    vb_nil)
    (vb_cons (vs_if (vt_cmp c_gt (ve_ix (ve_var 0) ve_int) ve_int (nomark _))
    (vb_cons (vs_set nd rfl (Or.inl rfl) (ve_bin o_mod (ve_int_ (ve_ix (ve_var 0) ve_int) rfl z_int) (ve_var 1)) rfl (Or.inr rfl))
    (vb_cons (vs_setix (ve_bin (o_fdiv dv) (ve_ix (ve_var 0) ve_int) (ve_var 1)) (ve_var 0) ve_int)
    (vb_one (vs_ret (ve_var 3)))))
    vb_nil)
    (vb_cons (vs_set nd rfl (Or.inl rfl) (ve_bin o_mod (ve_int_ (ve_bin o_add (ve_ix (ve_var 0) ve_int) (ve_bin o_mul (ve_ix (ve_var 0) ve_int) ve_int)) rfl z_int) ve_int) rfl (Or.inr rfl))
    (vb_cons (vs_setix (ve_bin o_mod (ve_int_ (ve_bin o_add (ve_bin o_add (ve_bin o_mul (ve_var 4) (ve_var 4)) (ve_bin o_mul (ve_var 4) ve_int)) ve_int) rfl z_int) ve_int) (ve_var 0) ve_int)
    (vb_one (vs_ret (ve_bin o_mod (ve_int_ (ve_bin o_add (ve_bin (o_fdiv dv) (ve_ix (ve_var 0) ve_int) ve_int) (ve_bin o_mul (ve_bin o_mod (ve_int_ (ve_ix (ve_var 0) ve_int) rfl z_int) ve_int) ve_int)) rfl z_int) (ve_var 1)))))))))
theorem b__law_of {n : Nat} (C__law_take : Ce P w K mg base n "_law_take" 1 P__law_take) (z_len : mg "len" = none) {cdv : Value} {A : Around} {outer : List Env} {s : Shared} {H : Hp} {E : XK} {f : Addr} (hr : Room (2 * n + 41) (A.deeper (envOfC "_law_of" (defScope s__law_of) s.heap.objs.size f cdv))) (dv : Dv base P (envOfC "_law_of" (defScope s__law_of) s.heap.objs.size f cdv :: outer) (A.deeper (envOfC "_law_of" (defScope s__law_of) s.heap.objs.size f cdv))) :
    VB (cxOf CX0 P w K mg base N__law_of "_law_of" (defScope s__law_of) f cdv A outer s H E).nox (defBody s__law_of) (T__law_of (VM.callN FT n)) := by
  have nd := (sc__law_of).nd
  have hr0 : Room (2 * n + 40) (A.deeper (envOfC "_law_of" (defScope s__law_of) s.heap.objs.size f cdv)) := hr.mono (Nat.le_succ _)
  exact (vb_one (vs_ret (ve_ix (ve_var 1) (ve_calle (i := 1) C__law_take hr0 rfl (va_cons (ve_var 0) (va_cons (ve_len (ve_var 1) rfl z_len) va_nil))))))
theorem b__law_names {n : Nat} (C__law_of : Ce P w K mg base n "_law_of" 2 P__law_of) (C__law_take : Ce P w K mg base n "_law_take" 1 P__law_take) (z_int : mg "int" = none) (z_len : mg "len" = none) (z_range : mg "range" = none) {cdv : Value} {A : Around} {outer : List Env} {s : Shared} {H : Hp} {E : XK} {f : Addr} (hr : Room (2 * n + 41) (A.deeper (envOfC "_law_names" (defScope s__law_names) s.heap.objs.size f cdv))) (dv : Dv base P (envOfC "_law_names" (defScope s__law_names) s.heap.objs.size f cdv :: outer) (A.deeper (envOfC "_law_names" (defScope s__law_names) s.heap.objs.size f cdv))) :
    VB (cxOf CX0 P w K mg base N__law_names "_law_names" (defScope s__law_names) f cdv A outer s H E).nox (defBody s__law_names) (T__law_names (VM.callN FT n)) := by
  have nd := (sc__law_names).nd
  have hr0 : Room (2 * n + 40) (A.deeper (envOfC "_law_names" (defScope s__law_names) s.heap.objs.size f cdv)) := hr.mono (Nat.le_succ _)
  exact (vb_cons (vs_set nd rfl (Or.inr rfl) ve_str rfl (Or.inl rfl))
    (vb_cons (vs_set nd rfl (Or.inr rfl) (ve_join ve_str (ve_comp (own := [("_law_k", 4)]) (sl := [4]) rfl nd  (blkOk_by (by first | (show blkC N__law_names (defScope s__law_names) _ _ = true; decide +kernel) | kernel_rfl)) (vi_range1 rfl z_range (ve_calle (i := 1) C__law_take hr0 rfl (va_cons (ve_var 0) (va_cons ve_int va_nil)))) (by decide) (fun _ _ _ _ _ => (vg_name nd rfl (Or.inl rfl) (Or.inr rfl))) (fun _ _ _ _ _ => vts_nil) (fun _ _ _ _ _ => (ve_calle (i := 2) C__law_of hr0 rfl (va_cons (ve_var 0) (va_cons (ve_var 2) va_nil)))))) rfl (Or.inl rfl))
    (vb_cons (vs_asg (sl := [5, 6]) (ve_tup (va_cons (ve_calle (i := 1) C__law_take hr0 rfl (va_cons (ve_var 0) (va_cons (ve_bin o_add (ve_len (ve_var 3) rfl z_len) ve_int) va_nil))) (va_cons (ve_calle (i := 1) C__law_take hr0 rfl (va_cons (ve_var 0) (va_cons ve_int va_nil))) va_nil))) (vg_tup rfl (vgs_cons (vg_name nd rfl (Or.inr rfl) (Or.inl rfl)) (vgs_cons (vg_name nd rfl (Or.inr rfl) (Or.inl rfl)) vgs_nil))))
    (vb_cons (vs_set nd rfl (Or.inr rfl) (ve_calle (i := 2) C__law_of hr0 rfl (va_cons (ve_var 0) (va_cons (ve_lst (va_cons ve_int (va_cons ve_int (va_cons ve_int (va_cons ve_int (va_cons ve_int (va_cons ve_int (va_cons ve_int (va_cons ve_int (va_cons ve_int (va_cons ve_int va_nil))))))))))) va_nil))) rfl (Or.inl rfl))
    (vb_one (vs_ret (ve_comp (own := [("_law_k", 4)]) (sl := [4]) rfl nd  (blkOk_by (by first | (show blkC N__law_names (defScope s__law_names) _ _ = true; decide +kernel) | kernel_rfl)) (vi_range1 rfl z_range (ve_var 1)) (by decide) (fun _ _ _ _ _ => (vg_name nd rfl (Or.inl rfl) (Or.inr rfl))) (fun _ _ _ _ _ => vts_nil) (fun _ _ _ _ _ => (ve_bin o_add (ve_bin o_add (ve_sl (ve_var 3) vo_none (vo_some (ve_var 5))) (ve_ix (ve_var 2) (ve_bin o_mod (ve_int_ (ve_bin o_add (ve_var 6) (ve_bin o_mul (ve_var 4) (ve_var 7))) rfl z_int) ve_int))) (ve_sl (ve_var 3) (vo_some (ve_var 5)) vo_none))))))))))
theorem b__law_mixed {n : Nat} (C__law_take : Ce P w K mg base n "_law_take" 1 P__law_take) (z_len : mg "len" = none) {cdv : Value} {A : Around} {outer : List Env} {s : Shared} {H : Hp} {E : XK} {f : Addr} (hr : Room (2 * n + 41) (A.deeper (envOfC "_law_mixed" (defScope s__law_mixed) s.heap.objs.size f cdv))) (dv : Dv base P (envOfC "_law_mixed" (defScope s__law_mixed) s.heap.objs.size f cdv :: outer) (A.deeper (envOfC "_law_mixed" (defScope s__law_mixed) s.heap.objs.size f cdv))) :
    VB (cxOf CX0 P w K mg base N__law_mixed "_law_mixed" (defScope s__law_mixed) f cdv A outer s H E).nox (defBody s__law_mixed) (T__law_mixed (VM.callN FT n)) := by
  have nd := (sc__law_mixed).nd
  have hr0 : Room (2 * n + 40) (A.deeper (envOfC "_law_mixed" (defScope s__law_mixed) s.heap.objs.size f cdv)) := hr.mono (Nat.le_succ _)
  exact (vb_cons (vs_set nd rfl (Or.inl rfl) (ve_lstM va_nil) rfl (Or.inr rfl))
    (vb_cons (vs_for PassesOwn.never rfl (vi_e (ve_var 1)) (vg_name nd rfl (Or.inl rfl) (Or.inr rfl))
    (vb_one (vs_expr (ve_insert (ve_var 2) (ve_calle (i := 1) C__law_take hr0 rfl (va_cons (ve_var 0) (va_cons (ve_bin o_add (ve_len (ve_var 2) rfl z_len) ve_int) va_nil))) (ve_var 3)))))
    (vb_one (vs_ret (ve_var 2)))))
theorem b__law_small {n : Nat} (C__law_of : Ce P w K mg base n "_law_of" 2 P__law_of) {cdv : Value} {A : Around} {outer : List Env} {s : Shared} {H : Hp} {E : XK} {f : Addr} (hr : Room (2 * n + 41) (A.deeper (envOfC "_law_small" (defScope s__law_small) s.heap.objs.size f cdv))) (dv : Dv base P (envOfC "_law_small" (defScope s__law_small) s.heap.objs.size f cdv :: outer) (A.deeper (envOfC "_law_small" (defScope s__law_small) s.heap.objs.size f cdv))) :
    VB (cxOf CX0 P w K mg base N__law_small "_law_small" (defScope s__law_small) f cdv A outer s H E).nox (defBody s__law_small) (T__law_small (VM.callN FT n)) := by
  have nd := (sc__law_small).nd
  have hr0 : Room (2 * n + 40) (A.deeper (envOfC "_law_small" (defScope s__law_small) s.heap.objs.size f cdv)) := hr.mono (Nat.le_succ _)
  exact (vb_one (vs_ret (ve_calle (i := 2) C__law_of hr0 rfl (va_cons (ve_var 0) (va_cons (ve_lst (va_cons ve_int (va_cons ve_int (va_cons (ve_neg ve_int) (va_cons ve_int (va_cons (ve_neg ve_int) (va_cons ve_int (va_cons (ve_neg ve_int) (va_cons ve_int (va_cons ve_int (va_cons ve_int (va_cons ve_int (va_cons ve_int va_nil))))))))))))) va_nil)))))
theorem b__law_big_factor {n : Nat} (C__law_small : Ce P w K mg base n "_law_small" 3 P__law_small) (C__law_take : Ce P w K mg base n "_law_take" 1 P__law_take) {cdv : Value} {A : Around} {outer : List Env} {s : Shared} {H : Hp} {E : XK} {f : Addr} (hr : Room (2 * n + 41) (A.deeper (envOfC "_law_big_factor" (defScope s__law_big_factor) s.heap.objs.size f cdv))) (dv : Dv base P (envOfC "_law_big_factor" (defScope s__law_big_factor) s.heap.objs.size f cdv :: outer) (A.deeper (envOfC "_law_big_factor" (defScope s__law_big_factor) s.heap.objs.size f cdv))) :
    VB (cxOf CX0 P w K mg base N__law_big_factor "_law_big_factor" (defScope s__law_big_factor) f cdv A outer s H E).nox (defBody s__law_big_factor) (T__law_big_factor (VM.callN FT n)) := by
  have nd := (sc__law_big_factor).nd
  have hr0 : Room (2 * n + 40) (A.deeper (envOfC "_law_big_factor" (defScope s__law_big_factor) s.heap.objs.size f cdv)) := hr.mono (Nat.le_succ _)
  exact (vb_one (vs_ret (ve_if (vt_cmp c_gt (ve_calle (i := 1) C__law_take hr0 rfl (va_cons (ve_var 0) (va_cons ve_int va_nil))) ve_int (nomark _)) (ve_calle (i := 3) C__law_small hr0 rfl (va_cons (ve_var 0) va_nil)) (ve_bin o_sub (ve_calle (i := 1) C__law_take hr0 rfl (va_cons (ve_var 0) (va_cons ve_int va_nil))) ve_int))))
theorem b__law_terms {n : Nat} (C__law_big_factor : Ce P w K mg base n "_law_big_factor" 4 P__law_big_factor) (C__law_mixed : Ce P w K mg base n "_law_mixed" 17 P__law_mixed) (C__law_take : Ce P w K mg base n "_law_take" 1 P__law_take) (z_tuple : mg "tuple" = none) {cdv : Value} {A : Around} {outer : List Env} {s : Shared} {H : Hp} {E : XK} {f : Addr} (hr : Room (2 * n + 41) (A.deeper (envOfC "_law_terms" (defScope s__law_terms) s.heap.objs.size f cdv))) (dv : Dv base P (envOfC "_law_terms" (defScope s__law_terms) s.heap.objs.size f cdv :: outer) (A.deeper (envOfC "_law_terms" (defScope s__law_terms) s.heap.objs.size f cdv))) :
    VB (cxOf CX0 P w K mg base N__law_terms "_law_terms" (defScope s__law_terms) f cdv A outer s H E).nox (defBody s__law_terms) (T__law_terms (VM.callN FT n)) := by
  have nd := (sc__law_terms).nd
  have hr0 : Room (2 * n + 40) (A.deeper (envOfC "_law_terms" (defScope s__law_terms) s.heap.objs.size f cdv)) := hr.mono (Nat.le_succ _)
  exact (vb_cons (vs_set nd rfl (Or.inl rfl) (ve_sl (ve_calle (i := 17) C__law_mixed hr0 rfl (va_cons (ve_var 0) (va_cons (ve_var 1) va_nil))) vo_none (vo_some (ve_calle (i := 1) C__law_take hr0 rfl (va_cons (ve_var 0) (va_cons (ve_bin o_add (ve_var 2) ve_int) va_nil))))) rfl (Or.inr rfl))
    (vb_one (vs_ret (ve_tuple (ve_comp (own := [("_law_name", 4)]) (sl := [4]) rfl nd  (blkOk_by (by first | (show blkC N__law_terms (defScope s__law_terms) _ _ = true; decide +kernel) | kernel_rfl)) (vi_e (ve_var 3)) (by decide) (fun _ _ _ _ _ => (vg_name nd rfl (Or.inl rfl) (Or.inr rfl))) (fun _ _ _ _ _ => vts_nil) (fun _ _ _ _ _ => (ve_tup (va_cons (ve_var 4) (va_cons (ve_calle (i := 4) C__law_big_factor hr0 rfl (va_cons (ve_var 0) va_nil)) va_nil))))) rfl z_tuple))))
theorem b__law_number {n : Nat} (C__law_of : Ce P w K mg base n "_law_of" 2 P__law_of) (C__law_take : Ce P w K mg base n "_law_take" 1 P__law_take) {cdv : Value} {A : Around} {outer : List Env} {s : Shared} {H : Hp} {E : XK} {f : Addr} (hr : Room (2 * n + 41) (A.deeper (envOfC "_law_number" (defScope s__law_number) s.heap.objs.size f cdv))) (dv : Dv base P (envOfC "_law_number" (defScope s__law_number) s.heap.objs.size f cdv :: outer) (A.deeper (envOfC "_law_number" (defScope s__law_number) s.heap.objs.size f cdv))) :
    VB (cxOf CX0 P w K mg base N__law_number "_law_number" (defScope s__law_number) f cdv A outer s H E).nox (defBody s__law_number) (T__law_number (VM.callN FT n)) := by
  have nd := (sc__law_number).nd
  have hr0 : Room (2 * n + 40) (A.deeper (envOfC "_law_number" (defScope s__law_number) s.heap.objs.size f cdv)) := hr.mono (Nat.le_succ _)
  exact (vb_one (vs_ret (ve_calle (i := 2) C__law_of hr0 rfl (va_cons (ve_var 0) (va_cons (ve_lst (va_cons ve_int (va_cons ve_int (va_cons (ve_neg ve_int) (va_cons ve_int (va_cons ve_int (va_cons (ve_bin o_sub (ve_calle (i := 1) C__law_take hr0 rfl (va_cons (ve_var 0) (va_cons ve_int va_nil))) ve_int) (va_cons (ve_calle (i := 1) C__law_take hr0 rfl (va_cons (ve_var 0) (va_cons (ve_bin o_pow ve_int ve_int) va_nil))) (va_cons (ve_bin o_sub ve_int (ve_calle (i := 1) C__law_take hr0 rfl (va_cons (ve_var 0) (va_cons (ve_bin o_pow ve_int ve_int) va_nil)))) va_nil))))))))) va_nil)))))
theorem b__law_modulus {n : Nat} (C__law_of : Ce P w K mg base n "_law_of" 2 P__law_of) (C__law_take : Ce P w K mg base n "_law_take" 1 P__law_take) {cdv : Value} {A : Around} {outer : List Env} {s : Shared} {H : Hp} {E : XK} {f : Addr} (hr : Room (2 * n + 41) (A.deeper (envOfC "_law_modulus" (defScope s__law_modulus) s.heap.objs.size f cdv))) (dv : Dv base P (envOfC "_law_modulus" (defScope s__law_modulus) s.heap.objs.size f cdv :: outer) (A.deeper (envOfC "_law_modulus" (defScope s__law_modulus) s.heap.objs.size f cdv))) :
    VB (cxOf CX0 P w K mg base N__law_modulus "_law_modulus" (defScope s__law_modulus) f cdv A outer s H E).nox (defBody s__law_modulus) (T__law_modulus (VM.callN FT n)) := by
  have nd := (sc__law_modulus).nd
  have hr0 : Room (2 * n + 40) (A.deeper (envOfC "_law_modulus" (defScope s__law_modulus) s.heap.objs.size f cdv)) := hr.mono (Nat.le_succ _)
  exact (vb_one (vs_ret (ve_calle (i := 2) C__law_of hr0 rfl (va_cons (ve_var 0) (va_cons (ve_lst (va_cons ve_int (va_cons ve_int (va_cons ve_int (va_cons ve_int (va_cons ve_int (va_cons ve_int (va_cons ve_int (va_cons ve_int (va_cons (ve_bin o_add ve_int (ve_calle (i := 1) C__law_take hr0 rfl (va_cons (ve_var 0) (va_cons ve_int va_nil)))) (va_cons (ve_bin o_add ve_int (ve_calle (i := 1) C__law_take hr0 rfl (va_cons (ve_var 0) (va_cons (ve_bin o_sub (ve_bin o_pow ve_int ve_int) ve_int) va_nil)))) va_nil))))))))))) va_nil)))))
theorem b_terms_text {n : Nat}  {cdv : Value} {A : Around} {outer : List Env} {s : Shared} {H : Hp} {E : XK} {f : Addr} (hr : Room (2 * n + 41) (A.deeper (envOfC "terms_text" (defScope s_terms_text) s.heap.objs.size f cdv))) (dv : Dv base P (envOfC "terms_text" (defScope s_terms_text) s.heap.objs.size f cdv :: outer) (A.deeper (envOfC "terms_text" (defScope s_terms_text) s.heap.objs.size f cdv))) :
    VB (cxOf CX0 P w K mg base N_terms_text "terms_text" (defScope s_terms_text) f cdv A outer s H E).nox (defBody s_terms_text) (T_terms_text (VM.callN FT n)) := by
  have nd := (sc_terms_text).nd
  have hr0 : Room (2 * n + 40) (A.deeper (envOfC "terms_text" (defScope s_terms_text) s.heap.objs.size f cdv)) := hr.mono (Nat.le_succ _)
  exact (vb_cons (vs_if (vt_cmp (c_eq hr0.units) (ve_var 0) (ve_tup va_nil) (nomark _))
    (vb_one (vs_ret ve_str))
    vb_nil)
    (vb_one (vs_ret (ve_join ve_str (ve_comp (own := [("name", 1), ("factor", 2)]) (sl := [1, 2]) rfl nd  (blkOk_by (by first | (show blkC N_terms_text (defScope s_terms_text) _ _ = true; decide +kernel) | kernel_rfl)) (vi_e (ve_var 0)) (by decide) (fun _ _ _ _ _ => (vg_tup rfl (vgs_cons (vg_name nd rfl (Or.inl rfl) (Or.inr rfl)) (vgs_cons (vg_name nd rfl (Or.inl rfl) (Or.inr rfl)) vgs_nil)))) (fun _ _ _ _ _ => vts_nil) (fun _ _ _ _ _ => (ve_js (.cons (ve_fmt (ve_var 2)) (.cons ve_str (.cons (ve_fmt (ve_var 1)) .nil))))))))))
theorem b_row_text {n : Nat} (C_terms_text : Ce P w K mg base n "terms_text" 52 P_terms_text) {cdv : Value} {A : Around} {outer : List Env} {s : Shared} {H : Hp} {E : XK} {f : Addr} (hr : Room (2 * n + 41) (A.deeper (envOfC "row_text" (defScope s_row_text) s.heap.objs.size f cdv))) (dv : Dv base P (envOfC "row_text" (defScope s_row_text) s.heap.objs.size f cdv :: outer) (A.deeper (envOfC "row_text" (defScope s_row_text) s.heap.objs.size f cdv))) :
    VB (cxOf CX0 P w K mg base N_row_text "row_text" (defScope s_row_text) f cdv A outer s H E).nox (defBody s_row_text) (T_row_text (VM.callN FT n)) := by
  have nd := (sc_row_text).nd
  have hr0 : Room (2 * n + 40) (A.deeper (envOfC "row_text" (defScope s_row_text) s.heap.objs.size f cdv)) := hr.mono (Nat.le_succ _)
  exact (vb_cons (vs_set nd rfl (Or.inl rfl) (ve_js (.cons (ve_fmt (ve_calle (i := 52) C_terms_text hr0 rfl (va_cons (ve_ix (ve_var 0) ve_int) va_nil))) (.cons ve_str (.cons (ve_fmt (ve_ix (ve_var 0) ve_int)) .nil)))) rfl (Or.inr rfl))
    (vb_one (vs_ret (ve_if (vt_cmp c_gt (ve_ix (ve_var 0) ve_int) ve_int (nomark _)) (ve_js (.cons (ve_fmt (ve_var 1)) (.cons ve_str (.cons (ve_fmt (ve_ix (ve_var 0) ve_int)) .nil)))) (ve_var 1)))))
theorem b__law_terms_text {n : Nat} (z_str : mg "str" = none) {cdv : Value} {A : Around} {outer : List Env} {s : Shared} {H : Hp} {E : XK} {f : Addr} (hr : Room (2 * n + 41) (A.deeper (envOfC "_law_terms_text" (defScope s__law_terms_text) s.heap.objs.size f cdv))) (dv : Dv base P (envOfC "_law_terms_text" (defScope s__law_terms_text) s.heap.objs.size f cdv :: outer) (A.deeper (envOfC "_law_terms_text" (defScope s__law_terms_text) s.heap.objs.size f cdv))) :
    VB (cxOf CX0 P w K mg base N__law_terms_text "_law_terms_text" (defScope s__law_terms_text) f cdv A outer s H E).nox (defBody s__law_terms_text) (T__law_terms_text (VM.callN FT n)) := by
  have nd := (sc__law_terms_text).nd
  have hr0 : Room (2 * n + 40) (A.deeper (envOfC "_law_terms_text" (defScope s__law_terms_text) s.heap.objs.size f cdv)) := hr.mono (Nat.le_succ _)
  exact (vb_one (vs_ret (ve_if (vt_cmp (c_ne hr0.units) (ve_var 0) (ve_tup va_nil) (nomark _)) (ve_join ve_str (ve_comp (own := [("_law_name", 1), ("_law_factor", 2)]) (sl := [1, 2]) rfl nd  (blkOk_by (by first | (show blkC N__law_terms_text (defScope s__law_terms_text) _ _ = true; decide +kernel) | kernel_rfl)) (vi_e (ve_var 0)) (by decide) (fun _ _ _ _ _ => (vg_tup rfl (vgs_cons (vg_name nd rfl (Or.inl rfl) (Or.inr rfl)) (vgs_cons (vg_name nd rfl (Or.inl rfl) (Or.inr rfl)) vgs_nil)))) (fun _ _ _ _ _ => vts_nil) (fun _ _ _ _ _ => (ve_bin o_add (ve_bin o_add (ve_strc (ve_var 2) rfl z_str) ve_str) (ve_var 1))))) ve_str)))
theorem b__law_row_text {n : Nat} (C__law_terms_text : Ce P w K mg base n "_law_terms_text" 54 P__law_terms_text) (z_str : mg "str" = none) {cdv : Value} {A : Around} {outer : List Env} {s : Shared} {H : Hp} {E : XK} {f : Addr} (hr : Room (2 * n + 41) (A.deeper (envOfC "_law_row_text" (defScope s__law_row_text) s.heap.objs.size f cdv))) (dv : Dv base P (envOfC "_law_row_text" (defScope s__law_row_text) s.heap.objs.size f cdv :: outer) (A.deeper (envOfC "_law_row_text" (defScope s__law_row_text) s.heap.objs.size f cdv))) :
    VB (cxOf CX0 P w K mg base N__law_row_text "_law_row_text" (defScope s__law_row_text) f cdv A outer s H E).nox (defBody s__law_row_text) (T__law_row_text (VM.callN FT n)) := by
  have nd := (sc__law_row_text).nd
  have hr0 : Room (2 * n + 40) (A.deeper (envOfC "_law_row_text" (defScope s__law_row_text) s.heap.objs.size f cdv)) := hr.mono (Nat.le_succ _)
  exact (vb_cons (vs_set nd rfl (Or.inl rfl) (ve_bin o_add (ve_bin o_add (ve_calle (i := 54) C__law_terms_text hr0 rfl (va_cons (ve_ix (ve_var 0) ve_int) va_nil)) ve_str) (ve_strc (ve_ix (ve_var 0) ve_int) rfl z_str)) rfl (Or.inr rfl))
    (vb_one (vs_ret (ve_if (vt_cmp c_gt (ve_ix (ve_var 0) ve_int) ve_int (nomark _)) (ve_bin o_add (ve_bin o_add (ve_var 1) ve_str) (ve_strc (ve_ix (ve_var 0) ve_int) rfl z_str)) (ve_var 1)))))
theorem b__law_same {n : Nat} (C__law_same : Ce P w K mg base n "_law_same" 16 P__law_same) (z_all : mg "all" = none) (z_bool : mg "bool" = none) (z_int : mg "int" = none) (z_isinstance : mg "isinstance" = none) (z_len : mg "len" = none) (z_list : mg "list" = none) (z_str : mg "str" = none) (z_tuple : mg "tuple" = none) (z_zip : mg "zip" = none) {cdv : Value} {A : Around} {outer : List Env} {s : Shared} {H : Hp} {E : XK} {f : Addr} (hr : Room (2 * n + 41) (A.deeper (envOfC "_law_same" (defScope s__law_same) s.heap.objs.size f cdv))) (dv : Dv base P (envOfC "_law_same" (defScope s__law_same) s.heap.objs.size f cdv :: outer) (A.deeper (envOfC "_law_same" (defScope s__law_same) s.heap.objs.size f cdv))) :
    VB (cxOf CX0 P w K mg base N__law_same "_law_same" (defScope s__law_same) f cdv A outer s H E).nox (defBody s__law_same) (T__law_same (VM.callN FT n)) := by
  have nd := (sc__law_same).nd
  have hr0 : Room (2 * n + 40) (A.deeper (envOfC "_law_same" (defScope s__law_same) s.heap.objs.size f cdv)) := hr.mono (Nat.le_succ _)
  exact (vb_cons (vs_if (vt_cmp c_isN (ve_var 1) ve_non (nomark _))
    (vb_one (vs_ret (ve_cmp c_isN (ve_var 0) ve_non (nomark _))))
    vb_nil)
    (vb_cons (vs_if (vt_w (vw_or (vt_of (ve_isi (T := .bool) (ve_var 1) (ve_ty rfl z_bool rfl) rfl z_isinstance)) (vw_or1 (vt_of (ve_isi (T := .bool) (ve_var 0) (ve_ty rfl z_bool rfl) rfl z_isinstance)))))
    (vb_one (vs_ret (ve_and (ve_isi (T := .bool) (ve_var 1) (ve_ty rfl z_bool rfl) rfl z_isinstance) (ve_and (ve_isi (T := .bool) (ve_var 0) (ve_ty rfl z_bool rfl) rfl z_isinstance) (ve_one (ve_cmp (c_eq hr0.units) (ve_var 0) (ve_var 1) (nomark _)))))))
    vb_nil)
    (vb_cons (vs_if (vt_of (ve_isiT (Ts := [.int, .str]) (ve_var 1) (.cons (T := .int) (ve_ty rfl z_int rfl) (.cons (T := .str) (ve_ty rfl z_str rfl) .nil rfl) rfl) (by decide) rfl z_isinstance))
    (vb_one (vs_ret (ve_and (ve_isiT (Ts := [.int, .str]) (ve_var 0) (.cons (T := .int) (ve_ty rfl z_int rfl) (.cons (T := .str) (ve_ty rfl z_str rfl) .nil rfl) rfl) (by decide) rfl z_isinstance) (ve_and (ve_cmp (c_eq hr0.units) (ve_isi (T := .int) (ve_var 0) (ve_ty rfl z_int rfl) rfl z_isinstance) (ve_isi (T := .int) (ve_var 1) (ve_ty rfl z_int rfl) rfl z_isinstance) (nomark _)) (ve_one (ve_cmp (c_eq hr0.units) (ve_var 0) (ve_var 1) (nomark _)))))))
    vb_nil)
    (vb_cons (vs_if (vt_w (vw_or (vt_cmp (c_ne hr0.units) (ve_isi (T := .list) (ve_var 1) (ve_ty rfl z_list rfl) rfl z_isinstance) (ve_isi (T := .list) (ve_var 0) (ve_ty rfl z_list rfl) rfl z_isinstance) (nomark _)) (vw_or1 (vt_cmp (c_ne hr0.units) (ve_isi (T := .tuple) (ve_var 1) (ve_ty rfl z_tuple rfl) rfl z_isinstance) (ve_isi (T := .tuple) (ve_var 0) (ve_ty rfl z_tuple rfl) rfl z_isinstance) (nomark _)))))
    (vb_one (vs_ret ve_bl))
    vb_nil)
    (vb_cons (vs_if (vt_w (vw_or (vt_not (vt_of (ve_isiT (Ts := [.list, .tuple]) (ve_var 0) (.cons (T := .list) (ve_ty rfl z_list rfl) (.cons (T := .tuple) (ve_ty rfl z_tuple rfl) .nil rfl) rfl) (by decide) rfl z_isinstance))) (vw_or1 (vt_cmp (c_ne hr0.units) (ve_len (ve_var 0) rfl z_len) (ve_len (ve_var 1) rfl z_len) (nomark _)))))
    (vb_one (vs_ret ve_bl))
    vb_nil)
    (vb_one (vs_ret (ve_all rfl (ve_comp (own := [("_law_one", 2), ("_law_two", 3)]) (sl := [2, 3]) rfl nd  (blkOk_by (by first | (show blkC N__law_same (defScope s__law_same) _ _ = true; decide +kernel) | kernel_rfl)) (vi_zip rfl z_zip (ve_var 0) (ve_var 1)) (by decide) (fun _ _ _ _ _ => (vg_tup rfl (vgs_cons (vg_name nd rfl (Or.inl rfl) (Or.inr rfl)) (vgs_cons (vg_name nd rfl (Or.inl rfl) (Or.inr rfl)) vgs_nil)))) (fun _ _ _ _ _ => vts_nil) (fun _ _ _ _ _ => (ve_calle (i := 16) C__law_same hr0 rfl (va_cons (ve_var 2) (va_cons (ve_var 3) va_nil))))) rfl z_all))))))))
theorem b_is_number {n : Nat} (g_DIGITS : ∃ t, mg "DIGITS" = some (.str ⟨[48, 49, 50, 51, 52, 53, 54, 55, 56, 57].toArray⟩ t)) (g_MOST_DIGITS : ∃ t, mg "MOST_DIGITS" = some (.int 60 t)) (z_all : mg "all" = none) (z_len : mg "len" = none) {cdv : Value} {A : Around} {outer : List Env} {s : Shared} {H : Hp} {E : XK} {f : Addr} (hr : Room (2 * n + 41) (A.deeper (envOfC "is_number" (defScope s_is_number) s.heap.objs.size f cdv))) (dv : Dv base P (envOfC "is_number" (defScope s_is_number) s.heap.objs.size f cdv :: outer) (A.deeper (envOfC "is_number" (defScope s_is_number) s.heap.objs.size f cdv))) :
    VB (cxOf CX0 P w K mg base N_is_number "is_number" (defScope s_is_number) f cdv A outer s H E).nox (defBody s_is_number) (T_is_number (VM.callN FT n)) := by
  have nd := (sc_is_number).nd
  have hr0 : Room (2 * n + 40) (A.deeper (envOfC "is_number" (defScope s_is_number) s.heap.objs.size f cdv)) := hr.mono (Nat.le_succ _)
  exact (vb_cons (vs_set nd rfl (Or.inl rfl) (ve_if (vt_of (ve_starts (ve_var 0) ve_str)) (ve_sl (ve_var 0) (vo_some ve_int) vo_none) (ve_var 0)) rfl (Or.inr rfl))
    (vb_cons (vs_if (vt_w (vw_or (vt_not (vt_chain c_le c_le ve_int (ve_len (ve_var 1) rfl z_len) (ve_gint rfl g_MOST_DIGITS) (by with_unfolding_all rfl))) (vw_or1 (vt_not (vt_of (ve_all rfl (ve_comp (own := [("sign", 2)]) (sl := [2]) rfl nd  (blkOk_by (by first | (show blkC N_is_number (defScope s_is_number) _ _ = true; decide +kernel) | kernel_rfl)) (vi_e (ve_var 1)) (by decide) (fun _ _ _ _ _ => (vg_name nd rfl (Or.inl rfl) (Or.inr rfl))) (fun _ _ _ _ _ => vts_nil) (fun _ _ _ _ _ => (ve_cmp c_in (ve_var 2) (ve_gstr rfl g_DIGITS (sOk_of (by decide +kernel))) (by rfl)))) rfl z_all))))))
    (vb_one (vs_ret ve_bl))
    vb_nil)
    (vb_one (vs_ret (ve_or (ve_cmp (c_ne hr0.units) (ve_ix (ve_var 1) ve_int) ve_str (nomark _)) (ve_one (ve_cmp (c_eq hr0.units) (ve_var 0) ve_str (nomark _))))))))
theorem b_is_word {n : Nat} (z_any : mg "any" = none) {cdv : Value} {A : Around} {outer : List Env} {s : Shared} {H : Hp} {E : XK} {f : Addr} (hr : Room (2 * n + 41) (A.deeper (envOfC "is_word" (defScope s_is_word) s.heap.objs.size f cdv))) (dv : Dv base P (envOfC "is_word" (defScope s_is_word) s.heap.objs.size f cdv :: outer) (A.deeper (envOfC "is_word" (defScope s_is_word) s.heap.objs.size f cdv))) :
    VB (cxOf CX0 P w K mg base N_is_word "is_word" (defScope s_is_word) f cdv A outer s H E).nox (defBody s_is_word) (T_is_word (VM.callN FT n)) := by
  have nd := (sc_is_word).nd
  have hr0 : Room (2 * n + 40) (A.deeper (envOfC "is_word" (defScope s_is_word) s.heap.objs.size f cdv)) := hr.mono (Nat.le_succ _)
  exact (vb_one (vs_ret (ve_and (ve_cmp (c_ne hr0.units) (ve_var 0) ve_str (nomark _)) (ve_one (ve_not (ve_any rfl (ve_comp (own := [("sign", 1)]) (sl := [1]) rfl nd  (blkOk_by (by first | (show blkC N_is_word (defScope s_is_word) _ _ = true; decide +kernel) | kernel_rfl)) (vi_e (ve_tup (va_cons ve_str (va_cons ve_str (va_cons ve_str va_nil))))) (by decide) (fun _ _ _ _ _ => (vg_name nd rfl (Or.inl rfl) (Or.inr rfl))) (fun _ _ _ _ _ => vts_nil) (fun _ _ _ _ _ => (ve_cmp c_in (ve_var 1) (ve_var 0) (by rfl)))) rfl z_any))))))
theorem b_read_terms {n : Nat} (C_is_number : Ce P w K mg base n "is_number" 56 P_is_number) (C_is_word : Ce P w K mg base n "is_word" 57 P_is_word) (z_int : mg "int" = none) (z_isinstance : mg "isinstance" = none) (z_str : mg "str" = none) (z_tuple : mg "tuple" = none) {cdv : Value} {A : Around} {outer : List Env} {s : Shared} {H : Hp} {E : XK} {f : Addr} (hr : Room (2 * n + 41) (A.deeper (envOfC "read_terms" (defScope s_read_terms) s.heap.objs.size f cdv))) (dv : Dv base P (envOfC "read_terms" (defScope s_read_terms) s.heap.objs.size f cdv :: outer) (A.deeper (envOfC "read_terms" (defScope s_read_terms) s.heap.objs.size f cdv))) :
    VB (cxOf CX0 P w K mg base N_read_terms "read_terms" (defScope s_read_terms) f cdv A outer s H E).nox (defBody s_read_terms) (T_read_terms (VM.callN FT n)) := by
  have nd := (sc_read_terms).nd
  have hr0 : Room (2 * n + 40) (A.deeper (envOfC "read_terms" (defScope s_read_terms) s.heap.objs.size f cdv)) := hr.mono (Nat.le_succ _)
  exact (vb_cons (vs_if (vt_not (vt_of (ve_isi (T := .str) (ve_var 0) (ve_ty rfl z_str rfl) rfl z_isinstance)))
    (vb_one vs_never)
    vb_nil)
    (vb_cons (vs_if (vt_cmp (c_eq hr0.units) (ve_var 0) ve_str (nomark _))
    (vb_one (vs_ret (ve_tup va_nil)))
    vb_nil)
    (vb_cons (vs_set nd rfl (Or.inl rfl) (ve_lstM va_nil) rfl (Or.inr rfl))
    (vb_cons (vs_for PassesOwn.never rfl (vi_e (ve_split (ve_var 0) ve_str)) (vg_name nd rfl (Or.inl rfl) (Or.inr rfl))
    (vb_cons (vs_asg (sl := [3, 4, 5]) (ve_partition (ve_var 2) ve_str) (vg_tup rfl (vgs_cons (vg_name nd rfl (Or.inl rfl) (Or.inr rfl)) (vgs_cons (vg_name nd rfl (Or.inl rfl) (Or.inr rfl)) (vgs_cons (vg_name nd rfl (Or.inl rfl) (Or.inr rfl)) vgs_nil)))))
    (vb_cons (vs_if (vt_w (vw_or (vt_cmp (c_eq hr0.units) (ve_var 4) ve_str (nomark _)) (vw_or (vt_not (vt_of (ve_calle (i := 56) C_is_number hr0 rfl (va_cons (ve_var 3) va_nil)))) (vw_or1 (vt_not (vt_of (ve_calle (i := 57) C_is_word hr0 rfl (va_cons (ve_var 5) va_nil))))))))
    (vb_one vs_never)
    vb_nil)
    (vb_one (vs_expr (ve_append (ve_var 1) (ve_tup (va_cons (ve_var 5) (va_cons (ve_intT (ve_var 3) rfl z_int) va_nil)))))))))
    (vb_one (vs_ret (ve_tuple (ve_var 1) rfl z_tuple)))))))
theorem b_read_row {n : Nat} (C_is_number : Ce P w K mg base n "is_number" 56 P_is_number) (C_read_terms : Ce P w K mg base n "read_terms" 58 P_read_terms) (z_all : mg "all" = none) (z_int : mg "int" = none) (z_isinstance : mg "isinstance" = none) (z_len : mg "len" = none) (z_str : mg "str" = none) {cdv : Value} {A : Around} {outer : List Env} {s : Shared} {H : Hp} {E : XK} {f : Addr} (hr : Room (2 * n + 41) (A.deeper (envOfC "read_row" (defScope s_read_row) s.heap.objs.size f cdv))) (dv : Dv base P (envOfC "read_row" (defScope s_read_row) s.heap.objs.size f cdv :: outer) (A.deeper (envOfC "read_row" (defScope s_read_row) s.heap.objs.size f cdv))) :
    VB (cxOf CX0 P w K mg base N_read_row "read_row" (defScope s_read_row) f cdv A outer s H E).nox (defBody s_read_row) (T_read_row (VM.callN FT n)) := by
  have nd := (sc_read_row).nd
  have hr0 : Room (2 * n + 40) (A.deeper (envOfC "read_row" (defScope s_read_row) s.heap.objs.size f cdv)) := hr.mono (Nat.le_succ _)
  exact (vb_cons (vs_if (vt_not (vt_of (ve_isi (T := .str) (ve_var 0) (ve_ty rfl z_str rfl) rfl z_isinstance)))
    (vb_one vs_never)
    vb_nil)
    (vb_cons (vs_asg (sl := [1, 2, 3]) (ve_partition (ve_var 0) ve_str) (vg_tup rfl (vgs_cons (vg_name nd rfl (Or.inl rfl) (Or.inr rfl)) (vgs_cons (vg_name nd rfl (Or.inl rfl) (Or.inr rfl)) (vgs_cons (vg_name nd rfl (Or.inl rfl) (Or.inr rfl)) vgs_nil)))))
    (vb_cons (vs_set nd rfl (Or.inl rfl) (ve_calle (i := 58) C_read_terms hr0 rfl (va_cons (ve_var 1) va_nil)) rfl (Or.inr rfl))
    (vb_cons (vs_set nd rfl (Or.inl rfl) (ve_split (ve_var 3) ve_str) rfl (Or.inr rfl))
    (vb_cons (vs_if (vt_w (vw_or (vt_cmp (c_eq hr0.units) (ve_var 2) ve_str (nomark _)) (vw_or (vt_not (vt_of (ve_all rfl (ve_comp (own := [("word", 6)]) (sl := [6]) rfl nd  (blkOk_by (by first | (show blkC N_read_row (defScope s_read_row) _ _ = true; decide +kernel) | kernel_rfl)) (vi_e (ve_sl2 (ve_var 5))) (by decide) (fun _ _ _ _ _ => (vg_name nd rfl (Or.inl rfl) (Or.inr rfl))) (fun _ _ _ _ _ => vts_nil) (fun _ _ _ _ _ => (ve_calle (i := 56) C_is_number hr0 rfl (va_cons (ve_var 6) va_nil)))) rfl z_all))) (vw_or1 (vt_cmp c_notin (ve_len (ve_var 5) rfl z_len) (ve_tup (va_cons ve_int (va_cons ve_int va_nil))) (by rfl))))))
    (vb_one vs_never)
    vb_nil)
    (vb_cons (vs_if (vt_cmp (c_eq hr0.units) (ve_len (ve_var 5) rfl z_len) ve_int (nomark _))
    (vb_one (vs_ret (ve_tup (va_cons (ve_var 4) (va_cons (ve_intT (ve_ix (ve_var 5) ve_int) rfl z_int) (va_cons ve_int va_nil))))))
    vb_nil)
    (vb_cons (vs_if (vt_w (vw_or (vt_cmp (c_ne hr0.units) (ve_ix (ve_var 5) ve_int) ve_str (nomark _)) (vw_or1 (vt_cmp (c_eq hr0.units) (ve_ix (ve_var 5) ve_int) ve_str (nomark _)))))
    (vb_one vs_never)
    vb_nil)
    (vb_one (vs_ret (ve_tup (va_cons (ve_var 4) (va_cons (ve_intT (ve_ix (ve_var 5) ve_int) rfl z_int) (va_cons (ve_intT (ve_ix (ve_var 5) ve_int) rfl z_int) va_nil)))))))))))))
abbrev FnV (K : PySem.W.Frag) (x q : Str) (st : Stmt) (f : Addr) (dvs : List V) : Prop := ∃ fd, FunD K x q (defArgs st) (defBody st) (defScope st) dvs [] f fd
def Fs (K : PySem.W.Frag) (mg : Str → Option Value) : Prop := FnV K "law" "law" s_law (He.ga K "law") [] ∧ mg "law" = some (.ref (He.ga K "law")) ∧ FnV K "_law_bag" "_law_bag" s__law_bag (He.ga K "_law_bag") [] ∧ mg "_law_bag" = some (.ref (He.ga K "_law_bag")) ∧ FnV K "_law_take" "_law_take" s__law_take (He.ga K "_law_take") [] ∧ mg "_law_take" = some (.ref (He.ga K "_law_take")) ∧ FnV K "_law_of" "_law_of" s__law_of (He.ga K "_law_of") [] ∧ mg "_law_of" = some (.ref (He.ga K "_law_of")) ∧ FnV K "_law_names" "_law_names" s__law_names (He.ga K "_law_names") [] ∧ mg "_law_names" = some (.ref (He.ga K "_law_names")) ∧ FnV K "_law_mixed" "_law_mixed" s__law_mixed (He.ga K "_law_mixed") [] ∧ mg "_law_mixed" = some (.ref (He.ga K "_law_mixed")) ∧ FnV K "_law_small" "_law_small" s__law_small (He.ga K "_law_small") [] ∧ mg "_law_small" = some (.ref (He.ga K "_law_small")) ∧ FnV K "_law_big_factor" "_law_big_factor" s__law_big_factor (He.ga K "_law_big_factor") [] ∧ mg "_law_big_factor" = some (.ref (He.ga K "_law_big_factor")) ∧ FnV K "_law_terms" "_law_terms" s__law_terms (He.ga K "_law_terms") [] ∧ mg "_law_terms" = some (.ref (He.ga K "_law_terms")) ∧ FnV K "_law_number" "_law_number" s__law_number (He.ga K "_law_number") [] ∧ mg "_law_number" = some (.ref (He.ga K "_law_number")) ∧ FnV K "_law_modulus" "_law_modulus" s__law_modulus (He.ga K "_law_modulus") [] ∧ mg "_law_modulus" = some (.ref (He.ga K "_law_modulus")) ∧ FnV K "terms_text" "terms_text" s_terms_text (He.ga K "terms_text") [] ∧ mg "terms_text" = some (.ref (He.ga K "terms_text")) ∧ FnV K "row_text" "row_text" s_row_text (He.ga K "row_text") [] ∧ mg "row_text" = some (.ref (He.ga K "row_text")) ∧ FnV K "_law_terms_text" "_law_terms_text" s__law_terms_text (He.ga K "_law_terms_text") [] ∧ mg "_law_terms_text" = some (.ref (He.ga K "_law_terms_text")) ∧ FnV K "_law_row_text" "_law_row_text" s__law_row_text (He.ga K "_law_row_text") [] ∧ mg "_law_row_text" = some (.ref (He.ga K "_law_row_text")) ∧ FnV K "_law_same" "_law_same" s__law_same (He.ga K "_law_same") [] ∧ mg "_law_same" = some (.ref (He.ga K "_law_same")) ∧ FnV K "is_number" "is_number" s_is_number (He.ga K "is_number") [] ∧ mg "is_number" = some (.ref (He.ga K "is_number")) ∧ FnV K "is_word" "is_word" s_is_word (He.ga K "is_word") [] ∧ mg "is_word" = some (.ref (He.ga K "is_word")) ∧ FnV K "read_terms" "read_terms" s_read_terms (He.ga K "read_terms") [] ∧ mg "read_terms" = some (.ref (He.ga K "read_terms")) ∧ FnV K "read_row" "read_row" s_read_row (He.ga K "read_row") [] ∧ mg "read_row" = some (.ref (He.ga K "read_row"))
def Zs (mg : Str → Option Value) : Prop := mg "all" = none ∧ mg "any" = none ∧ mg "bool" = none ∧ mg "int" = none ∧ mg "isinstance" = none ∧ mg "len" = none ∧ mg "list" = none ∧ mg "range" = none ∧ mg "str" = none ∧ mg "tuple" = none ∧ mg "zip" = none
def Gs (K : PySem.W.Frag) (mg : Str → Option Value) : Prop := (∃ t, mg "DIGITS" = some (.str ⟨[48, 49, 50, 51, 52, 53, 54, 55, 56, 57].toArray⟩ t)) ∧ (∃ t, mg "MOST_DIGITS" = some (.int 60 t))
def Qs (K : PySem.W.Frag) : Prop := True
def All (P : Program) (w : World) (K : PySem.W.Frag) (mg : Str → Option Value) (base : Heap) (n : Nat) : Prop := Ce P w K mg base n "law" 60 P_law ∧ Ce P w K mg base n "_law_bag" 0 P__law_bag ∧ Ce P w K mg base n "_law_take" 1 P__law_take ∧ Ce P w K mg base n "_law_of" 2 P__law_of ∧ Ce P w K mg base n "_law_names" 46 P__law_names ∧ Ce P w K mg base n "_law_mixed" 17 P__law_mixed ∧ Ce P w K mg base n "_law_small" 3 P__law_small ∧ Ce P w K mg base n "_law_big_factor" 4 P__law_big_factor ∧ Ce P w K mg base n "_law_terms" 51 P__law_terms ∧ Ce P w K mg base n "_law_number" 26 P__law_number ∧ Ce P w K mg base n "_law_modulus" 22 P__law_modulus ∧ Ce P w K mg base n "terms_text" 52 P_terms_text ∧ Ce P w K mg base n "row_text" 53 P_row_text ∧ Ce P w K mg base n "_law_terms_text" 54 P__law_terms_text ∧ Ce P w K mg base n "_law_row_text" 55 P__law_row_text ∧ Ce P w K mg base n "_law_same" 16 P__law_same ∧ Ce P w K mg base n "is_number" 56 P_is_number ∧ Ce P w K mg base n "is_word" 57 P_is_word ∧ Ce P w K mg base n "read_terms" 58 P_read_terms ∧ Ce P w K mg base n "read_row" 59 P_read_row
theorem all_ok (hF : Fs K mg) (hZ : Zs mg) (hG : Gs K mg) (hQ : Qs K) (hS : base.NoSeer) (hT : P.given.tree = none) : ∀ n, All P w K mg base n := by
  obtain ⟨⟨fd0, F0⟩, m0, ⟨fd1, F1⟩, m1, ⟨fd2, F2⟩, m2, ⟨fd3, F3⟩, m3, ⟨fd4, F4⟩, m4, ⟨fd5, F5⟩, m5, ⟨fd6, F6⟩, m6, ⟨fd7, F7⟩, m7, ⟨fd8, F8⟩, m8, ⟨fd9, F9⟩, m9, ⟨fd10, F10⟩, m10, ⟨fd11, F11⟩, m11, ⟨fd12, F12⟩, m12, ⟨fd13, F13⟩, m13, ⟨fd14, F14⟩, m14, ⟨fd15, F15⟩, m15, ⟨fd16, F16⟩, m16, ⟨fd17, F17⟩, m17, ⟨fd18, F18⟩, m18, ⟨fd19, F19⟩, m19⟩ := hF
  obtain ⟨z_all, z_any, z_bool, z_int, z_isinstance, z_len, z_list, z_range, z_str, z_tuple, z_zip⟩ := hZ
  obtain ⟨g_DIGITS, g_MOST_DIGITS⟩ := hG
  have b0 : Binds K fd0 P_law [] := F0.bindsN fun _ _ _ _ _ _ us hl => match us, hl with | [_], _ => rfl
  have b1 : Binds K fd1 P__law_bag [] := F1.bindsN fun _ _ _ _ _ _ us hl => match us, hl with | [_], _ => rfl
  have b2 : Binds K fd2 P__law_take [] := F2.bindsN fun _ _ _ _ _ _ us hl => match us, hl with | [_, _], _ => rfl
  have b3 : Binds K fd3 P__law_of [] := F3.bindsN fun _ _ _ _ _ _ us hl => match us, hl with | [_, _], _ => rfl
  have b4 : Binds K fd4 P__law_names [] := F4.bindsN fun _ _ _ _ _ _ us hl => match us, hl with | [_, _], _ => rfl
  have b5 : Binds K fd5 P__law_mixed [] := F5.bindsN fun _ _ _ _ _ _ us hl => match us, hl with | [_, _], _ => rfl
  have b6 : Binds K fd6 P__law_small [] := F6.bindsN fun _ _ _ _ _ _ us hl => match us, hl with | [_], _ => rfl
  have b7 : Binds K fd7 P__law_big_factor [] := F7.bindsN fun _ _ _ _ _ _ us hl => match us, hl with | [_], _ => rfl
  have b8 : Binds K fd8 P__law_terms [] := F8.bindsN fun _ _ _ _ _ _ us hl => match us, hl with | [_, _, _], _ => rfl
  have b9 : Binds K fd9 P__law_number [] := F9.bindsN fun _ _ _ _ _ _ us hl => match us, hl with | [_], _ => rfl
  have b10 : Binds K fd10 P__law_modulus [] := F10.bindsN fun _ _ _ _ _ _ us hl => match us, hl with | [_], _ => rfl
  have b11 : Binds K fd11 P_terms_text [] := F11.bindsN fun _ _ _ _ _ _ us hl => match us, hl with | [_], _ => rfl
  have b12 : Binds K fd12 P_row_text [] := F12.bindsN fun _ _ _ _ _ _ us hl => match us, hl with | [_], _ => rfl
  have b13 : Binds K fd13 P__law_terms_text [] := F13.bindsN fun _ _ _ _ _ _ us hl => match us, hl with | [_], _ => rfl
  have b14 : Binds K fd14 P__law_row_text [] := F14.bindsN fun _ _ _ _ _ _ us hl => match us, hl with | [_], _ => rfl
  have b15 : Binds K fd15 P__law_same [] := F15.bindsN fun _ _ _ _ _ _ us hl => match us, hl with | [_, _], _ => rfl
  have b16 : Binds K fd16 P_is_number [] := F16.bindsN fun _ _ _ _ _ _ us hl => match us, hl with | [_], _ => rfl
  have b17 : Binds K fd17 P_is_word [] := F17.bindsN fun _ _ _ _ _ _ us hl => match us, hl with | [_], _ => rfl
  have b18 : Binds K fd18 P_read_terms [] := F18.bindsN fun _ _ _ _ _ _ us hl => match us, hl with | [_], _ => rfl
  have b19 : Binds K fd19 P_read_row [] := F19.bindsN fun _ _ _ _ _ _ us hl => match us, hl with | [_], _ => rfl
  intro n
  induction n with
  | zero => exact ⟨⟨⟨_, fd0, fn_zero, m0, F0.kp, b0, lk_of F0⟩, fun _ _ _ _ h => callN_len (hF := show FT 60 = some ⟨1, 12, T_law_k62⟩ from rfl) rfl h⟩,
      ⟨⟨_, fd1, fn_zero, m1, F1.kp, b1, lk_of F1⟩, fun _ _ _ _ h => callN_len (hF := show FT 0 = some ⟨1, 4, T__law_bag⟩ from rfl) rfl h⟩,
      ⟨⟨_, fd2, fn_zero, m2, F2.kp, b2, lk_of F2⟩, fun _ _ _ _ h => callN_len (hF := show FT 1 = some ⟨2, 5, T__law_take⟩ from rfl) rfl h⟩,
      ⟨⟨_, fd3, fn_zero, m3, F3.kp, b3, lk_of F3⟩, fun _ _ _ _ h => callN_len (hF := show FT 2 = some ⟨2, 2, T__law_of⟩ from rfl) rfl h⟩,
      ⟨⟨_, fd4, fn_zero, m4, F4.kp, b4, lk_of F4⟩, fun _ _ _ _ h => callN_len (hF := show FT 46 = some ⟨2, 8, T__law_names⟩ from rfl) rfl h⟩,
      ⟨⟨_, fd5, fn_zero, m5, F5.kp, b5, lk_of F5⟩, fun _ _ _ _ h => callN_len (hF := show FT 17 = some ⟨2, 4, T__law_mixed⟩ from rfl) rfl h⟩,
      ⟨⟨_, fd6, fn_zero, m6, F6.kp, b6, lk_of F6⟩, fun _ _ _ _ h => callN_len (hF := show FT 3 = some ⟨1, 1, T__law_small⟩ from rfl) rfl h⟩,
      ⟨⟨_, fd7, fn_zero, m7, F7.kp, b7, lk_of F7⟩, fun _ _ _ _ h => callN_len (hF := show FT 4 = some ⟨1, 1, T__law_big_factor⟩ from rfl) rfl h⟩,
      ⟨⟨_, fd8, fn_zero, m8, F8.kp, b8, lk_of F8⟩, fun _ _ _ _ h => callN_len (hF := show FT 51 = some ⟨3, 5, T__law_terms⟩ from rfl) rfl h⟩,
      ⟨⟨_, fd9, fn_zero, m9, F9.kp, b9, lk_of F9⟩, fun _ _ _ _ h => callN_len (hF := show FT 26 = some ⟨1, 1, T__law_number⟩ from rfl) rfl h⟩,
      ⟨⟨_, fd10, fn_zero, m10, F10.kp, b10, lk_of F10⟩, fun _ _ _ _ h => callN_len (hF := show FT 22 = some ⟨1, 1, T__law_modulus⟩ from rfl) rfl h⟩,
      ⟨⟨_, fd11, fn_zero, m11, F11.kp, b11, lk_of F11⟩, fun _ _ _ _ h => callN_len (hF := show FT 52 = some ⟨1, 3, T_terms_text⟩ from rfl) rfl h⟩,
      ⟨⟨_, fd12, fn_zero, m12, F12.kp, b12, lk_of F12⟩, fun _ _ _ _ h => callN_len (hF := show FT 53 = some ⟨1, 2, T_row_text⟩ from rfl) rfl h⟩,
      ⟨⟨_, fd13, fn_zero, m13, F13.kp, b13, lk_of F13⟩, fun _ _ _ _ h => callN_len (hF := show FT 54 = some ⟨1, 3, T__law_terms_text⟩ from rfl) rfl h⟩,
      ⟨⟨_, fd14, fn_zero, m14, F14.kp, b14, lk_of F14⟩, fun _ _ _ _ h => callN_len (hF := show FT 55 = some ⟨1, 2, T__law_row_text⟩ from rfl) rfl h⟩,
      ⟨⟨_, fd15, fn_zero, m15, F15.kp, b15, lk_of F15⟩, fun _ _ _ _ h => callN_len (hF := show FT 16 = some ⟨2, 4, T__law_same⟩ from rfl) rfl h⟩,
      ⟨⟨_, fd16, fn_zero, m16, F16.kp, b16, lk_of F16⟩, fun _ _ _ _ h => callN_len (hF := show FT 56 = some ⟨1, 3, T_is_number⟩ from rfl) rfl h⟩,
      ⟨⟨_, fd17, fn_zero, m17, F17.kp, b17, lk_of F17⟩, fun _ _ _ _ h => callN_len (hF := show FT 57 = some ⟨1, 2, T_is_word⟩ from rfl) rfl h⟩,
      ⟨⟨_, fd18, fn_zero, m18, F18.kp, b18, lk_of F18⟩, fun _ _ _ _ h => callN_len (hF := show FT 58 = some ⟨1, 6, T_read_terms⟩ from rfl) rfl h⟩,
      ⟨⟨_, fd19, fn_zero, m19, F19.kp, b19, lk_of F19⟩, fun _ _ _ _ h => callN_len (hF := show FT 59 = some ⟨1, 7, T_read_row⟩ from rfl) rfl h⟩⟩
  | succ n IH =>
    obtain ⟨C_law, C__law_bag, C__law_take, C__law_of, C__law_names, C__law_mixed, C__law_small, C__law_big_factor, C__law_terms, C__law_number, C__law_modulus, C_terms_text, C_row_text, C__law_terms_text, C__law_row_text, C__law_same, C_is_number, C_is_word, C_read_terms, C_read_row⟩ := IH
    have k0 : FnOk P w K mg base CX0 (2 * (n + 1) + 40) (He.ga K "law") fd0 P_law (spOf K (VM.callN FT (n + 1)) 60 P_law.length) := fn_succ F0 sc_law (show FT 60 = some ⟨1, 12, T_law_k62⟩ from rfl) rfl rfl fun cdv A outer s H E hr => b_law C__law_bag C__law_modulus C__law_names C__law_number C__law_of C__law_row_text C__law_same C__law_take C__law_terms C__law_terms_text C_read_row C_read_terms C_row_text C_terms_text z_int z_range z_str z_tuple hr (dv_fn hS hT sc_law hr)
    have k1 : FnOk P w K mg base CX0 (2 * (n + 1) + 40) (He.ga K "_law_bag") fd1 P__law_bag (spOf K (VM.callN FT (n + 1)) 0 P__law_bag.length) := fn_succ F1 sc__law_bag (show FT 0 = some ⟨1, 4, T__law_bag⟩ from rfl) rfl rfl fun cdv A outer s H E hr => b__law_bag z_int z_len hr (dv_fn hS hT sc__law_bag hr)
    have k2 : FnOk P w K mg base CX0 (2 * (n + 1) + 40) (He.ga K "_law_take") fd2 P__law_take (spOf K (VM.callN FT (n + 1)) 1 P__law_take.length) := fn_succ F2 sc__law_take (show FT 1 = some ⟨2, 5, T__law_take⟩ from rfl) rfl rfl fun cdv A outer s H E hr => b__law_take z_int z_len hr (dv_fn hS hT sc__law_take hr)
    have k3 : FnOk P w K mg base CX0 (2 * (n + 1) + 40) (He.ga K "_law_of") fd3 P__law_of (spOf K (VM.callN FT (n + 1)) 2 P__law_of.length) := fn_succ F3 sc__law_of (show FT 2 = some ⟨2, 2, T__law_of⟩ from rfl) rfl rfl fun cdv A outer s H E hr => b__law_of C__law_take z_len hr (dv_fn hS hT sc__law_of hr)
    have k4 : FnOk P w K mg base CX0 (2 * (n + 1) + 40) (He.ga K "_law_names") fd4 P__law_names (spOf K (VM.callN FT (n + 1)) 46 P__law_names.length) := fn_succ F4 sc__law_names (show FT 46 = some ⟨2, 8, T__law_names⟩ from rfl) rfl rfl fun cdv A outer s H E hr => b__law_names C__law_of C__law_take z_int z_len z_range hr (dv_fn hS hT sc__law_names hr)
    have k5 : FnOk P w K mg base CX0 (2 * (n + 1) + 40) (He.ga K "_law_mixed") fd5 P__law_mixed (spOf K (VM.callN FT (n + 1)) 17 P__law_mixed.length) := fn_succ F5 sc__law_mixed (show FT 17 = some ⟨2, 4, T__law_mixed⟩ from rfl) rfl rfl fun cdv A outer s H E hr => b__law_mixed C__law_take z_len hr (dv_fn hS hT sc__law_mixed hr)
    have k6 : FnOk P w K mg base CX0 (2 * (n + 1) + 40) (He.ga K "_law_small") fd6 P__law_small (spOf K (VM.callN FT (n + 1)) 3 P__law_small.length) := fn_succ F6 sc__law_small (show FT 3 = some ⟨1, 1, T__law_small⟩ from rfl) rfl rfl fun cdv A outer s H E hr => b__law_small C__law_of hr (dv_fn hS hT sc__law_small hr)
    have k7 : FnOk P w K mg base CX0 (2 * (n + 1) + 40) (He.ga K "_law_big_factor") fd7 P__law_big_factor (spOf K (VM.callN FT (n + 1)) 4 P__law_big_factor.length) := fn_succ F7 sc__law_big_factor (show FT 4 = some ⟨1, 1, T__law_big_factor⟩ from rfl) rfl rfl fun cdv A outer s H E hr => b__law_big_factor C__law_small C__law_take hr (dv_fn hS hT sc__law_big_factor hr)
    have k8 : FnOk P w K mg base CX0 (2 * (n + 1) + 40) (He.ga K "_law_terms") fd8 P__law_terms (spOf K (VM.callN FT (n + 1)) 51 P__law_terms.length) := fn_succ F8 sc__law_terms (show FT 51 = some ⟨3, 5, T__law_terms⟩ from rfl) rfl rfl fun cdv A outer s H E hr => b__law_terms C__law_big_factor C__law_mixed C__law_take z_tuple hr (dv_fn hS hT sc__law_terms hr)
    have k9 : FnOk P w K mg base CX0 (2 * (n + 1) + 40) (He.ga K "_law_number") fd9 P__law_number (spOf K (VM.callN FT (n + 1)) 26 P__law_number.length) := fn_succ F9 sc__law_number (show FT 26 = some ⟨1, 1, T__law_number⟩ from rfl) rfl rfl fun cdv A outer s H E hr => b__law_number C__law_of C__law_take hr (dv_fn hS hT sc__law_number hr)
    have k10 : FnOk P w K mg base CX0 (2 * (n + 1) + 40) (He.ga K "_law_modulus") fd10 P__law_modulus (spOf K (VM.callN FT (n + 1)) 22 P__law_modulus.length) := fn_succ F10 sc__law_modulus (show FT 22 = some ⟨1, 1, T__law_modulus⟩ from rfl) rfl rfl fun cdv A outer s H E hr => b__law_modulus C__law_of C__law_take hr (dv_fn hS hT sc__law_modulus hr)
    have k11 : FnOk P w K mg base CX0 (2 * (n + 1) + 40) (He.ga K "terms_text") fd11 P_terms_text (spOf K (VM.callN FT (n + 1)) 52 P_terms_text.length) := fn_succ F11 sc_terms_text (show FT 52 = some ⟨1, 3, T_terms_text⟩ from rfl) rfl rfl fun cdv A outer s H E hr => b_terms_text  hr (dv_fn hS hT sc_terms_text hr)
    have k12 : FnOk P w K mg base CX0 (2 * (n + 1) + 40) (He.ga K "row_text") fd12 P_row_text (spOf K (VM.callN FT (n + 1)) 53 P_row_text.length) := fn_succ F12 sc_row_text (show FT 53 = some ⟨1, 2, T_row_text⟩ from rfl) rfl rfl fun cdv A outer s H E hr => b_row_text C_terms_text hr (dv_fn hS hT sc_row_text hr)
    have k13 : FnOk P w K mg base CX0 (2 * (n + 1) + 40) (He.ga K "_law_terms_text") fd13 P__law_terms_text (spOf K (VM.callN FT (n + 1)) 54 P__law_terms_text.length) := fn_succ F13 sc__law_terms_text (show FT 54 = some ⟨1, 3, T__law_terms_text⟩ from rfl) rfl rfl fun cdv A outer s H E hr => b__law_terms_text z_str hr (dv_fn hS hT sc__law_terms_text hr)
    have k14 : FnOk P w K mg base CX0 (2 * (n + 1) + 40) (He.ga K "_law_row_text") fd14 P__law_row_text (spOf K (VM.callN FT (n + 1)) 55 P__law_row_text.length) := fn_succ F14 sc__law_row_text (show FT 55 = some ⟨1, 2, T__law_row_text⟩ from rfl) rfl rfl fun cdv A outer s H E hr => b__law_row_text C__law_terms_text z_str hr (dv_fn hS hT sc__law_row_text hr)
    have k15 : FnOk P w K mg base CX0 (2 * (n + 1) + 40) (He.ga K "_law_same") fd15 P__law_same (spOf K (VM.callN FT (n + 1)) 16 P__law_same.length) := fn_succ F15 sc__law_same (show FT 16 = some ⟨2, 4, T__law_same⟩ from rfl) rfl rfl fun cdv A outer s H E hr => b__law_same C__law_same z_all z_bool z_int z_isinstance z_len z_list z_str z_tuple z_zip hr (dv_fn hS hT sc__law_same hr)
    have k16 : FnOk P w K mg base CX0 (2 * (n + 1) + 40) (He.ga K "is_number") fd16 P_is_number (spOf K (VM.callN FT (n + 1)) 56 P_is_number.length) := fn_succ F16 sc_is_number (show FT 56 = some ⟨1, 3, T_is_number⟩ from rfl) rfl rfl fun cdv A outer s H E hr => b_is_number g_DIGITS g_MOST_DIGITS z_all z_len hr (dv_fn hS hT sc_is_number hr)
    have k17 : FnOk P w K mg base CX0 (2 * (n + 1) + 40) (He.ga K "is_word") fd17 P_is_word (spOf K (VM.callN FT (n + 1)) 57 P_is_word.length) := fn_succ F17 sc_is_word (show FT 57 = some ⟨1, 2, T_is_word⟩ from rfl) rfl rfl fun cdv A outer s H E hr => b_is_word z_any hr (dv_fn hS hT sc_is_word hr)
    have k18 : FnOk P w K mg base CX0 (2 * (n + 1) + 40) (He.ga K "read_terms") fd18 P_read_terms (spOf K (VM.callN FT (n + 1)) 58 P_read_terms.length) := fn_succ F18 sc_read_terms (show FT 58 = some ⟨1, 6, T_read_terms⟩ from rfl) rfl rfl fun cdv A outer s H E hr => b_read_terms C_is_number C_is_word z_int z_isinstance z_str z_tuple hr (dv_fn hS hT sc_read_terms hr)
    have k19 : FnOk P w K mg base CX0 (2 * (n + 1) + 40) (He.ga K "read_row") fd19 P_read_row (spOf K (VM.callN FT (n + 1)) 59 P_read_row.length) := fn_succ F19 sc_read_row (show FT 59 = some ⟨1, 7, T_read_row⟩ from rfl) rfl rfl fun cdv A outer s H E hr => b_read_row C_is_number C_read_terms z_all z_int z_isinstance z_len z_str hr (dv_fn hS hT sc_read_row hr)
    exact ⟨⟨⟨_, fd0, k0, m0, F0.kp, b0, lk_of F0⟩, fun _ _ _ _ h => callN_len (hF := show FT 60 = some ⟨1, 12, T_law_k62⟩ from rfl) rfl h⟩,
      ⟨⟨_, fd1, k1, m1, F1.kp, b1, lk_of F1⟩, fun _ _ _ _ h => callN_len (hF := show FT 0 = some ⟨1, 4, T__law_bag⟩ from rfl) rfl h⟩,
      ⟨⟨_, fd2, k2, m2, F2.kp, b2, lk_of F2⟩, fun _ _ _ _ h => callN_len (hF := show FT 1 = some ⟨2, 5, T__law_take⟩ from rfl) rfl h⟩,
      ⟨⟨_, fd3, k3, m3, F3.kp, b3, lk_of F3⟩, fun _ _ _ _ h => callN_len (hF := show FT 2 = some ⟨2, 2, T__law_of⟩ from rfl) rfl h⟩,
      ⟨⟨_, fd4, k4, m4, F4.kp, b4, lk_of F4⟩, fun _ _ _ _ h => callN_len (hF := show FT 46 = some ⟨2, 8, T__law_names⟩ from rfl) rfl h⟩,
      ⟨⟨_, fd5, k5, m5, F5.kp, b5, lk_of F5⟩, fun _ _ _ _ h => callN_len (hF := show FT 17 = some ⟨2, 4, T__law_mixed⟩ from rfl) rfl h⟩,
      ⟨⟨_, fd6, k6, m6, F6.kp, b6, lk_of F6⟩, fun _ _ _ _ h => callN_len (hF := show FT 3 = some ⟨1, 1, T__law_small⟩ from rfl) rfl h⟩,
      ⟨⟨_, fd7, k7, m7, F7.kp, b7, lk_of F7⟩, fun _ _ _ _ h => callN_len (hF := show FT 4 = some ⟨1, 1, T__law_big_factor⟩ from rfl) rfl h⟩,
      ⟨⟨_, fd8, k8, m8, F8.kp, b8, lk_of F8⟩, fun _ _ _ _ h => callN_len (hF := show FT 51 = some ⟨3, 5, T__law_terms⟩ from rfl) rfl h⟩,
      ⟨⟨_, fd9, k9, m9, F9.kp, b9, lk_of F9⟩, fun _ _ _ _ h => callN_len (hF := show FT 26 = some ⟨1, 1, T__law_number⟩ from rfl) rfl h⟩,
      ⟨⟨_, fd10, k10, m10, F10.kp, b10, lk_of F10⟩, fun _ _ _ _ h => callN_len (hF := show FT 22 = some ⟨1, 1, T__law_modulus⟩ from rfl) rfl h⟩,
      ⟨⟨_, fd11, k11, m11, F11.kp, b11, lk_of F11⟩, fun _ _ _ _ h => callN_len (hF := show FT 52 = some ⟨1, 3, T_terms_text⟩ from rfl) rfl h⟩,
      ⟨⟨_, fd12, k12, m12, F12.kp, b12, lk_of F12⟩, fun _ _ _ _ h => callN_len (hF := show FT 53 = some ⟨1, 2, T_row_text⟩ from rfl) rfl h⟩,
      ⟨⟨_, fd13, k13, m13, F13.kp, b13, lk_of F13⟩, fun _ _ _ _ h => callN_len (hF := show FT 54 = some ⟨1, 3, T__law_terms_text⟩ from rfl) rfl h⟩,
      ⟨⟨_, fd14, k14, m14, F14.kp, b14, lk_of F14⟩, fun _ _ _ _ h => callN_len (hF := show FT 55 = some ⟨1, 2, T__law_row_text⟩ from rfl) rfl h⟩,
      ⟨⟨_, fd15, k15, m15, F15.kp, b15, lk_of F15⟩, fun _ _ _ _ h => callN_len (hF := show FT 16 = some ⟨2, 4, T__law_same⟩ from rfl) rfl h⟩,
      ⟨⟨_, fd16, k16, m16, F16.kp, b16, lk_of F16⟩, fun _ _ _ _ h => callN_len (hF := show FT 56 = some ⟨1, 3, T_is_number⟩ from rfl) rfl h⟩,
      ⟨⟨_, fd17, k17, m17, F17.kp, b17, lk_of F17⟩, fun _ _ _ _ h => callN_len (hF := show FT 57 = some ⟨1, 2, T_is_word⟩ from rfl) rfl h⟩,
      ⟨⟨_, fd18, k18, m18, F18.kp, b18, lk_of F18⟩, fun _ _ _ _ h => callN_len (hF := show FT 58 = some ⟨1, 6, T_read_terms⟩ from rfl) rfl h⟩,
      ⟨⟨_, fd19, k19, m19, F19.kp, b19, lk_of F19⟩, fun _ _ _ _ h => callN_len (hF := show FT 59 = some ⟨1, 7, T_read_row⟩ from rfl) rfl h⟩⟩
end
end L_k62
theorem L_k62.law_true (is : List Int) (hl : is.length ≤ 63) : VM.callN L_k62.FT 90 60 [.scr is] [] (fun v _ => v = .bl true) VS.nox := VP.law_true62 is hl _
set_option maxHeartbeats 0
namespace L_k62
open PySem PySem.Spec PyProof.Rows L2 VS
def d_law : DefV := ⟨fun K => He.ga K "law", "law", "law", defArgs s_law, defBody s_law, defScope s_law, []⟩
def d__law_bag : DefV := ⟨fun K => He.ga K "_law_bag", "_law_bag", "_law_bag", defArgs s__law_bag, defBody s__law_bag, defScope s__law_bag, []⟩
def d__law_take : DefV := ⟨fun K => He.ga K "_law_take", "_law_take", "_law_take", defArgs s__law_take, defBody s__law_take, defScope s__law_take, []⟩
def d__law_of : DefV := ⟨fun K => He.ga K "_law_of", "_law_of", "_law_of", defArgs s__law_of, defBody s__law_of, defScope s__law_of, []⟩
def d__law_names : DefV := ⟨fun K => He.ga K "_law_names", "_law_names", "_law_names", defArgs s__law_names, defBody s__law_names, defScope s__law_names, []⟩
def d__law_mixed : DefV := ⟨fun K => He.ga K "_law_mixed", "_law_mixed", "_law_mixed", defArgs s__law_mixed, defBody s__law_mixed, defScope s__law_mixed, []⟩
def d__law_small : DefV := ⟨fun K => He.ga K "_law_small", "_law_small", "_law_small", defArgs s__law_small, defBody s__law_small, defScope s__law_small, []⟩
def d__law_big_factor : DefV := ⟨fun K => He.ga K "_law_big_factor", "_law_big_factor", "_law_big_factor", defArgs s__law_big_factor, defBody s__law_big_factor, defScope s__law_big_factor, []⟩
def d__law_terms : DefV := ⟨fun K => He.ga K "_law_terms", "_law_terms", "_law_terms", defArgs s__law_terms, defBody s__law_terms, defScope s__law_terms, []⟩
def d__law_number : DefV := ⟨fun K => He.ga K "_law_number", "_law_number", "_law_number", defArgs s__law_number, defBody s__law_number, defScope s__law_number, []⟩
def d__law_modulus : DefV := ⟨fun K => He.ga K "_law_modulus", "_law_modulus", "_law_modulus", defArgs s__law_modulus, defBody s__law_modulus, defScope s__law_modulus, []⟩
def d_terms_text : DefV := ⟨fun K => He.ga K "terms_text", "terms_text", "terms_text", defArgs s_terms_text, defBody s_terms_text, defScope s_terms_text, []⟩
def d_row_text : DefV := ⟨fun K => He.ga K "row_text", "row_text", "row_text", defArgs s_row_text, defBody s_row_text, defScope s_row_text, []⟩
def d__law_terms_text : DefV := ⟨fun K => He.ga K "_law_terms_text", "_law_terms_text", "_law_terms_text", defArgs s__law_terms_text, defBody s__law_terms_text, defScope s__law_terms_text, []⟩
def d__law_row_text : DefV := ⟨fun K => He.ga K "_law_row_text", "_law_row_text", "_law_row_text", defArgs s__law_row_text, defBody s__law_row_text, defScope s__law_row_text, []⟩
def d__law_same : DefV := ⟨fun K => He.ga K "_law_same", "_law_same", "_law_same", defArgs s__law_same, defBody s__law_same, defScope s__law_same, []⟩
def d_is_number : DefV := ⟨fun K => He.ga K "is_number", "is_number", "is_number", defArgs s_is_number, defBody s_is_number, defScope s_is_number, []⟩
def d_is_word : DefV := ⟨fun K => He.ga K "is_word", "is_word", "is_word", defArgs s_is_word, defBody s_is_word, defScope s_is_word, []⟩
def d_read_terms : DefV := ⟨fun K => He.ga K "read_terms", "read_terms", "read_terms", defArgs s_read_terms, defBody s_read_terms, defScope s_read_terms, []⟩
def d_read_row : DefV := ⟨fun K => He.ga K "read_row", "read_row", "read_row", defArgs s_read_row, defBody s_read_row, defScope s_read_row, []⟩
def fn : List DefV := [d_law, d__law_bag, d__law_take, d__law_of, d__law_names, d__law_mixed, d__law_small, d__law_big_factor, d__law_terms, d__law_number, d__law_modulus, d_terms_text, d_row_text, d__law_terms_text, d__law_row_text, d__law_same, d_is_number, d_is_word, d_read_terms, d_read_row]
def fa : List He.Fa := [.glo "law", .glo "_law_bag", .glo "_law_take", .glo "_law_of", .glo "_law_names", .glo "_law_mixed", .glo "_law_small", .glo "_law_big_factor", .glo "_law_terms", .glo "_law_number", .glo "_law_modulus", .glo "terms_text", .glo "row_text", .glo "_law_terms_text", .glo "_law_row_text", .glo "_law_same", .glo "is_number", .glo "is_word", .glo "read_terms", .glo "read_row", .free "all", .free "any", .free "bool", .free "int", .free "isinstance", .free "len", .free "list", .free "range", .free "str", .free "tuple", .free "zip", .str "DIGITS" "0123456789", .int "MOST_DIGITS" 60]
def ex (K : PySem.W.Frag) : Bool := true
abbrev R : PySem.W.OpenRow := PySem.W.OpenLaw.row PySem.Challenge.rw_whatcrosses_k62_whole_texts_of_rows_ther
abbrev hk : PySem.W.Hook := hookV 5 fa fn ex
def ob (s : PySem.W.SharedT) : AlV := obsVG 5 fa fn ex (HandSHeadRun.getT s)
theorem ob_eq (s : PySem.W.SharedT) : ob s = hk.obs s.abs := obsVG_eq (HandSHeadRun.getT_eq s)
def names0 : List PySem.Str := ["__name__", "CrossError", "InvalidText", "DIGITS", "MOST_DIGITS", "is_number", "is_word", "terms_text", "row_text", "read_terms", "read_row", "_law_bag", "_law_take", "_law_of", "_law_mixed", "_law_same"]
def names1 : List PySem.Str := ["_law_names", "_law_small", "_law_big_factor", "_law_terms", "_law_modulus", "_law_number", "_law_terms_text", "_law_row_text"]
def names : List PySem.Str := names0 ++ names1
theorem run (w : World) : HandSHeadRun.RunEq R (PySem.W.view R.prog [26]) hk ob 40000 names w := by
  intro os
  kernel_rfl
theorem facts {K : PySem.W.Frag} {h : Heap} {mg : Str → Option Value} (X : K.In h) (G : h.Ns mainGlobals mg) (c : SaysV fa fn ex K) : Fs K mg ∧ Zs mg ∧ Gs K mg ∧ Qs K := by
  exact ⟨⟨c.def_ 0 (d := d_law) rfl, He.glo_ok X G (c.fact 0 (f := .glo "law") rfl), c.def_ 1 (d := d__law_bag) rfl, He.glo_ok X G (c.fact 1 (f := .glo "_law_bag") rfl), c.def_ 2 (d := d__law_take) rfl, He.glo_ok X G (c.fact 2 (f := .glo "_law_take") rfl), c.def_ 3 (d := d__law_of) rfl, He.glo_ok X G (c.fact 3 (f := .glo "_law_of") rfl), c.def_ 4 (d := d__law_names) rfl, He.glo_ok X G (c.fact 4 (f := .glo "_law_names") rfl), c.def_ 5 (d := d__law_mixed) rfl, He.glo_ok X G (c.fact 5 (f := .glo "_law_mixed") rfl), c.def_ 6 (d := d__law_small) rfl, He.glo_ok X G (c.fact 6 (f := .glo "_law_small") rfl), c.def_ 7 (d := d__law_big_factor) rfl, He.glo_ok X G (c.fact 7 (f := .glo "_law_big_factor") rfl), c.def_ 8 (d := d__law_terms) rfl, He.glo_ok X G (c.fact 8 (f := .glo "_law_terms") rfl), c.def_ 9 (d := d__law_number) rfl, He.glo_ok X G (c.fact 9 (f := .glo "_law_number") rfl), c.def_ 10 (d := d__law_modulus) rfl, He.glo_ok X G (c.fact 10 (f := .glo "_law_modulus") rfl), c.def_ 11 (d := d_terms_text) rfl, He.glo_ok X G (c.fact 11 (f := .glo "terms_text") rfl), c.def_ 12 (d := d_row_text) rfl, He.glo_ok X G (c.fact 12 (f := .glo "row_text") rfl), c.def_ 13 (d := d__law_terms_text) rfl, He.glo_ok X G (c.fact 13 (f := .glo "_law_terms_text") rfl), c.def_ 14 (d := d__law_row_text) rfl, He.glo_ok X G (c.fact 14 (f := .glo "_law_row_text") rfl), c.def_ 15 (d := d__law_same) rfl, He.glo_ok X G (c.fact 15 (f := .glo "_law_same") rfl), c.def_ 16 (d := d_is_number) rfl, He.glo_ok X G (c.fact 16 (f := .glo "is_number") rfl), c.def_ 17 (d := d_is_word) rfl, He.glo_ok X G (c.fact 17 (f := .glo "is_word") rfl), c.def_ 18 (d := d_read_terms) rfl, He.glo_ok X G (c.fact 18 (f := .glo "read_terms") rfl), c.def_ 19 (d := d_read_row) rfl, He.glo_ok X G (c.fact 19 (f := .glo "read_row") rfl)⟩, ⟨He.free_ok X G (c.fact 20 (f := .free "all") rfl), He.free_ok X G (c.fact 21 (f := .free "any") rfl), He.free_ok X G (c.fact 22 (f := .free "bool") rfl), He.free_ok X G (c.fact 23 (f := .free "int") rfl), He.free_ok X G (c.fact 24 (f := .free "isinstance") rfl), He.free_ok X G (c.fact 25 (f := .free "len") rfl), He.free_ok X G (c.fact 26 (f := .free "list") rfl), He.free_ok X G (c.fact 27 (f := .free "range") rfl), He.free_ok X G (c.fact 28 (f := .free "str") rfl), He.free_ok X G (c.fact 29 (f := .free "tuple") rfl), He.free_ok X G (c.fact 30 (f := .free "zip") rfl)⟩, ⟨He.str_ok X G (c.fact 31 (f := .str "DIGITS" "0123456789") rfl), He.int_ok X G (c.fact 32 (f := .int "MOST_DIGITS" 60) rfl)⟩, trivial⟩
end L_k62
open PySem PySem.W PySem.Calls PyProof.Rows
theorem PySem.Challenge.cw_whatcrosses_k62_whole_texts_of_rows_ther_holds : PySem.Challenge.rw_whatcrosses_k62_whole_texts_of_rows_ther.Holds := by
  w_on; o_law
  refine HandSHeadRun.head_any (r := OpenLaw.row PySem.Challenge.rw_whatcrosses_k62_whole_texts_of_rows_ther) (q := view (OpenLaw.row PySem.Challenge.rw_whatcrosses_k62_whole_texts_of_rows_ther).prog [26]) (H := L_k62.hk) (ob := L_k62.ob) (M := 40000) (loose := L_k62.names) (d := HandSHeadRun.topDef (OpenLaw.row PySem.Challenge.rw_whatcrosses_k62_whole_texts_of_rows_ther).prog 26) (kwd := []) L_k62.ob_eq
    (by kernel_rfl) (fun s => by kernel_rfl) L_k62.run (by kernel_rfl) (by kernel_rfl) (by kernel_rfl) (by rfl) (by first | assumption | decide +kernel) (by decide +kernel) ⟨rfl, rfl, rfl, rfl, rfl, by decide +kernel⟩ ?hw ?hc
  case hw => w_witness2
  case hc =>
    refine VS.walk_ofV (l := PySem.Challenge.rw_whatcrosses_k62_whole_texts_of_rows_ther) (n := 63) (k := 2 * 90 + 40) (x := "_law_script") rfl (by decide) (by kernel_rfl) ⟨rfl, by decide, by decide⟩ (by kernel_rfl) ?F
    intro w mg fa h Y G hmg0
    obtain ⟨K, KX, c⟩ := Y
    have hmg : mg ("law" : PySem.Str) = some (.ref fa) := by
      have e : (HandSHeadRun.topDef (OpenLaw.row PySem.Challenge.rw_whatcrosses_k62_whole_texts_of_rows_ther).prog 26).name = ("law" : PySem.Str) := by kernel_rfl
      rw [← e]
      exact hmg0
    obtain ⟨hF, hZ, hG, hQ⟩ := L_k62.facts KX G c
    obtain ⟨fd0, F0⟩ := hF.1
    have m0 := hF.2.1
    have ef : He.ga K "law" = fa := by
      have e := m0.symm.trans hmg
      cases e
      rfl
    have b := L2.FunD.bindsA (ps := ["_law_script"]) F0 fun _ _ _ _ _ _ us hl => match us, hl with | [_], _ => rfl
    refine ⟨K, fd0, KX, c.b.2.2.2, fun s v => b s [v] rfl, VS.spOf K (VM.callN L_k62.FT 90) 60 1, fun H a is hl hS => VS.sp_law hS (L_k62.law_true is hl), fun base hK hN hS => ?_⟩
    obtain ⟨f1, fd1, F1, m1, k1, b1, lk1⟩ := (L_k62.all_ok (P := (PySem.Challenge.rw_whatcrosses_k62_whole_texts_of_rows_ther).prog) (w := w) (base := base) hF hZ hG hQ hS (by kernel_rfl) 90).1.ok
    have e1 : f1 = fa := by
      have e := m1.symm.trans hmg
      cases e
      rfl
    subst e1
    have e2 : fd1 = fd0 := VS.lk_inj lk1 (by rw [← ef]; exact VS.lk_of F0)
    subst e2
    exact F1
