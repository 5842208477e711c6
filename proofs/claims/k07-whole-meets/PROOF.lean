import PyProof.Rows.All
import Wide.All
import OpenK.AllK
import Wide.FinOn
import HandS.ForMost
import HandS.Conv
import HandS.More
import HandS.Walk
import HandS.Zip
import HandS.Rev
import HandS.IsInst
import HandS.Wide
import HandS.TupAny
import HandS.TupMul
import HandS.Deep
import HandS.Flow
import KE.GoesMore
import KE.GoesEnum
import HandS.Defaults
import HandS.Words
import HandS.Ends
import HandS.HeadEnd
import HandS.Head0
import HandS.Head1
import HandS.Head2
import HandS.HeadHook1
import HandS.HeadHook2
import PySem.Challenge.RW_whatcrosses_k07_whole_vectors_in_both_la
set_option Elab.async false
set_option linter.all false
set_option maxRecDepth 100000
set_option maxHeartbeats 4000000
section
namespace VM
abbrev Sg := List Nat
/-- a value: lists, tuples, dicts and instances that no longer change are trees; one that may change is a reference into the store -/
inductive PV where
  | non | bl (b : Bool) | int (i : Int) | str (s : Sg)
  | tup (xs : List PV) | lst (xs : List PV)
  | dct (ks vs : List PV)
  | dctT (ks vs : List PV)
  | obj (c : Nat) (vs : List PV)
  | scr (is : List Int)
  | ref (i : Nat)
  | ty (n : Nat) | fn (f : Nat) | cls (c : Nat)
  deriving Inhabited
/-- an object of the store -/
inductive SO where
  | dead
  | lst (xs : List PV)
  | dct (ks vs : List PV)
  | dctT (ks vs : List PV)
  | ins (c : Nat) (vs : List (Option PV))
  deriving Inhabited
abbrev Store := List SO
abbrev SZ : Nat := 16777216
abbrev Env := List (Option PV)
abbrev KV := PV → Store → Prop
abbrev TE := Env → Store → KV → KV → Prop
abbrev TT := Env → Store → (Bool → Store → Prop) → KV → Prop
abbrev TA := Env → Store → (List PV → Store → Prop) → KV → Prop
structure Ends where
  nx : Env → Store → Prop
  rt : KV
  bk : Env → Store → Prop
  ct : Env → Store → Prop
  xk : KV
abbrev TS := Ends → Env → Store → Prop
abbrev TG := PV → Env → Store → (Env → Store → Prop) → Prop
abbrev CS := Nat → List PV → Store → KV → KV → Prop

mutual
/-- ==, of data -/
def eqv : PV → PV → Bool
  | .non, y => match y with | .non => true | _ => false
  | .bl a, y => match y with | .bl b => a == b | .int j => (if a then 1 else 0) == j | _ => false
  | .int i, y => match y with | .int j => i == j | .bl b => i == (if b then 1 else 0) | _ => false
  | .str a, y => match y with | .str b => a == b | _ => false
  | .tup xs, y => match y with | .tup ys => eqvL xs ys | _ => false
  | .lst xs, y => match y with | .lst ys => eqvL xs ys | _ => false
  | _, _ => false
def eqvL : List PV → List PV → Bool
  | [], ys => match ys with | [] => true | _ => false
  | x :: xs, ys => match ys with | y :: ys => eqv x y && eqvL xs ys | [] => false
end
mutual
/-- data alone, at most so deep -/
def isD : Nat → PV → Bool
  | _, .non => true
  | _, .bl _ => true
  | _, .int _ => true
  | _, .str _ => true
  | n, .tup xs => match n with | 0 => false | n + 1 => isDL n xs
  | n, .lst xs => match n with | 0 => false | n + 1 => isDL n xs
  | _, _ => false
def isDL : Nat → List PV → Bool
  | _, [] => true
  | n, x :: xs => isD n x && isDL n xs
end
/-- the items of a list, as it stands -/
def asL (st : Store) : PV → Option (List PV)
  | .lst xs => some xs
  | .ref i => match st[i]? with | some (.lst xs) => some xs | _ => none
  | _ => none
def signs (s : Sg) : List PV := s.map fun c => .str [c]
/-- what a for walks -/
def items (st : Store) : PV → Option (List PV)
  | .lst xs => some xs
  | .tup xs => some xs
  | .str s => some (signs s)
  | .dct ks _ => some ks
  | .dctT ks _ => some ks
  | .ref i => match st[i]? with | some (.lst xs) => some xs | some (.dct ks _) => some ks | some (.dctT ks _) => some ks | _ => none
  | _ => none
/-- a mutable thing stands as it stood -/
def stays (st0 : Store) : PV → Store → Prop
  | .ref i, st => st[i]? = st0[i]?
  | _, _ => True
/-- truth, of what has no own __bool__ -/
def truth (st : Store) : PV → Option Bool
  | .non => some false
  | .bl b => some b
  | .int i => some (decide (i ≠ 0))
  | .str s => some (!s.isEmpty)
  | .tup xs => some (!xs.isEmpty)
  | .lst xs => some (!xs.isEmpty)
  | .dct ks _ => some (!ks.isEmpty)
  | .dctT ks _ => some (!ks.isEmpty)
  | .ref i => match st[i]? with | some (.lst xs) => some (!xs.isEmpty) | some (.dct ks _) => some (!ks.isEmpty) | some (.dctT ks _) => some (!ks.isEmpty) | _ => none
  | _ => none
/-- an index of Python's into n items -/
def ix (n : Nat) (i : Int) : Option Nat := if 0 ≤ i then (if i < n then some i.toNat else none) else if -(n : Int) ≤ i then some (i + n).toNat else none

def MulOk (i j : Int) : Prop := i.natAbs.log2 + j.natAbs.log2 < 100000000
def DivOk (_i j : Int) : Prop := j ≠ 0
def PowOk (i j : Int) : Prop := 0 ≤ j ∧ j ≤ 1000000 ∧ i.natAbs < 2 ^ 64

inductive Op where | add | sub | mul | fdiv | mod | pow | band
  deriving DecidableEq
inductive Cm where | eq | ne | lt | le | gt | ge | isN | notN | isin | notin
  deriving DecidableEq
def opAdd (x y : PV) (st : Store) (k : KV) : Prop := match x, y with
  | .int i, .int j => k (.int (i + j)) st
  | .str a, .str b => a.length + b.length ≤ SZ ∧ k (.str (a ++ b)) st
  | .tup a, .tup b => a.length + b.length ≤ SZ ∧ k (.tup (a ++ b)) st
  | x, y => match asL st x, asL st y with
    | some a, some b => a.length + b.length ≤ SZ ∧ k (.lst (a ++ b)) st
    | _, _ => False
def opSub (x y : PV) (st : Store) (k : KV) : Prop := match x, y with
  | .int i, .int j => k (.int (i - j)) st
  | _, _ => False
def opMul (x y : PV) (st : Store) (k : KV) : Prop := match x, y with
  | .int i, .int j => MulOk i j ∧ k (.int (i * j)) st
  | .lst a, .int j => -(2 ^ 63) ≤ j ∧ j < 2 ^ 63 ∧ a.length * j.toNat ≤ SZ ∧ k (.lst (List.replicate j.toNat a).flatten) st
  | .tup a, .int j => a ≠ [] ∧ 2 ≤ j ∧ j ≤ 1000 ∧ a.length ≤ 1000 ∧ k (.tup (List.replicate j.toNat a).flatten) st
  | _, _ => False
def opFdiv (x y : PV) (st : Store) (k : KV) : Prop := match x, y with
  | .int i, .int j => DivOk i j ∧ k (.int (i.fdiv j)) st
  | _, _ => False
def opMod (x y : PV) (st : Store) (k : KV) : Prop := match x, y with
  | .int i, .int j => j ≠ 0 ∧ k (.int (i.fmod j)) st
  | _, _ => False
def opPow (x y : PV) (st : Store) (k : KV) : Prop := match x, y with
  | .int i, .int j => PowOk i j ∧ k (.int (i ^ j.toNat)) st
  | _, _ => False
def opBin : Op → PV → PV → Store → KV → Prop
  | .add => opAdd | .sub => opSub | .mul => opMul | .fdiv => opFdiv | .mod => opMod | .pow => opPow
  | .band => fun _ _ _ _ => False
/-- a sign in a text; a flat value in a list or tuple of such -/
def opIn (x y : PV) (st : Store) (k : Bool → Store → Prop) : Prop := match y with
  | .str s => match x with | .str [c] => k (decide (c ∈ s)) st | _ => False
  | .tup ys => isD 0 x = true ∧ isDL 0 ys = true ∧ k (ys.any fun y => eqv y x) st
  | y => match asL st y with
    | some ys => isD 0 x = true ∧ isDL 0 ys = true ∧ k (ys.any fun y => eqv y x) st
    | none => False
/-- a list of the store as a tree -/
def frz (st : Store) : PV → PV
  | .ref i => match st[i]? with | some (.lst xs) => .lst xs | _ => .ref i
  | x => x
def opEq (x y : PV) (st : Store) (k : Bool → Store → Prop) : Prop := isD 60 (frz st x) = true ∧ isD 60 (frz st y) = true ∧ k (eqv (frz st x) (frz st y)) st
def isNon : PV → Bool
  | .non => true
  | _ => false
def opCm (c : Cm) (x y : PV) (st : Store) (k : Bool → Store → Prop) : Prop := match c with
  | .eq => opEq x y st k
  | .ne => opEq x y st fun b st => k (!b) st
  | .lt => match x, y with | .int i, .int j => k (decide (i < j)) st | _, _ => False
  | .le => match x, y with | .int i, .int j => k (decide (i ≤ j)) st | _, _ => False
  | .gt => match x, y with | .int i, .int j => k (decide (j < i)) st | _, _ => False
  | .ge => match x, y with | .int i, .int j => k (decide (j ≤ i)) st | _, _ => False
  | .isN => isNon y = true ∧ k (isNon x) st
  | .notN => isNon y = true ∧ k (!isNon x) st
  | .isin => opIn x y st k
  | .notin => opIn x y st fun b st => k (!b) st

def eVar (i : Nat) : TE := fun ρ st k _ => match ρ[i]? with | some (some v) => k v st | _ => False
def eC (v : PV) : TE := fun _ st k _ => k v st
def eBin (o : Op) (a b : TE) : TE := fun ρ st k x => a ρ st (fun u st => b ρ st (fun v st => opBin o u v st k) x) x
def eNeg (a : TE) : TE := fun ρ st k x => a ρ st (fun u st => match u with | .int i => k (.int (-i)) st | _ => False) x
def eCmp (c : Cm) (a b : TE) : TE := fun ρ st k x => a ρ st (fun u st => b ρ st (fun v st => opCm c u v st fun r st => k (.bl r) st) x) x
/-- a <= b < c -/
def eChain (c d : Cm) (a b e : TE) : TE := fun ρ st k x => a ρ st (fun u st => b ρ st (fun v st => opCm c u v st fun r st => if r = true then e ρ st (fun w st => opCm d v w st fun r st => k (.bl r) st) x else k (.bl false) st) x) x
/-- an expression as a test -/
def tOf (a : TE) : TT := fun ρ st k x => a ρ st (fun u st => match truth st u with | some b => k b st | none => False) x
def tCmp (c : Cm) (a b : TE) : TT := fun ρ st k x => a ρ st (fun u st => b ρ st (fun v st => opCm c u v st k) x) x
def tChain (c d : Cm) (a b e : TE) : TT := fun ρ st k x => a ρ st (fun u st => b ρ st (fun v st => opCm c u v st fun r st => if r = true then e ρ st (fun w st => opCm d v w st k) x else k false st) x) x
def tAnd (a b : TT) : TT := fun ρ st k x => a ρ st (fun r st => if r = true then b ρ st k x else k false st) x
def tOr (a b : TT) : TT := fun ρ st k x => a ρ st (fun r st => if r = true then k true st else b ρ st k x) x
def tNot (a : TT) : TT := fun ρ st k x => a ρ st (fun r st => k (!r) st) x
/-- a test as a value (its parts are bools) -/
def eTest (a : TT) : TE := fun ρ st k x => a ρ st (fun r st => k (.bl r) st) x
/-- and, or as values -/
def eAnd (a b : TE) : TE := fun ρ st k x => a ρ st (fun u st => match truth st u with | some true => b ρ st k x | some false => k u st | none => False) x
def eOr (a b : TE) : TE := fun ρ st k x => a ρ st (fun u st => match truth st u with | some false => b ρ st k x | some true => k u st | none => False) x
def eNot (a : TE) : TE := fun ρ st k x => a ρ st (fun u st => match truth st u with | some b => k (.bl !b) st | none => False) x
def eIf (t : TT) (a b : TE) : TE := fun ρ st k x => t ρ st (fun r st => if r = true then a ρ st k x else b ρ st k x) x
/-- a test by a test -/
def tIf (t a b : TT) : TT := fun ρ st k x => t ρ st (fun r st => if r = true then a ρ st k x else b ρ st k x) x
def aNil : TA := fun _ st k _ => k [] st
def aCons (a : TE) (r : TA) : TA := fun ρ st k x => a ρ st (fun u st => r ρ st (fun us st => k (u :: us) st) x) x
/-- displays: a list that does not change, one that does, a tuple -/
def eLst (a : TA) : TE := fun ρ st k x => a ρ st (fun us st => us.length ≤ SZ ∧ k (.lst us) st) x
def eLstM (a : TA) : TE := fun ρ st k x => a ρ st (fun us st => us.length ≤ SZ ∧ k (.ref st.length) (st ++ [.lst us])) x
def eTup (a : TA) : TE := fun ρ st k x => a ρ st (fun us st => us.length ≤ SZ ∧ k (.tup us) st) x
/-- a call of a def -/
def eCall (cs : CS) (f : Nat) (a : TA) : TE := fun ρ st k x => a ρ st (fun us st => cs f us st k x) x
/-- s[i] -/
def getIx (u v : PV) (st : Store) (k : KV) : Prop := match v with
  | .int i => match u with
    | .tup xs => match ix xs.length i with | some n => (match xs[n]? with | some y => k y st | none => False) | none => False
    | .str s => match ix s.length i with | some n => (match s[n]? with | some c => k (.str [c]) st | none => False) | none => False
    | u => match asL st u with
      | some xs => match ix xs.length i with | some n => (match xs[n]? with | some y => k y st | none => False) | none => False
      | none => False
  | _ => False
def eIx (a b : TE) : TE := fun ρ st k x => a ρ st (fun u st => b ρ st (fun v st => getIx u v st k) x) x
/-- s[lo:hi] -/
def cutIx (n d : Nat) : Option Int → Nat
  | none => d
  | some v => if v < 0 then (v + (n : Int)).toNat else min v.toNat n
def slc {α : Type} (xs : List α) (lo hi : Option Int) : List α := (xs.drop (cutIx xs.length 0 lo)).take (cutIx xs.length xs.length hi - cutIx xs.length 0 lo)
def getSl (u : PV) (lo hi : Option Int) (st : Store) (k : KV) : Prop := match u with
  | .tup xs => k (.tup (slc xs lo hi)) st
  | .str s => k (.str (slc s lo hi)) st
  | .scr is => k (.lst (slc (is.map PV.int) lo hi)) st
  | u => match asL st u with
    | some xs => k (.lst (slc xs lo hi)) st
    | none => False
def eSl (a : TE) (lo hi : Option TE) : TE := fun ρ st k x => a ρ st (fun u st =>
  (match lo with | none => fun (k : Option Int → Store → Prop) => k none st | some e => fun k => e ρ st (fun v st => match v with | .int i => k (some i) st | _ => False) x) fun lo st =>
  (match hi with | none => fun (k : Option Int → Store → Prop) => k none st | some e => fun k => e ρ st (fun v st => match v with | .int i => k (some i) st | _ => False) x) fun hi st =>
  getSl u lo hi st k) x

def gName (i : Nat) : TG := fun v ρ st k => k (ρ.set i (some v)) st
def gEach : List TG → List PV → Env → Store → (Env → Store → Prop) → Prop
  | [], [], ρ, st, k => k ρ st
  | t :: ts, v :: vs, ρ, st, k => t v ρ st fun ρ st => gEach ts vs ρ st k
  | _, _, _, _, _ => False
def gTup (ts : List TG) : TG := fun v ρ st k => match v with | .tup xs => xs.length = ts.length ∧ gEach ts xs ρ st k | _ => False
/-- what a for walks: the items, and what must stay as it is -/
abbrev TI := Env → Store → (List PV → (Store → Prop) → Store → Prop) → KV → Prop
/-- a list, a tuple, a text -/
def isSeq (st : Store) : PV → Bool
  | .lst _ => true
  | .tup _ => true
  | .str _ => true
  | .ref i => match st[i]? with | some (.lst _) => true | _ => false
  | _ => false
def iE (a : TE) : TI := fun ρ st k x => a ρ st (fun u st => match items st u with | some xs => isSeq st u = true ∧ k xs (stays st u) st | none => False) x
def i62 (i : Int) : Prop := -(2 ^ 62) ≤ i ∧ i < 2 ^ 62
def iRange1 (a : TE) : TI := fun ρ st k x => a ρ st (fun u st => match u with | .int n => i62 n ∧ k ((List.range n.toNat).map fun (i : Nat) => .int (i : Int)) (fun _ => True) st | _ => False) x
def iRange2 (a b : TE) : TI := fun ρ st k x => a ρ st (fun u st => b ρ st (fun v st => match u, v with | .int m, .int n => i62 m ∧ i62 n ∧ k ((List.range (n - m).toNat).map fun (i : Nat) => .int (m + (i : Int))) (fun _ => True) st | _, _ => False) x) x
def sq (st : Store) : PV → Option (List PV)
  | .tup xs => some xs
  | u => asL st u
def iZip (a b : TE) : TI := fun ρ st k x => a ρ st (fun u st => b ρ st (fun v st => match sq st u, sq st v with
  | some xs, some ys => k (List.zipWith (fun x y => .tup [x, y]) xs ys) (fun st' => stays st u st' ∧ stays st v st') st | _, _ => False) x) x
def iRev (a : TE) : TI := fun ρ st k x => a ρ st (fun u st => match asL st u with | some xs => k xs.reverse (stays st u) st | none => False) x
/-- a list comprehension's turns -/
def wipe (ρ : Env) : List Nat → Env
  | [] => ρ
  | v :: vs => (wipe ρ vs).set v none
def compGo (g : TG) (t : TT) (e : TE) (own : List Nat) (stay : Store → Prop) : List PV → List PV → Env → Store → (List PV → Store → Prop) → Prop
  | [], acc, _, st, k => stay st ∧ k acc st
  | v :: r, acc, ρ, st, k => stay st ∧ g v ρ st fun ρ' st => t ρ' st (fun b st => if b = true then e ρ' st (fun y st => acc.length < SZ ∧ compGo g t e own stay r (acc ++ [y]) ρ st k) (fun _ _ => False) else compGo g t e own stay r acc ρ st k) (fun _ _ => False)
def eComp (i : TI) (g : TG) (t : TT) (e : TE) (own : List Nat) : TE := fun ρ st k x => i ρ st (fun xs stay st => compGo g t e own stay xs [] (wipe ρ own) st fun ys st => k (.lst ys) st) x
/-- the same, the list goes on to change -/
def eCompM (i : TI) (g : TG) (t : TT) (e : TE) (own : List Nat) : TE := fun ρ st k x => i ρ st (fun xs stay st => compGo g t e own stay xs [] (wipe ρ own) st fun ys st => k (.ref st.length) (st ++ [.lst ys])) x
def tYes : TT := fun _ st k _ => k true st

def sNil : TS := fun D ρ st => D.nx ρ st
def sCons (a b : TS) : TS := fun D ρ st => a { D with nx := b D } ρ st
def sSet (g : TG) (e : TE) : TS := fun D ρ st => e ρ st (fun v st => g v ρ st D.nx) D.xk
/-- a, b = x, y over plain names -/
def sPar (is : List Nat) (a : TA) : TS := fun D ρ st => a ρ st (fun vs st => gEach (is.map gName) vs ρ st D.nx) D.xk
/-- xs[i] = e, a list of the store -/
def setIx (u v w : PV) (st : Store) (k : Store → Prop) : Prop := match u, v with
  | .ref r, .int i => match st[r]? with
    | some (.lst xs) => match ix xs.length i with | some n => k (st.set r (.lst (xs.set n w))) | none => False
    | _ => False
  | _, _ => False
def sSetIx (a b e : TE) : TS := fun D ρ st => e ρ st (fun w st => a ρ st (fun u st => b ρ st (fun v st => setIx u v w st fun st => D.nx ρ st) D.xk) D.xk) D.xk
def sExpr (e : TE) : TS := fun D ρ st => e ρ st (fun _ st => D.nx ρ st) D.xk
def sRet (e : TE) : TS := fun D ρ st => e ρ st D.rt D.xk
def sRetN : TS := fun D _ st => D.rt .non st
def sIf (t : TT) (a b : TS) : TS := fun D ρ st => t ρ st (fun r st => if r = true then a D ρ st else b D ρ st) D.xk
def sBreak : TS := fun D ρ st => D.bk ρ st
def sCont : TS := fun D ρ st => D.ct ρ st
def sNever : TS := fun _ _ _ => False
def forGo (g : TG) (b : TS) (stay : Store → Prop) : List PV → Ends → Env → Store → Prop
  | [], D, ρ, st => stay st ∧ D.nx ρ st
  | v :: r, D, ρ, st => stay st ∧ g v ρ st fun ρ st => b { D with nx := forGo g b stay r D, ct := forGo g b stay r D, bk := D.nx } ρ st
def sFor (i : TI) (g : TG) (b : TS) : TS := fun D ρ st => i ρ st (fun xs stay st => forGo g b stay xs D ρ st) D.xk
def whileGo (t : TT) (b : TS) : Nat → Ends → Env → Store → Prop
  | 0, _, _, _ => False
  | n + 1, D, ρ, st => t ρ st (fun r st => if r = true then b { D with nx := whileGo t b n D, ct := whileGo t b n D, bk := D.nx } ρ st else D.nx ρ st) D.xk
def sWhile (t : TT) (b : TS) : TS := fun D ρ st => ∃ n, whileGo t b n D ρ st
/-- xs.append(e), xs.insert(i, e), xs.pop() -/
def eAppend (a e : TE) : TE := fun ρ st k x => a ρ st (fun u st => (asL st u).isSome = true ∧ e ρ st (fun v st => match u with
  | .ref r => (match st[r]? with | some (.lst xs) => xs.length < SZ ∧ k .non (st.set r (.lst (xs ++ [v]))) | _ => False)
  | _ => False) x) x
def eInsert (a i e : TE) : TE := fun ρ st k x => a ρ st (fun u st => (asL st u).isSome = true ∧ i ρ st (fun w st => e ρ st (fun v st => match u, w with
  | .ref r, .int n => (match st[r]? with | some (.lst xs) => 0 ≤ n ∧ n < 2 ^ 62 ∧ xs.length < SZ ∧ k .non (st.set r (.lst (xs.take n.toNat ++ [v] ++ xs.drop n.toNat))) | _ => False)
  | _, _ => False) x) x) x

def bLen (u : PV) (st : Store) : Option Nat := match u with
  | .tup xs => some xs.length
  | .str s => some s.length
  | .dct ks _ => some ks.length
  | .dctT ks _ => some ks.length
  | u => match asL st u with
    | some xs => some xs.length
    | none => match u with
      | .ref i => match st[i]? with | some (.dct ks _) => some ks.length | some (.dctT ks _) => some ks.length | _ => none
      | _ => none
/-- f(e), f a built-in of one argument -/
def eB1 (f : PV → Store → KV → Prop) (a : TE) : TE := fun ρ st k x => a ρ st (fun u st => f u st k) x
def fLen (u : PV) (st : Store) (k : KV) : Prop := match bLen u st with | some n => k (.int n) st | none => False
def fAbs (u : PV) (st : Store) (k : KV) : Prop := match u with | .int i => k (.int i.natAbs) st | _ => False
def fInt (u : PV) (st : Store) (k : KV) : Prop := match u with | .int i => k (.int i) st | .bl b => k (.int (if b then 1 else 0)) st | _ => False
def seqOf (st : Store) : PV → Option (List PV)
  | .tup xs => some xs
  | u => asL st u
def fList (u : PV) (st : Store) (k : KV) : Prop := match seqOf st u with | some xs => k (.lst xs) st | none => False
def fListM (u : PV) (st : Store) (k : KV) : Prop := match seqOf st u with | some xs => k (.ref st.length) (st ++ [.lst xs]) | none => False
def fTuple (u : PV) (st : Store) (k : KV) : Prop := match seqOf st u with | some xs => k (.tup xs) st | none => False
def allInt : List PV → Option (List Int)
  | [] => some []
  | .int i :: r => (allInt r).map (i :: ·)
  | _ :: _ => none
def fSum (u : PV) (st : Store) (k : KV) : Prop := match asL st u with | some xs => (match allInt xs with | some is => k (.int is.sum) st | none => False) | none => False
def allBl : List PV → Option (List Bool)
  | [] => some []
  | .bl b :: r => (allBl r).map (b :: ·)
  | _ :: _ => none
def fAll (u : PV) (st : Store) (k : KV) : Prop := match asL st u with | some xs => (match allBl xs with | some bs => k (.bl (bs.all id)) st | none => False) | none => False
def fAny (u : PV) (st : Store) (k : KV) : Prop := match asL st u with | some xs => (match allBl xs with | some bs => k (.bl (bs.any id)) st | none => False) | none => False
/-- max(a, b) of whole numbers -/
def eMax2 (a b : TE) : TE := fun ρ st k x => a ρ st (fun u st => b ρ st (fun v st => match u, v with | .int i, .int j => k (.int (if j > i then j else i)) st | _, _ => False) x) x
/-- the kinds of isinstance -/
inductive Ty where | int | bool | str | list | tuple | dict
  deriving DecidableEq
/-- the kind of a value -/
inductive Kd where | non | bool | int | str | list | tuple | dict | other
  deriving DecidableEq
def kdOf (st : Store) : PV → Kd
  | .non => .non
  | .bl _ => .bool
  | .int _ => .int
  | .str _ => .str
  | .tup _ => .tuple
  | .lst _ => .list
  | .dct _ _ => .dict
  | .dctT _ _ => .dict
  | .ref i => match st[i]? with | some (.lst _) => .list | some (.dct _ _) => .dict | some (.dctT _ _) => .dict | _ => .other
  | _ => .other
def kdIs : Kd → Ty → Bool
  | .bool, .bool => true
  | .bool, .int => true
  | .int, .int => true
  | .str, .str => true
  | .list, .list => true
  | .tuple, .tuple => true
  | .dict, .dict => true
  | _, _ => false
def fIsi (ts : List Ty) (u : PV) (st : Store) (k : KV) : Prop := kdOf st u ≠ .other ∧ k (.bl (ts.any (kdIs (kdOf st u)))) st

structure FD where
  np : Nat
  ns : Nat
  body : CS → TS
def start (F : FD) (vs : List PV) : Env := vs.map some ++ List.replicate (F.ns - F.np) none
/-- a call of a def, at most so deep -/
def callN (FT : Nat → Option FD) : Nat → CS
  | 0 => fun _ _ _ _ _ => False
  | n + 1 => fun f vs st k x => match FT f with
    | some F => vs.length = F.np ∧ F.body (callN FT n) { nx := fun _ st => k .non st, rt := k, bk := fun _ _ => False, ct := fun _ _ => False, xk := x } (start F vs) st
    | none => False
end VM
end
section
namespace VS
open PySem PySem.Spec PyProof.Rows L2
open VM (PV SO Store)
abbrev VEnv := VM.Env

def kP : Key → PV
  | .inl i => .int i
  | .inr x => .str x.cps.toList
/-- a text that the machine bears -/
def sOk (s : List Nat) : Prop := s.length ≤ 16777216 ∧ ∀ c ∈ s, c < 1114112
mutual
def Rep (K : PySem.W.Frag) (F : Hp) (μ : List Addr) : PV → V → Prop
  | .non, v => v = .non
  | .bl b, v => v = .bl b
  | .int i, v => v = .int i
  | .str s, v => sOk s ∧ v = .str ⟨s.toArray⟩
  | .tup xs, v => ∃ a vs, v = .ref a ∧ SqT K F a vs ∧ RepL K F μ xs vs
  | .lst xs, v => ∃ a vs, v = .ref a ∧ F a = some (.lst vs) ∧ RepL K F μ xs vs
  | .scr is, v => ∃ a, v = .ref a ∧ SqL K F a (is.map V.int)
  | .dct ks xs, v => ∃ a kvs, v = .ref a ∧ F a = some (.dK kvs) ∧ ks = kvs.map (fun q => kP q.1) ∧ RepL K F μ xs (kvs.map (·.2))
  | .ref i, v => ∃ a, μ[i]? = some a ∧ v = .ref a
  | _, _ => False
def RepL (K : PySem.W.Frag) (F : Hp) (μ : List Addr) : List PV → List V → Prop
  | [], vs => vs = []
  | x :: xs, vs => ∃ v r, vs = v :: r ∧ Rep K F μ x v ∧ RepL K F μ xs r
end
/-- what a frozen thing keeps: itself; a dict may be locked while it is walked -/
def SameD (F H : Hp) : Prop := ∀ a o, F a = some o → H a = some o
structure Ext (F : Hp) (μ : List Addr) (F' : Hp) (μ' : List Addr) : Prop where
  same : SameD F F'
  pre : ∃ l, μ' = μ ++ l
section
variable {K : PySem.W.Frag} {F F' F2 : Hp} {μ μ' μ2 : List Addr}
theorem Ext.refl : Ext F μ F μ := ⟨fun _ _ h => h, [], by simp⟩
theorem Ext.trans (a : Ext F μ F' μ') (b : Ext F' μ' F2 μ2) : Ext F μ F2 μ2 := by
  obtain ⟨l, rfl⟩ := a.pre
  obtain ⟨m, rfl⟩ := b.pre
  exact ⟨fun c o h => b.same c o (a.same c o h), l ++ m, by simp⟩
theorem Ext.get (e : Ext F μ F' μ') {i : Nat} {a : Addr} (h : μ[i]? = some a) : μ'[i]? = some a := by
  obtain ⟨l, rfl⟩ := e.pre
  rw [List.getElem?_append_left (List.getElem?_eq_some_iff.mp h).1]
  exact h
theorem SameD.seqL {a : Addr} {xs : List V} (e : SameD F F') (h : SqL K F a xs) : SqL K F' a xs := by
  rcases h with (h | ⟨o, h⟩) | h
  · exact .inl (.inl (e _ _ h))
  · exact .inl (.inr ⟨o, e _ _ h⟩)
  · exact .inr h
theorem SameD.seqT {a : Addr} {xs : List V} (e : SameD F F') (h : SqT K F a xs) : SqT K F' a xs := by
  rcases h with (h | ⟨o, h⟩) | h
  · exact .inl (.inl (e _ _ h))
  · exact .inl (.inr ⟨o, e _ _ h⟩)
  · exact .inr h
mutual
theorem Rep.mono (e : Ext F μ F' μ') : ∀ {x : PV} {v : V}, Rep K F μ x v → Rep K F' μ' x v
  | .non, _, h => h
  | .bl _, _, h => h
  | .int _, _, h => h
  | .str _, _, h => h
  | .tup xs, _, h => by
    unfold Rep at h ⊢
    obtain ⟨a, vs, h1, h2, h3⟩ := h
    exact ⟨a, vs, h1, e.same.seqT h2, RepL.mono e h3⟩
  | .lst xs, _, h => by
    unfold Rep at h ⊢
    obtain ⟨a, vs, h1, h2, h3⟩ := h
    exact ⟨a, vs, h1, e.same _ _ h2, RepL.mono e h3⟩
  | .scr is, _, h => by
    unfold Rep at h ⊢
    obtain ⟨a, h1, h2⟩ := h
    exact ⟨a, h1, e.same.seqL h2⟩
  | .dct ks xs, _, h => by
    unfold Rep at h ⊢
    obtain ⟨a, kvs, h1, h2, h3, h4⟩ := h
    exact ⟨a, kvs, h1, e.same _ _ h2, h3, RepL.mono e h4⟩
  | .ref i, _, h => by
    unfold Rep at h ⊢
    obtain ⟨a, h1, h2⟩ := h
    exact ⟨a, e.get h1, h2⟩
  | .dctT _ _, _, h => by unfold Rep at h; exact h.elim
  | .obj _ _, _, h => by unfold Rep at h; exact h.elim
  | .ty _, _, h => by unfold Rep at h; exact h.elim
  | .fn _, _, h => by unfold Rep at h; exact h.elim
  | .cls _, _, h => by unfold Rep at h; exact h.elim
theorem RepL.mono (e : Ext F μ F' μ') : ∀ {xs : List PV} {vs : List V}, RepL K F μ xs vs → RepL K F' μ' xs vs
  | [], _, h => by
    unfold RepL at h ⊢
    exact h
  | x :: xs, _, h => by
    unfold RepL at h ⊢
    obtain ⟨v, r, h1, h2, h3⟩ := h
    exact ⟨v, r, h1, Rep.mono e h2, RepL.mono e h3⟩
end
theorem repL_nil {vs : List V} : RepL K F μ [] vs ↔ vs = [] := by unfold RepL; exact Iff.rfl
theorem repL_cons {x : PV} {xs : List PV} {vs : List V} : RepL K F μ (x :: xs) vs ↔ ∃ v r, vs = v :: r ∧ Rep K F μ x v ∧ RepL K F μ xs r := by
  constructor
  · intro h
    unfold RepL at h
    exact h
  · intro h
    unfold RepL
    exact h
theorem RepL.length : ∀ {xs : List PV} {vs : List V}, RepL K F μ xs vs → vs.length = xs.length
  | [], _, h => by
    rw [repL_nil.mp h]
    rfl
  | x :: xs, _, h => by
    obtain ⟨v, r, rfl, _, h3⟩ := repL_cons.mp h
    simp [RepL.length h3]
theorem RepL.get : ∀ {xs : List PV} {vs : List V} {i : Nat} {x : PV}, RepL K F μ xs vs → xs[i]? = some x → ∃ v, vs[i]? = some v ∧ Rep K F μ x v
  | [], _, _, _, _, h => by simp at h
  | y :: xs, _, 0, x, h, e => by
    obtain ⟨v, r, rfl, h2, h3⟩ := repL_cons.mp h
    simp at e
    subst e
    exact ⟨v, by simp, h2⟩
  | y :: xs, _, i + 1, x, h, e => by
    obtain ⟨v, r, rfl, h2, h3⟩ := repL_cons.mp h
    obtain ⟨w, h4, h5⟩ := RepL.get (i := i) h3 (by simpa using e)
    exact ⟨w, by simpa using h4, h5⟩
theorem RepL.get' {xs : List PV} {vs : List V} {i : Nat} {v : V} (h : RepL K F μ xs vs) (e : vs[i]? = some v) : ∃ x, xs[i]? = some x ∧ Rep K F μ x v := by
  have hi : i < xs.length := by
    rw [← h.length]
    exact (List.getElem?_eq_some_iff.mp e).1
  have e2 : xs[i]? = some xs[i] := by simp [hi]
  obtain ⟨w, h1, h2⟩ := h.get e2
  rw [e] at h1
  cases h1
  exact ⟨_, e2, h2⟩
theorem RepL.append : ∀ {xs ys : List PV} {vs ws : List V}, RepL K F μ xs vs → RepL K F μ ys ws → RepL K F μ (xs ++ ys) (vs ++ ws)
  | [], ys, vs, ws, h, h' => by
    rw [repL_nil.mp h]
    exact h'
  | x :: xs, ys, vs, ws, h, h' => by
    obtain ⟨v, r, rfl, h2, h3⟩ := repL_cons.mp h
    exact repL_cons.mpr ⟨v, r ++ ws, rfl, h2, RepL.append h3 h'⟩
theorem RepL.take : ∀ {xs : List PV} {vs : List V} (n : Nat), RepL K F μ xs vs → RepL K F μ (xs.take n) (vs.take n)
  | _, _, 0, _ => by simp [RepL]
  | [], vs, n + 1, h => by
    rw [repL_nil.mp h]
    simp [RepL]
  | x :: xs, vs, n + 1, h => by
    obtain ⟨v, r, rfl, h2, h3⟩ := repL_cons.mp h
    exact repL_cons.mpr ⟨v, r.take n, rfl, h2, RepL.take n h3⟩
theorem RepL.drop : ∀ {xs : List PV} {vs : List V} (n : Nat), RepL K F μ xs vs → RepL K F μ (xs.drop n) (vs.drop n)
  | _, _, 0, h => by simpa using h
  | [], vs, n + 1, h => by
    rw [repL_nil.mp h]
    simp [RepL]
  | x :: xs, vs, n + 1, h => by
    obtain ⟨v, r, rfl, h2, h3⟩ := repL_cons.mp h
    simpa using RepL.drop n h3
theorem RepL.set : ∀ {xs : List PV} {vs : List V} (n : Nat) {x : PV} {v : V}, RepL K F μ xs vs → Rep K F μ x v → RepL K F μ (xs.set n x) (vs.set n v)
  | [], vs, n, x, v, h, hx => by
    rw [repL_nil.mp h]
    simp [RepL]
  | y :: xs, vs, 0, x, v, h, hx => by
    obtain ⟨w, r, rfl, h2, h3⟩ := repL_cons.mp h
    exact repL_cons.mpr ⟨v, r, rfl, hx, h3⟩
  | y :: xs, vs, n + 1, x, v, h, hx => by
    obtain ⟨w, r, rfl, h2, h3⟩ := repL_cons.mp h
    exact repL_cons.mpr ⟨w, r.set n v, rfl, h2, RepL.set n h3 hx⟩
theorem RepL.reverse : ∀ {xs : List PV} {vs : List V}, RepL K F μ xs vs → RepL K F μ xs.reverse vs.reverse
  | [], vs, h => by
    rw [repL_nil.mp h]
    simp [RepL]
  | x :: xs, vs, h => by
    obtain ⟨v, r, rfl, h2, h3⟩ := repL_cons.mp h
    rw [List.reverse_cons, List.reverse_cons]
    exact (RepL.reverse h3).append (repL_cons.mpr ⟨v, [], rfl, h2, repL_nil.mpr rfl⟩)
theorem RepL.ofGet : ∀ {xs : List PV} {vs : List V}, vs.length = xs.length → (∀ (i : Nat) x v, xs[i]? = some x → vs[i]? = some v → Rep K F μ x v) → RepL K F μ xs vs
  | [], vs, hl, _ => repL_nil.mpr (List.length_eq_zero_iff.mp (by simpa using hl))
  | x :: xs, [], hl, _ => by simp at hl
  | x :: xs, v :: vs, hl, h => repL_cons.mpr ⟨v, vs, rfl, h 0 x v (by simp) (by simp), RepL.ofGet (by simpa using hl) fun i y w e1 e2 => h (i + 1) y w (by simpa using e1) (by simpa using e2)⟩
end
/-- an object of the store, as it lies -/
def RO (K : PySem.W.Frag) (F : Hp) (μ : List Addr) (H : Hp) (a : Addr) : SO → Prop
  | .dead => True
  | .lst xs => F a = none ∧ ∃ vs, H a = some (.lst vs) ∧ RepL K F μ xs vs
  | .dct ks xs => F a = none ∧ ∃ kvs, H a = some (.dK kvs) ∧ ks = kvs.map (fun q => kP q.1) ∧ RepL K F μ xs (kvs.map (·.2))
  | _ => False
structure Lay (K : PySem.W.Frag) (G F : Hp) (μ : List Addr) (st : Store) (H : Hp) : Prop where
  gd : ∀ a o, G a = some o → H a = some o ∧ F a = none ∧ a ∉ μ
  same : SameD F H
  len : μ.length = st.length
  nd : μ.Nodup
  there : ∀ a ∈ μ, ∃ o, H a = some o
  obj : ∀ (i : Nat) (a : Addr) (o : SO), μ[i]? = some a → st[i]? = some o → RO K F μ H a o
def EnvR (K : PySem.W.Frag) (F : Hp) (μ : List Addr) (σ : L2.St) (ρ : VEnv) : Prop := σ.length = ρ.length ∧ ∀ (i : Nat) (x : PV), ρ[i]? = some (some x) → ∃ v, σ[i]? = some (some v) ∧ Rep K F μ x v
section
variable {K : PySem.W.Frag} {G F F' : Hp} {μ μ' : List Addr} {σ : L2.St} {ρ : VEnv} {H : Hp} {st : Store}
theorem EnvR.mono (h : EnvR K F μ σ ρ) (e : Ext F μ F' μ') : EnvR K F' μ' σ ρ := ⟨h.1, fun i x q => by
  obtain ⟨v, h1, h2⟩ := h.2 i x q
  exact ⟨v, h1, h2.mono e⟩⟩
theorem EnvR.set {x : PV} {v : V} (h : EnvR K F μ σ ρ) (i : Nat) (r : Rep K F μ x v) : EnvR K F μ (σ.set i (some v)) (ρ.set i (some x)) := ⟨by simp [h.1], fun j y q => by
  by_cases e : i = j
  · subst e
    by_cases hi : i < ρ.length
    · rw [List.getElem?_set_self hi] at q
      cases q
      exact ⟨v, List.getElem?_set_self (by rw [h.1]; exact hi), r⟩
    · rw [List.getElem?_eq_none (by simpa using hi)] at q
      cases q
  · rw [List.getElem?_set_ne e] at q
    obtain ⟨w, h1, h2⟩ := h.2 j y q
    exact ⟨w, by rw [List.getElem?_set_ne e]; exact h1, h2⟩⟩
theorem EnvR.none (h : EnvR K F μ σ ρ) (i : Nat) : EnvR K F μ (σ.set i none) (ρ.set i none) := ⟨by simp [h.1], fun j y q => by
  by_cases e : i = j
  · subst e
    by_cases hi : i < ρ.length
    · rw [List.getElem?_set_self hi] at q
      cases q
    · rw [List.getElem?_eq_none (by simpa using hi)] at q
      cases q
  · rw [List.getElem?_set_ne e] at q
    obtain ⟨w, h1, h2⟩ := h.2 j y q
    exact ⟨w, by rw [List.getElem?_set_ne e]; exact h1, h2⟩⟩
theorem EnvR.wipe (h : EnvR K F μ σ ρ) : ∀ vs : List Nat, EnvR K F μ (L2.wipe σ vs) (VM.wipe ρ vs)
  | [] => h
  | v :: vs => (EnvR.wipe h vs).none v
theorem Lay.free (l : Lay K G F μ st H) {p : Addr} (h : H p = none) : F p = none := by
  cases e : F p with
  | none => rfl
  | some o =>
    rw [l.same p o e] at h
    cases h
theorem Lay.notin (l : Lay K G F μ st H) {p : Addr} (h : H p = none) : p ∉ μ := fun z => by
  obtain ⟨o, e⟩ := l.there p z
  rw [h] at e
  cases e
theorem ext_upd (l : Lay K G F μ st H) {p : Addr} {o : HO} (h : H p = none) : Ext F μ (upd F p o) μ := ⟨fun a u e => by rw [upd_ne (ne_of_none e (l.free h))]; exact e, [], by simp⟩
theorem RO.mono {a : Addr} {o : SO} (h : RO K F μ H a o) (e : Ext F μ F' μ') {H' : Hp} (hf : F' a = F a) (hh : H' a = H a) : RO K F' μ' H' a o := by
  cases o with
  | dead => trivial
  | lst xs =>
    obtain ⟨h1, vs, h2, h3⟩ := h
    exact ⟨hf.trans h1, vs, hh.trans h2, h3.mono e⟩
  | dct ks xs =>
    obtain ⟨h1, kvs, h2, h3, h4⟩ := h
    exact ⟨hf.trans h1, kvs, hh.trans h2, h3, h4.mono e⟩
  | dctT _ _ => exact h.elim
  | ins _ _ => exact h.elim
/-- a new thing that is frozen -/
theorem Lay.new (l : Lay K G F μ st H) {p : Addr} {o : HO} (h : H p = none) : Lay K G (upd F p o) μ st (upd H p o) where
  gd := fun a u e => by
    obtain ⟨h1, h2, h3⟩ := l.gd a u e
    have q : a ≠ p := ne_of_none h1 h
    exact ⟨by rw [upd_ne q]; exact h1, by rw [upd_ne q]; exact h2, h3⟩
  same := fun a u e => by
    by_cases q : a = p
    · subst q
      rw [upd_same] at e ⊢
      exact e
    · rw [upd_ne q] at e ⊢
      exact l.same a u e
  len := l.len
  nd := l.nd
  there := fun a ha => by
    by_cases q : a = p
    · exact ⟨o, by rw [q]; exact upd_same⟩
    · rw [upd_ne q]
      exact l.there a ha
  obj := fun i a u h1 h2 => by
    have q : a ≠ p := fun z => l.notin h (z ▸ List.mem_of_getElem? h1)
    exact (l.obj i a u h1 h2).mono (ext_upd l h) (upd_ne q) (upd_ne q)
theorem ext_alloc (p : Addr) : Ext F μ F (μ ++ [p]) := ⟨fun _ _ h => h, [p], rfl⟩
/-- a new object of the store -/
theorem Lay.alloc (l : Lay K G F μ st H) {p : Addr} {o : HO} {u : SO} (h : H p = none) (r : RO K F (μ ++ [p]) (upd H p o) p u) : Lay K G F (μ ++ [p]) (st ++ [u]) (upd H p o) where
  gd := fun a u e => by
    obtain ⟨h1, h2, h3⟩ := l.gd a u e
    have q : a ≠ p := ne_of_none h1 h
    exact ⟨by rw [upd_ne q]; exact h1, h2, fun z => (List.mem_append.mp z).elim h3 fun z => q (by simpa using z)⟩
  same := fun a v e => by rw [upd_ne (ne_of_none (l.same a v e) h)]; exact l.same a v e
  len := by simp [l.len]
  nd := List.nodup_append.mpr ⟨l.nd, by simp, fun a ha b hb => by
    have e : b = p := by simpa using hb
    subst e
    exact fun z => l.notin h (z ▸ ha)⟩
  there := fun a ha => by
    rcases List.mem_append.mp ha with ha | ha
    · by_cases q : a = p
      · exact ⟨o, by rw [q]; exact upd_same⟩
      · rw [upd_ne q]
        exact l.there a ha
    · have e : a = p := by simpa using ha
      exact ⟨o, by rw [e]; exact upd_same⟩
  obj := fun i a v h1 h2 => by
    by_cases hi : i < μ.length
    · rw [List.getElem?_append_left hi] at h1
      rw [List.getElem?_append_left (by rw [← l.len]; exact hi)] at h2
      have q : a ≠ p := fun z => l.notin h (z ▸ List.mem_of_getElem? h1)
      exact (l.obj i a v h1 h2).mono (ext_alloc p) rfl (upd_ne q)
    · have e : i = μ.length := by
        have := (List.getElem?_eq_some_iff.mp h1).1
        simp at this
        omega
      subst e
      rw [List.getElem?_append_right (Nat.le_refl _)] at h1
      rw [l.len, List.getElem?_append_right (Nat.le_refl _)] at h2
      simp at h1 h2
      subst h1 h2
      exact r
/-- an object of the store is changed -/
theorem Lay.put (l : Lay K G F μ st H) {i : Nat} {a : Addr} {o : HO} {u : SO} (hi : μ[i]? = some a) (r : RO K F μ (upd H a o) a u) (hf : F a = none) : Lay K G F μ (st.set i u) (upd H a o) where
  gd := fun b v e => by
    obtain ⟨h1, h2, h3⟩ := l.gd b v e
    exact ⟨by rw [upd_ne (fun z => h3 (by rw [z]; exact List.mem_of_getElem? hi))]; exact h1, h2, h3⟩
  same := fun b v e => by rw [upd_ne (ne_of_none e hf)]; exact l.same b v e
  len := by simp [l.len]
  nd := l.nd
  there := fun b hb => by
    by_cases q : b = a
    · exact ⟨o, by rw [q]; exact upd_same⟩
    · rw [upd_ne q]
      exact l.there b hb
  obj := fun j b v h1 h2 => by
    by_cases e : i = j
    · subst e
      rw [hi] at h1
      cases h1
      rw [List.getElem?_set_self (by rw [← l.len]; exact (List.getElem?_eq_some_iff.mp hi).1)] at h2
      cases h2
      exact r
    · rw [List.getElem?_set_ne e] at h2
      have q : b ≠ a := fun z => by
        subst z
        obtain ⟨hi1, e1⟩ := List.getElem?_eq_some_iff.mp hi
        obtain ⟨hj1, e2⟩ := List.getElem?_eq_some_iff.mp h1
        exact e ((List.getElem_inj l.nd).mp (e1.trans e2.symm))
      exact (l.obj j b v h1 h2).mono Ext.refl rfl (upd_ne q)
end
end VS
end
section
namespace VS
open PySem PySem.Spec PyProof.Rows L2
open VM (PV SO Store)
def nox : VM.KV := fun _ _ => False
def Kon (K : PySem.W.Frag) (G F : Hp) (μ : List Addr) (k : VM.KV) (Q : VK) : Prop := ∀ (v : V) (H' F' : Hp) (μ' : List Addr) (x : PV) (st' : Store), Ext F μ F' μ' → Lay K G F' μ' st' H' → Rep K F' μ' x v → k x st' → Q v H'
def KonB (K : PySem.W.Frag) (G F : Hp) (μ : List Addr) (k : Bool → Store → Prop) (Q : Bool → Hp → Prop) : Prop := ∀ (b : Bool) (H' F' : Hp) (μ' : List Addr) (st' : Store), Ext F μ F' μ' → Lay K G F' μ' st' H' → k b st' → Q b H'
def KonA (K : PySem.W.Frag) (G F : Hp) (μ : List Addr) (k : List PV → Store → Prop) (Q : List V → Hp → Prop) : Prop := ∀ (vs : List V) (H' F' : Hp) (μ' : List Addr) (xs : List PV) (st' : Store), Ext F μ F' μ' → Lay K G F' μ' st' H' → RepL K F' μ' xs vs → k xs st' → Q vs H'
section
variable {K : PySem.W.Frag} {G F F' : Hp} {μ μ' : List Addr}
theorem Kon.mono {k : VM.KV} {Q : VK} (h : Kon K G F μ k Q) (e : Ext F μ F' μ') : Kon K G F' μ' k Q := fun v H' F2 μ2 x st' e2 => h v H' F2 μ2 x st' (e.trans e2)
theorem KonB.mono {k : Bool → Store → Prop} {Q : Bool → Hp → Prop} (h : KonB K G F μ k Q) (e : Ext F μ F' μ') : KonB K G F' μ' k Q := fun v H' F2 μ2 st' e2 => h v H' F2 μ2 st' (e.trans e2)
theorem KonA.mono {k : List PV → Store → Prop} {Q : List V → Hp → Prop} (h : KonA K G F μ k Q) (e : Ext F μ F' μ') : KonA K G F' μ' k Q := fun v H' F2 μ2 x st' e2 => h v H' F2 μ2 x st' (e.trans e2)
end
/-- a tree-level reading, over the heap -/
def rE (K : PySem.W.Frag) (t : VM.TE) : L2.TE := fun σ H Q => ∃ G F μ ρ st k, Lay K G F μ st H ∧ EnvR K F μ σ ρ ∧ t ρ st k nox ∧ Kon K G F μ k Q
def rT (K : PySem.W.Frag) (t : VM.TT) : L2.TT := fun σ H Q => ∃ G F μ ρ st k, Lay K G F μ st H ∧ EnvR K F μ σ ρ ∧ t ρ st k nox ∧ KonB K G F μ k Q
def rA (K : PySem.W.Frag) (t : VM.TA) : L2.TA := fun σ H Q => ∃ G F μ ρ st k, Lay K G F μ st H ∧ EnvR K F μ σ ρ ∧ t ρ st k nox ∧ KonA K G F μ k Q
abbrev VE (X : Cx) (e : Expr) (t : VM.TE) : Prop := PE X e (rE X.K t)
abbrev VT (X : Cx) (e : Expr) (t : VM.TT) : Prop := PT X e (rT X.K t)
abbrev VA (X : Cx) (es : List Expr) (t : VM.TA) : Prop := PA X es (rA X.K t)
theorem pe_imp {X : Cx} {e : Expr} {t t' : L2.TE} (h : PE X e t) (hi : ∀ σ H Q, t' σ H Q → t σ H Q) : PE X e t' := ⟨fun pins s σ H Q I q => h.run pins s σ H Q I (hi σ H Q q)⟩
theorem pt_imp {X : Cx} {e : Expr} {t t' : L2.TT} (h : PT X e t) (hi : ∀ σ H Q, t' σ H Q → t σ H Q) : PT X e t' := ⟨fun pins s σ H Q I q => h.run pins s σ H Q I (hi σ H Q q)⟩
theorem pw_imp {X : Cx} {e : Expr} {t t' : L2.TT} (h : PW X e t) (hi : ∀ σ H Q, t' σ H Q → t σ H Q) : PW X e t' := ⟨fun wh pins s σ H Q I q => h.run wh pins s σ H Q I (hi σ H Q q)⟩
theorem pa_imp {X : Cx} {es : List Expr} {t t' : L2.TA} (h : PA X es t) (hi : ∀ σ H Q, t' σ H Q → t σ H Q) : PA X es t' := ⟨fun pos pins s σ H Q I q => h.run pos pins s σ H Q I (hi σ H Q q)⟩
/-- an operation by values -/
def R2of (K : PySem.W.Frag) (f : PV → PV → Store → VM.KV → Prop) : R2 := fun x y H Q => ∃ G F μ st px py k, Lay K G F μ st H ∧ Rep K F μ px x ∧ Rep K F μ py y ∧ f px py st k ∧ Kon K G F μ k Q
def R1of (K : PySem.W.Frag) (f : PV → Store → VM.KV → Prop) : V → Hp → VK → Prop := fun x H Q => ∃ G F μ st px k, Lay K G F μ st H ∧ Rep K F μ px x ∧ f px st k ∧ Kon K G F μ k Q
section
variable {K : PySem.W.Frag} {G F : Hp} {μ : List Addr} {σ : L2.St} {H : Hp}
/-- e, then f of its value -/
theorem bind1 {ta : VM.TE} {ρ : VM.Env} {st : Store} {k : VM.KV} {W : V → Hp → Prop} (l : Lay K G F μ st H) (r : EnvR K F μ σ ρ) (h : ta ρ st k nox)
    (hG : ∀ v H1 F1 μ1 x st1, Ext F μ F1 μ1 → Lay K G F1 μ1 st1 H1 → EnvR K F1 μ1 σ ρ → Rep K F1 μ1 x v → k x st1 → W v H1) : rE K ta σ H W :=
  ⟨G, F, μ, ρ, st, k, l, r, h, fun v H' F' μ' x st' e l' r' q => hG v H' F' μ' x st' e l' (r.mono e) r' q⟩
theorem bindT {ta : VM.TT} {ρ : VM.Env} {st : Store} {k : Bool → Store → Prop} {W : Bool → Hp → Prop} (l : Lay K G F μ st H) (r : EnvR K F μ σ ρ) (h : ta ρ st k nox)
    (hG : ∀ b H1 F1 μ1 st1, Ext F μ F1 μ1 → Lay K G F1 μ1 st1 H1 → EnvR K F1 μ1 σ ρ → k b st1 → W b H1) : rT K ta σ H W :=
  ⟨G, F, μ, ρ, st, k, l, r, h, fun v H' F' μ' st' e l' q => hG v H' F' μ' st' e l' (r.mono e) q⟩
theorem bindA {ta : VM.TA} {ρ : VM.Env} {st : Store} {k : List PV → Store → Prop} {W : List V → Hp → Prop} (l : Lay K G F μ st H) (r : EnvR K F μ σ ρ) (h : ta ρ st k nox)
    (hG : ∀ vs H1 F1 μ1 xs st1, Ext F μ F1 μ1 → Lay K G F1 μ1 st1 H1 → EnvR K F1 μ1 σ ρ → RepL K F1 μ1 xs vs → k xs st1 → W vs H1) : rA K ta σ H W :=
  ⟨G, F, μ, ρ, st, k, l, r, h, fun v H' F' μ' x st' e l' r' q => hG v H' F' μ' x st' e l' (r.mono e) r' q⟩
theorem bind2 {ta tb : VM.TE} {ρ : VM.Env} {st : Store} {f : PV → PV → Store → VM.KV → Prop} {k : VM.KV} {Q : VK} (l : Lay K G F μ st H) (r : EnvR K F μ σ ρ) (hk : Kon K G F μ k Q)
    (h : ta ρ st (fun u st => tb ρ st (fun v st => f u v st k) nox) nox) : tOp (R2of K f) (rE K ta) (rE K tb) σ H Q :=
  bind1 l r h fun x H1 F1 μ1 px st1 e1 l1 r1 p1 q1 => bind1 l1 r1 q1 fun y H2 F2 μ2 py st2 e2 l2 r2 p2 q2 => ⟨G, F2, μ2, st2, px, py, k, l2, p1.mono e2, p2, q2, hk.mono (e1.trans e2)⟩
/-- a list, as it stands -/
theorem asL_rep {st : Store} {px : PV} {x : V} {xs : List PV} (l : Lay K G F μ st H) (r : Rep K F μ px x) (h : VM.asL st px = some xs) : ∃ a vs, x = .ref a ∧ H a = some (.lst vs) ∧ RepL K F μ xs vs := by
  unfold VM.asL at h
  split at h
  · cases h
    unfold Rep at r
    obtain ⟨a, vs, h1, h2, h3⟩ := r
    exact ⟨a, vs, h1, l.same a _ h2, h3⟩
  · rename_i i
    split at h
    · rename_i ys e
      cases h
      unfold Rep at r
      obtain ⟨a, h1, h2⟩ := r
      obtain ⟨_, vs, h3, h4⟩ := l.obj i a _ h1 e
      exact ⟨a, vs, h2, h3, h4⟩
    · cases h
  · cases h
theorem rep_non {v : V} : Rep K F μ .non v ↔ v = .non := by unfold Rep; exact Iff.rfl
theorem rep_bl {b : Bool} {v : V} : Rep K F μ (.bl b) v ↔ v = .bl b := by unfold Rep; exact Iff.rfl
theorem rep_int {i : Int} {v : V} : Rep K F μ (.int i) v ↔ v = .int i := by unfold Rep; exact Iff.rfl
theorem rep_str {s : List Nat} {v : V} : Rep K F μ (.str s) v ↔ sOk s ∧ v = .str ⟨s.toArray⟩ := by unfold Rep; exact Iff.rfl
theorem rep_tup {xs : List PV} {v : V} : Rep K F μ (.tup xs) v ↔ ∃ a vs, v = .ref a ∧ SqT K F a vs ∧ RepL K F μ xs vs := by
  constructor
  · intro h
    unfold Rep at h
    exact h
  · intro h
    unfold Rep
    exact h
theorem rep_lst {xs : List PV} {v : V} : Rep K F μ (.lst xs) v ↔ ∃ a vs, v = .ref a ∧ F a = some (.lst vs) ∧ RepL K F μ xs vs := by
  constructor
  · intro h
    unfold Rep at h
    exact h
  · intro h
    unfold Rep
    exact h
theorem rep_scr {is : List Int} {v : V} : Rep K F μ (.scr is) v ↔ ∃ a, v = .ref a ∧ SqL K F a (is.map V.int) := by
  constructor
  · intro h
    unfold Rep at h
    exact h
  · intro h
    unfold Rep
    exact h
theorem rep_ref {i : Nat} {v : V} : Rep K F μ (.ref i) v ↔ ∃ a, μ[i]? = some a ∧ v = .ref a := by
  constructor
  · intro h
    unfold Rep at h
    exact h
  · intro h
    unfold Rep
    exact h
/-- a new frozen list, tuple -/
theorem Kon.lst {st : Store} {k : VM.KV} {Q : VK} {xs : List PV} {vs : List V} (hk : Kon K G F μ k Q) (l : Lay K G F μ st H) (r : RepL K F μ xs vs) (q : k (.lst xs) st) (p : Addr) (hp : H p = none) : Q (.ref p) (upd H p (.lst vs)) :=
  hk (.ref p) _ (upd F p (.lst vs)) μ (.lst xs) st (ext_upd l hp) (l.new hp) (rep_lst.mpr ⟨p, vs, rfl, upd_same, r.mono (ext_upd l hp)⟩) q
theorem Kon.tup {st : Store} {k : VM.KV} {Q : VK} {xs : List PV} {vs : List V} (hk : Kon K G F μ k Q) (l : Lay K G F μ st H) (r : RepL K F μ xs vs) (q : k (.tup xs) st) (p : Addr) (hp : H p = none) : Q (.ref p) (upd H p (.tup vs)) :=
  hk (.ref p) _ (upd F p (.tup vs)) μ (.tup xs) st (ext_upd l hp) (l.new hp) (rep_tup.mpr ⟨p, vs, rfl, .inl (.inl upd_same), r.mono (ext_upd l hp)⟩) q
/-- a new list of the store -/
theorem Kon.lstM {st : Store} {k : VM.KV} {Q : VK} {xs : List PV} {vs : List V} (hk : Kon K G F μ k Q) (l : Lay K G F μ st H) (r : RepL K F μ xs vs) (q : k (.ref st.length) (st ++ [.lst xs])) (p : Addr) (hp : H p = none) : Q (.ref p) (upd H p (.lst vs)) := by
  refine hk (.ref p) _ F (μ ++ [p]) (.ref st.length) (st ++ [.lst xs]) (ext_alloc p) (l.alloc (u := SO.lst xs) hp ⟨l.free hp, vs, upd_same, r.mono (ext_alloc p)⟩) (rep_ref.mpr ⟨p, ?_, rfl⟩) q
  rw [← l.len, List.getElem?_append_right (Nat.le_refl _)]
  simp
theorem Kon.same {st : Store} {k : VM.KV} {Q : VK} {x : PV} {v : V} (hk : Kon K G F μ k Q) (l : Lay K G F μ st H) (r : Rep K F μ x v) (q : k x st) : Q v H := hk v H F μ x st Ext.refl l r q
end
section
variable {X : Cx} {a b c : Expr} {ta tb tc : VM.TE} {pos : Pos}
theorem ve_var (i : Nat) {x : Str} (hN : X.N[i]? = some x := by rfl) (hv : Vis X.env.scope x := by first | exact Or.inl rfl | exact Or.inr (Or.inl rfl) | exact Or.inr (Or.inr rfl)) (hd : (x == ("__debug__" : Str)) = false := by decide)
    (hcd : (x == ("__classdict__" : Str)) = false := by decide) : VE X (.Name x pos) (VM.eVar i) := pe_imp (pe_var hN hv hd hcd) fun σ H Q h => by
  obtain ⟨G, F, μ, ρ, st, k, l, r, d, hk⟩ := h
  unfold VM.eVar at d
  split at d
  · rename_i v e
    obtain ⟨w, h1, h2⟩ := r.2 i v e
    exact ⟨w, h1, hk.same l h2 d⟩
  · exact d.elim
theorem ve_c {e : Expr} {v : V} {x : PV} (h : PE X e (tC v)) (hr : ∀ F μ, Rep X.K F μ x v) : VE X e (VM.eC x) := pe_imp h fun σ H Q h => by
  obtain ⟨G, F, μ, ρ, st, k, l, r, d, hk⟩ := h
  exact hk.same l (hr F μ) d
theorem ve_int {i : Int} {j : Nat} : VE X (.Constant (.int i) j pos) (VM.eC (.int i)) := ve_c pe_int fun _ _ => rep_int.mpr rfl
theorem ve_bl {i : Bool} {j : Nat} : VE X (.Constant (.bool i) j pos) (VM.eC (.bl i)) := ve_c pe_bl fun _ _ => rep_bl.mpr rfl
theorem ve_non {j : Nat} : VE X (.Constant .none j pos) (VM.eC .non) := ve_c pe_non fun _ _ => rep_non.mpr rfl
theorem sOk_of {s : List Nat} (h : (Nat.ble s.length 16777216 && s.all fun c => Nat.blt c 1114112) = true) : sOk s := by
  rw [Bool.and_eq_true] at h
  exact ⟨Nat.le_of_ble_eq_true h.1, fun c hc => Nat.le_of_ble_eq_true (List.all_eq_true.mp h.2 c hc)⟩
theorem ve_str {z : Str} {s : List Nat} {j : Nat} (hz : z = ⟨s.toArray⟩ := by rfl) (hs : (Nat.ble s.length 16777216 && s.all fun c => Nat.blt c 1114112) = true := by rfl) : VE X (.Constant (.str z) j pos) (VM.eC (.str s)) := by
  subst hz
  exact ve_c pe_str fun _ _ => rep_str.mpr ⟨sOk_of hs, rfl⟩

/-- what a division of any size asks -/
structure Dv (base : Heap) (P : Program) (stack : List PySem.Env) (A : Around) : Prop where
  seer : base.NoSeer
  tree : P.given.tree = none
  top : ∃ env l, stack = env :: l ∧ env.scope.isGenerator = false ∧ env.scope.isCoroutine = false ∧ env.builtins = builtinsNs ∧ env.globals = mainGlobals
  dep : A.depth + Builtin.pylongFrames < recursionLimit
theorem dv_room {pins : List (Addr × Obj)} {σ : L2.St} {H : Hp} {s : Shared} (hd : Dv X.base X.prog X.stack X.A) (I : Inv X pins σ H s) : PylongRoom (model X.prog X.w) X.A s := by
  obtain ⟨env, l, e, h1, h2, h3, h4⟩ := hd.top
  exact PylongRoom.of I.nolimit hd.dep (SeerAt.of (env := env) (l := l) (hd.seer.keeps I.bk) hd.tree (I.ok.frames.trans (by rw [e])) h1 h2 h3 h4)
theorem mulOk {i j : Int} (h : VM.MulOk i j) : IntMulOk i j := by
  have b : ∀ x : Int, Builtin.Int.intBits x ≤ x.natAbs.log2 + 1 := fun x => by
    unfold Builtin.Int.intBits
    split <;> omega
  have h1 := b i
  have h2 := b j
  have h3 : i.natAbs.log2 + j.natAbs.log2 < 100000000 := h
  have e : bitsLine = 134217728 := by decide
  unfold IntMulOk
  intro z
  rw [Bool.and_eq_true] at z
  have z2 := z.2
  unfold Builtin.Int.intTooBig at z2
  have z3 := of_decide_eq_true z2
  rw [e] at z3
  omega
theorem op_mulG : OpR X (binaryOp .Mult) (rI VM.MulOk fun i j => .int (i * j)) := opI fun _ _ _ _ _ _ _ hc q => mul_int q (mulOk hc)
theorem strA (a b : List Nat) : ((⟨a.toArray⟩ : Str) ++ (⟨b.toArray⟩ : Str)) = ⟨(a ++ b).toArray⟩ := by
  show (⟨a.toArray ++ b.toArray⟩ : Str) = _
  simp
theorem o_add : OpR X (binaryOp .Add) (R2of X.K VM.opAdd) := by
  intro pins s σ H x y v u Q I rx ry h
  obtain ⟨G, F, μ, st, px, py, k, l, p1, p2, d, hk⟩ := h
  unfold VM.opAdd at d
  split at d
  · rename_i i j
    obtain rfl := rep_int.mp p1
    obtain rfl := rep_int.mp p2
    exact op_add pins s σ H _ _ v u Q I rx ry ⟨i, j, rfl, rfl, hk.same l (rep_int.mpr rfl) d⟩
  · rename_i a b
    obtain ⟨o1, rfl⟩ := rep_str.mp p1
    obtain ⟨o2, rfl⟩ := rep_str.mp p2
    refine op_add_str pins s σ H _ _ v u Q I rx ry ⟨_, _, rfl, rfl, by rw [sizeLine_eq]; simpa [Str.length] using d.1, ?_⟩
    rw [strA]
    exact hk.same l (rep_str.mpr ⟨⟨by simpa using d.1, fun c hc => (List.mem_append.mp hc).elim (o1.2 c) (o2.2 c)⟩, rfl⟩) d.2
  · rename_i xs ys
    obtain ⟨p, vs, rfl, e1, r1⟩ := rep_tup.mp p1
    obtain ⟨q, ws, rfl, e2, r2⟩ := rep_tup.mp p2
    have h1 := r1.length
    have h2 := r2.length
    refine op_catA pins s σ H _ _ v u Q I rx ry ⟨p, q, vs, ws, rfl, rfl, l.same.seqT e1, l.same.seqT e2, by rw [sizeLine_eq]; have z : VM.SZ = 16777216 := rfl; have := d.1; omega, fun z => ?_, fun _ z => ?_, fun _ _ => hk.tup l (r1.append r2) d.2⟩
    · subst z
      cases xs with
      | nil => exact hk.same l (rep_tup.mpr ⟨q, ws, rfl, e2, r2⟩) d.2
      | cons _ _ => simp at h1
    · subst z
      cases ys with
      | nil =>
        have d2 := d.2
        rw [List.append_nil] at d2
        exact hk.same l (rep_tup.mpr ⟨p, vs, rfl, e1, r1⟩) d2
      | cons _ _ => simp at h2
  · split at d
    · rename_i xs ys ea eb
      obtain ⟨p, vs, rfl, e1, r1⟩ := asL_rep l p1 ea
      obtain ⟨q, ws, rfl, e2, r2⟩ := asL_rep l p2 eb
      have h1 := r1.length
      have h2 := r2.length
      exact op_cat pins s σ H _ _ v u Q I rx ry ⟨p, q, vs, ws, rfl, rfl, e1, e2, by rw [sizeLine_eq]; have z : VM.SZ = 16777216 := rfl; have := d.1; omega, hk.lst l (r1.append r2) d.2⟩
    · exact d.elim
theorem o_sub : OpR X (binaryOp .Sub) (R2of X.K VM.opSub) := by
  intro pins s σ H x y v u Q I rx ry h
  obtain ⟨G, F, μ, st, px, py, k, l, p1, p2, d, hk⟩ := h
  unfold VM.opSub at d
  split at d
  · rename_i i j
    obtain rfl := rep_int.mp p1
    obtain rfl := rep_int.mp p2
    exact op_sub pins s σ H _ _ v u Q I rx ry ⟨i, j, rfl, rfl, hk.same l (rep_int.mpr rfl) d⟩
  · exact d.elim
theorem o_fdiv (hd : Dv X.base X.prog X.stack X.A) : OpR X (binaryOp .FloorDiv) (R2of X.K VM.opFdiv) := by
  intro pins s σ H x y v u Q I rx ry h
  obtain ⟨G, F, μ, st, px, py, k, l, p1, p2, d, hk⟩ := h
  unfold VM.opFdiv at d
  split at d
  · rename_i i j
    obtain rfl := rep_int.mp p1
    obtain rfl := rep_int.mp p2
    obtain ⟨t, rfl⟩ := rx
    obtain ⟨t', rfl⟩ := ry
    exact floordiv_int d.1 ⟨.int (i.fdiv j), H, I.tok _, ⟨_, rfl⟩, hk.same l (rep_int.mpr rfl) d.2⟩ (.inr (dv_room hd I))
  · exact d.elim
theorem o_mod : OpR X (binaryOp .Mod) (R2of X.K VM.opMod) := by
  intro pins s σ H x y v u Q I rx ry h
  obtain ⟨G, F, μ, st, px, py, k, l, p1, p2, d, hk⟩ := h
  unfold VM.opMod at d
  split at d
  · rename_i i j
    obtain rfl := rep_int.mp p1
    obtain rfl := rep_int.mp p2
    exact op_modN pins s σ H _ _ v u Q I rx ry ⟨i, j, rfl, rfl, d.1, hk.same l (rep_int.mpr rfl) d.2⟩
  · exact d.elim
theorem o_pow : OpR X (binaryOp .Pow) (R2of X.K VM.opPow) := by
  intro pins s σ H x y v u Q I rx ry h
  obtain ⟨G, F, μ, st, px, py, k, l, p1, p2, d, hk⟩ := h
  unfold VM.opPow at d
  split at d
  · rename_i i j
    obtain rfl := rep_int.mp p1
    obtain rfl := rep_int.mp p2
    exact op_pow pins s σ H _ _ v u Q I rx ry ⟨i, j, rfl, rfl, d.1, hk.same l (rep_int.mpr rfl) d.2⟩
  · exact d.elim
theorem RepL.rep {K : PySem.W.Frag} {F : Hp} {μ : List Addr} {xs : List PV} {vs : List V} (r : RepL K F μ xs vs) : ∀ n : Nat, RepL K F μ (List.replicate n xs).flatten (List.replicate n vs).flatten
  | 0 => repL_nil.mpr rfl
  | n + 1 => by
    rw [List.replicate_succ, List.replicate_succ, List.flatten_cons, List.flatten_cons]
    exact r.append (RepL.rep r n)
theorem o_mul : OpR X (binaryOp .Mult) (R2of X.K VM.opMul) := by
  intro pins s σ H x y v u Q I rx ry h
  obtain ⟨G, F, μ, st, px, py, k, l, p1, p2, d, hk⟩ := h
  unfold VM.opMul at d
  split at d
  · rename_i i j
    obtain rfl := rep_int.mp p1
    obtain rfl := rep_int.mp p2
    exact op_mulG pins s σ H _ _ v u Q I rx ry ⟨i, j, rfl, rfl, d.1, hk.same l (rep_int.mpr rfl) d.2⟩
  · rename_i xs j
    obtain ⟨p, vs, rfl, e1, r1⟩ := rep_lst.mp p1
    obtain rfl := rep_int.mp p2
    obtain ⟨h1, h2, h3, d⟩ := d
    have hl := r1.length
    exact op_rep pins s σ H _ _ v u Q I rx ry ⟨p, j, vs, rfl, rfl, l.same _ _ e1, h1, h2, by rw [sizeLine_eq, hl]; exact h3, hk.lst l (r1.rep _) d⟩
  · rename_i xs j
    obtain ⟨p, vs, rfl, e1, r1⟩ := rep_tup.mp p1
    obtain rfl := rep_int.mp p2
    obtain ⟨h0, h1, h2, h3, d⟩ := d
    have hl := r1.length
    exact op_repT pins s σ H _ _ v u Q I rx ry ⟨p, j, vs, rfl, rfl, l.same.seqT e1, fun z => by
      subst z
      exact h0 (List.length_eq_zero_iff.mp hl.symm), h1, h2, by rw [hl]; exact h3, hk.tup l (r1.rep _) d⟩
  · exact d.elim
theorem ve_bin {op : Operator} {o : VM.Op} (ho : OpR X (binaryOp op) (R2of X.K (VM.opBin o))) (ha : VE X a ta) (hb : VE X b tb) : VE X (.BinOp a op b pos) (VM.eBin o ta tb) := pe_imp (pe_op ho ha hb) fun σ H Q h => by
  obtain ⟨G, F, μ, ρ, st, k, l, r, d, hk⟩ := h
  exact bind2 l r hk d
theorem ve_neg (ha : VE X a ta) : VE X (.UnaryOp .USub a pos) (VM.eNeg ta) := pe_imp (pe_un un_neg ha) fun σ H Q h => by
  obtain ⟨G, F, μ, ρ, st, k, l, r, d, hk⟩ := h
  refine bind1 l r d fun x H1 F1 μ1 px st1 e1 l1 r1 p1 q1 => ?_
  split at q1
  · rename_i i
    obtain rfl := rep_int.mp p1
    exact ⟨i, rfl, (hk.mono e1).same l1 (rep_int.mpr rfl) q1⟩
  · exact q1.elim
end
end VS
end
section
namespace VS
open PySem PySem.Spec PyProof.Rows L2
open VM (PV SO Store)
mutual
def toD : PV → PyData
  | .non => .none
  | .bl b => .bool b
  | .int i => .int i
  | .str s => .str ⟨s.toArray⟩
  | .tup xs => .tuple (toDL xs)
  | .lst xs => .list (toDL xs)
  | _ => .none
def toDL : List PV → List PyData
  | [] => []
  | x :: xs => toD x :: toDL xs
end
section
variable {K : PySem.W.Frag} {G F : Hp} {μ : List Addr} {H : Hp}
mutual
theorem dp_of (hs : SameD F H) : ∀ (n : Nat) (x : PV) (v : V), VM.isD n x = true → Rep K F μ x v → Dp K H v (toD x)
  | _, .non, v, _, r => by
    obtain rfl := rep_non.mp r
    unfold toD
    exact .non
  | _, .bl b, v, _, r => by
    obtain rfl := rep_bl.mp r
    unfold toD
    exact .bl b
  | _, .int i, v, _, r => by
    obtain rfl := rep_int.mp r
    unfold toD
    exact .int i
  | _, .str s, v, _, r => by
    obtain ⟨_, rfl⟩ := rep_str.mp r
    unfold toD
    exact .str _
  | 0, .tup xs, v, h, r => by simp [VM.isD] at h
  | n + 1, .tup xs, v, h, r => by
    obtain ⟨a, vs, rfl, e, q⟩ := rep_tup.mp r
    unfold toD
    exact .tup (hs.seqT e) (dpL_of hs n xs vs (by simpa [VM.isD] using h) q)
  | 0, .lst xs, v, h, r => by simp [VM.isD] at h
  | n + 1, .lst xs, v, h, r => by
    obtain ⟨a, vs, rfl, e, q⟩ := rep_lst.mp r
    unfold toD
    exact .lst (.inl (.inl (hs _ _ e))) (dpL_of hs n xs vs (by simpa [VM.isD] using h) q)
  | n, .dct _ _, v, h, r => by simp [VM.isD] at h
  | n, .dctT _ _, v, h, r => by simp [VM.isD] at h
  | n, .obj _ _, v, h, r => by simp [VM.isD] at h
  | n, .scr _, v, h, r => by simp [VM.isD] at h
  | n, .ref _, v, h, r => by simp [VM.isD] at h
  | n, .ty _, v, h, r => by simp [VM.isD] at h
  | n, .fn _, v, h, r => by simp [VM.isD] at h
  | n, .cls _, v, h, r => by simp [VM.isD] at h
theorem dpL_of (hs : SameD F H) : ∀ (n : Nat) (xs : List PV) (vs : List V), VM.isDL n xs = true → RepL K F μ xs vs → DpAll K H vs (toDL xs)
  | _, [], vs, _, r => by
    rw [repL_nil.mp r]
    unfold toDL
    exact .nil
  | n, x :: xs, vs, h, r => by
    obtain ⟨v, w, rfl, r1, r2⟩ := repL_cons.mp r
    have h' : VM.isD n x = true ∧ VM.isDL n xs = true := by simpa [VM.isDL] using h
    unfold toDL
    exact .cons (dp_of hs n x v h'.1 r1) (dpL_of hs n xs w h'.2 r2)
end
mutual
theorem lay_of : ∀ (n : Nat) (x : PV) (v : V), VM.isD n x = true → Rep K F μ x v → (toD x).canLay0 = true ∧ (toD x).depth ≤ n
  | _, .non, v, _, r => by simp [toD, PyData.canLay0, PyData.depth]
  | _, .bl b, v, _, r => by simp [toD, PyData.canLay0, PyData.depth]
  | _, .int i, v, _, r => by simp [toD, PyData.canLay0, PyData.depth]
  | _, .str s, v, _, r => by
    obtain ⟨o, rfl⟩ := rep_str.mp r
    refine ⟨?_, by simp [toD, PyData.depth]⟩
    simp only [toD, PyData.canLay0, PyData.strOk]
    simp only [List.all_toArray, List.all_eq_true, decide_eq_true_eq]
    exact fun c hc => o.2 c hc
  | 0, .tup xs, v, h, r => by simp [VM.isD] at h
  | n + 1, .tup xs, v, h, r => by
    obtain ⟨a, vs, rfl, e, q⟩ := rep_tup.mp r
    have z := layL_of n xs vs (by simpa [VM.isD] using h) q
    simp only [toD, PyData.canLay0, PyData.depth]
    exact ⟨z.1, by omega⟩
  | 0, .lst xs, v, h, r => by simp [VM.isD] at h
  | n + 1, .lst xs, v, h, r => by
    obtain ⟨a, vs, rfl, e, q⟩ := rep_lst.mp r
    have z := layL_of n xs vs (by simpa [VM.isD] using h) q
    simp only [toD, PyData.canLay0, PyData.depth]
    exact ⟨z.1, by omega⟩
  | n, .dct _ _, v, h, r => by simp [VM.isD] at h
  | n, .dctT _ _, v, h, r => by simp [VM.isD] at h
  | n, .obj _ _, v, h, r => by simp [VM.isD] at h
  | n, .scr _, v, h, r => by simp [VM.isD] at h
  | n, .ref _, v, h, r => by simp [VM.isD] at h
  | n, .ty _, v, h, r => by simp [VM.isD] at h
  | n, .fn _, v, h, r => by simp [VM.isD] at h
  | n, .cls _, v, h, r => by simp [VM.isD] at h
theorem layL_of : ∀ (n : Nat) (xs : List PV) (vs : List V), VM.isDL n xs = true → RepL K F μ xs vs → PyData.canLayAll0 (toDL xs) = true ∧ PyData.depthAll (toDL xs) ≤ n
  | n, [], vs, _, r => by simp [toDL, PyData.canLayAll0, PyData.depthAll]
  | n, x :: xs, vs, h, r => by
    obtain ⟨v, w, rfl, r1, r2⟩ := repL_cons.mp r
    have h' : VM.isD n x = true ∧ VM.isDL n xs = true := by simpa [VM.isDL] using h
    have a := lay_of n x v h'.1 r1
    have b := layL_of n xs w h'.2 r2
    simp only [toDL, PyData.canLayAll0, PyData.depthAll]
    rw [Bool.and_eq_true]
    exact ⟨⟨a.1, b.1⟩, by omega⟩
end
theorem shaped_of {n : Nat} {x : PV} {v : V} (hn : n ≤ 64) (h : VM.isD n x = true) (r : Rep K F μ x v) : SeqAt.shaped (toD x) = true := by
  have z := lay_of n x v h r
  show ((toD x).canLay0 && decide ((toD x).depth ≤ 64)) = true
  rw [Bool.and_eq_true]
  exact ⟨z.1, decide_eq_true (by omega)⟩
theorem str_beq (a b : List Nat) : ((⟨a.toArray⟩ : Str) == ⟨b.toArray⟩) = (a == b) := by
  rw [Bool.eq_iff_iff]
  simp
mutual
theorem eqv_of : ∀ (n m : Nat) (x y : PV), VM.isD n x = true → VM.isD m y = true → PyData.eqv (toD x) (toD y) = VM.eqv x y
  | n, m, .non, y, h, h' => by
    cases y <;> first | (simp [VM.isD] at h'; done) | simp [toD, PyData.eqv, VM.eqv]
  | n, m, .bl b, y, h, h' => by
    cases y <;> first | (simp [VM.isD] at h'; done) | simp [toD, PyData.eqv, VM.eqv]
  | n, m, .int i, y, h, h' => by
    cases y <;> first | (simp [VM.isD] at h'; done) | simp [toD, PyData.eqv, VM.eqv]
  | n, m, .str s, y, h, h' => by
    cases y <;> first | (simp [VM.isD] at h'; done) | (simp only [toD, PyData.eqv, VM.eqv, str_beq])
  | 0, m, .tup xs, y, h, h' => by simp [VM.isD] at h
  | n + 1, m, .tup xs, y, h, h' => by
    cases y with
    | tup ys =>
      cases m with
      | zero => simp [VM.isD] at h'
      | succ m =>
        simp only [toD, PyData.eqv, VM.eqv]
        exact eqvL_of n m xs ys (by simpa [VM.isD] using h) (by simpa [VM.isD] using h')
    | _ => first | (simp [VM.isD] at h'; done) | simp [toD, PyData.eqv, VM.eqv]
  | 0, m, .lst xs, y, h, h' => by simp [VM.isD] at h
  | n + 1, m, .lst xs, y, h, h' => by
    cases y with
    | lst ys =>
      cases m with
      | zero => simp [VM.isD] at h'
      | succ m =>
        simp only [toD, PyData.eqv, VM.eqv]
        exact eqvL_of n m xs ys (by simpa [VM.isD] using h) (by simpa [VM.isD] using h')
    | _ => first | (simp [VM.isD] at h'; done) | simp [toD, PyData.eqv, VM.eqv]
  | n, m, .dct _ _, y, h, h' => by simp [VM.isD] at h
  | n, m, .dctT _ _, y, h, h' => by simp [VM.isD] at h
  | n, m, .obj _ _, y, h, h' => by simp [VM.isD] at h
  | n, m, .scr _, y, h, h' => by simp [VM.isD] at h
  | n, m, .ref _, y, h, h' => by simp [VM.isD] at h
  | n, m, .ty _, y, h, h' => by simp [VM.isD] at h
  | n, m, .fn _, y, h, h' => by simp [VM.isD] at h
  | n, m, .cls _, y, h, h' => by simp [VM.isD] at h
theorem eqvL_of : ∀ (n m : Nat) (xs ys : List PV), VM.isDL n xs = true → VM.isDL m ys = true → PyData.eqvAll (toDL xs) (toDL ys) = VM.eqvL xs ys
  | n, m, [], ys, h, h' => by
    cases ys <;> simp [toDL, PyData.eqvAll, VM.eqvL]
  | n, m, x :: xs, ys, h, h' => by
    cases ys with
    | nil => simp [toDL, PyData.eqvAll, VM.eqvL]
    | cons y ys =>
      have a : VM.isD n x = true ∧ VM.isDL n xs = true := by simpa [VM.isDL] using h
      have b : VM.isD m y = true ∧ VM.isDL m ys = true := by simpa [VM.isDL] using h'
      simp only [toDL, PyData.eqvAll, VM.eqvL]
      rw [eqv_of n m x y a.1 b.1, eqvL_of n m xs ys a.2 b.2]
end
/-- a list of the store, as data -/
theorem frz_dp {st : Store} {n : Nat} {x : PV} {v : V} (l : Lay K G F μ st H) (h : VM.isD n (VM.frz st x) = true) (hn : n ≤ 64) (r : Rep K F μ x v) : Dp K H v (toD (VM.frz st x)) ∧ SeqAt.shaped (toD (VM.frz st x)) = true := by
  by_cases hx : ∃ i, x = .ref i
  · obtain ⟨i, rfl⟩ := hx
    obtain ⟨a, h1, rfl⟩ := rep_ref.mp r
    unfold VM.frz at h ⊢
    dsimp only at h ⊢
    split at h
    · rename_i xs e
      obtain ⟨hf, vs, h3, h4⟩ := l.obj i a _ h1 e
      cases n with
      | zero => simp [VM.isD] at h
      | succ n =>
        have hd : VM.isDL n xs = true := by simpa [VM.isD] using h
        have z := layL_of n xs vs hd h4
        refine ⟨?_, ?_⟩
        · unfold toD
          exact .lst (.inl (.inl h3)) (dpL_of l.same n xs vs hd h4)
        · show ((toD (.lst xs)).canLay0 && decide ((toD (.lst xs)).depth ≤ 64)) = true
          rw [Bool.and_eq_true]
          simp only [toD, PyData.canLay0, PyData.depth]
          exact ⟨z.1, decide_eq_true (by omega)⟩
    · simp [VM.isD] at h
  · have e : VM.frz st x = x := by
      unfold VM.frz
      split
      · exact absurd ⟨_, rfl⟩ hx
      · rfl
    rw [e] at h ⊢
    exact ⟨dp_of l.same n x v h r, shaped_of hn h r⟩
end
def R2B (K : PySem.W.Frag) (f : PV → PV → Store → (Bool → Store → Prop) → Prop) : R2 := fun x y H Q => ∃ G F μ st px py k, Lay K G F μ st H ∧ Rep K F μ px x ∧ Rep K F μ py y ∧ f px py st k ∧ KonB K G F μ k fun b H' => Q (.bl b) H'
section
variable {K : PySem.W.Frag} {G F : Hp} {μ : List Addr} {H : Hp} {st : Store}
theorem KonB.same {k : Bool → Store → Prop} {Q : Bool → Hp → Prop} {b : Bool} (hk : KonB K G F μ k Q) (l : Lay K G F μ st H) (q : k b st) : Q b H := hk b H F μ st Ext.refl l q
end
section
variable {X : Cx}
theorem c_eq (hu : X.A.units + 64 < cLine) : OpR X (compareOp .Eq) (R2B X.K VM.opEq) := by
  intro pins s σ H x y v u Q I rx ry h
  obtain ⟨G, F, μ, st, px, py, k, l, p1, p2, ⟨d1, d2, d⟩, hk⟩ := h
  obtain ⟨a1, a2⟩ := frz_dp l d1 (by decide) p1
  obtain ⟨b1, b2⟩ := frz_dp l d2 (by decide) p2
  exact op_eqD hu pins s σ H x y v u Q I rx ry ⟨_, _, a1, b1, a2, b2, by rw [eqv_of 60 60 _ _ d1 d2]; exact hk.same l d⟩
theorem c_ne (hu : X.A.units + 64 < cLine) : OpR X (compareOp .NotEq) (R2B X.K fun x y st k => VM.opEq x y st fun b st => k (!b) st) := by
  intro pins s σ H x y v u Q I rx ry h
  obtain ⟨G, F, μ, st, px, py, k, l, p1, p2, ⟨d1, d2, d⟩, hk⟩ := h
  obtain ⟨a1, a2⟩ := frz_dp l d1 (by decide) p1
  obtain ⟨b1, b2⟩ := frz_dp l d2 (by decide) p2
  exact op_neD hu pins s σ H x y v u Q I rx ry ⟨_, _, a1, b1, a2, b2, by rw [eqv_of 60 60 _ _ d1 d2]; exact hk.same l d⟩
theorem c_lt : OpR X (compareOp .Lt) (R2B X.K (VM.opCm .lt)) := by
  intro pins s σ H x y v u Q I rx ry h
  obtain ⟨G, F, μ, st, px, py, k, l, p1, p2, d, hk⟩ := h
  simp only [VM.opCm] at d
  split at d
  · obtain rfl := rep_int.mp p1
    obtain rfl := rep_int.mp p2
    exact op_lt pins s σ H _ _ v u Q I rx ry ⟨_, _, rfl, rfl, hk.same l d⟩
  · exact d.elim
theorem c_le : OpR X (compareOp .LtE) (R2B X.K (VM.opCm .le)) := by
  intro pins s σ H x y v u Q I rx ry h
  obtain ⟨G, F, μ, st, px, py, k, l, p1, p2, d, hk⟩ := h
  simp only [VM.opCm] at d
  split at d
  · obtain rfl := rep_int.mp p1
    obtain rfl := rep_int.mp p2
    exact op_le pins s σ H _ _ v u Q I rx ry ⟨_, _, rfl, rfl, hk.same l d⟩
  · exact d.elim
theorem c_gt : OpR X (compareOp .Gt) (R2B X.K (VM.opCm .gt)) := by
  intro pins s σ H x y v u Q I rx ry h
  obtain ⟨G, F, μ, st, px, py, k, l, p1, p2, d, hk⟩ := h
  simp only [VM.opCm] at d
  split at d
  · obtain rfl := rep_int.mp p1
    obtain rfl := rep_int.mp p2
    exact op_gt pins s σ H _ _ v u Q I rx ry ⟨_, _, rfl, rfl, hk.same l d⟩
  · exact d.elim
theorem c_ge : OpR X (compareOp .GtE) (R2B X.K (VM.opCm .ge)) := by
  intro pins s σ H x y v u Q I rx ry h
  obtain ⟨G, F, μ, st, px, py, k, l, p1, p2, d, hk⟩ := h
  simp only [VM.opCm] at d
  split at d
  · obtain rfl := rep_int.mp p1
    obtain rfl := rep_int.mp p2
    exact op_ge pins s σ H _ _ v u Q I rx ry ⟨_, _, rfl, rfl, hk.same l d⟩
  · exact d.elim
theorem rep_noniff {K : PySem.W.Frag} {F : Hp} {μ : List Addr} {x : PV} {v : V} (r : Rep K F μ x v) : decide (v = .non) = VM.isNon x := by
  cases x <;> unfold Rep at r
  case non => rw [r]; rfl
  case bl => rw [r]; rfl
  case int => rw [r]; rfl
  case str => rw [r.2]; rfl
  case tup => obtain ⟨a, vs, rfl, _⟩ := r; rfl
  case lst => obtain ⟨a, vs, rfl, _⟩ := r; rfl
  case dct => obtain ⟨a, vs, rfl, _⟩ := r; rfl
  case scr => obtain ⟨a, rfl, _⟩ := r; rfl
  case ref => obtain ⟨a, _, rfl⟩ := r; rfl
  all_goals exact r.elim
theorem c_isN : OpR X (compareOp .Is) (R2B X.K (VM.opCm .isN)) := by
  intro pins s σ H x y v u Q I rx ry h
  obtain ⟨G, F, μ, st, px, py, k, l, p1, p2, ⟨hy, d⟩, hk⟩ := h
  obtain rfl : py = .non := by cases py <;> first | rfl | cases hy
  obtain rfl := rep_non.mp p2
  refine op_isN pins s σ H _ _ v u Q I rx ry ⟨rfl, ?_⟩
  rw [rep_noniff p1]
  exact hk.same l d
theorem c_notN : OpR X (compareOp .IsNot) (R2B X.K (VM.opCm .notN)) := by
  intro pins s σ H x y v u Q I rx ry h
  obtain ⟨G, F, μ, st, px, py, k, l, p1, p2, ⟨hy, d⟩, hk⟩ := h
  obtain rfl : py = .non := by cases py <;> first | rfl | cases hy
  obtain rfl := rep_non.mp p2
  refine op_notN pins s σ H _ _ v u Q I rx ry ⟨rfl, ?_⟩
  rw [rep_noniff p1]
  exact hk.same l d
theorem flat_of {K : PySem.W.Frag} {F : Hp} {μ : List Addr} {x : PV} {v : V} (h : VM.isD 0 x = true) (r : Rep K F μ x v) : flatV v = true := by
  cases x <;> first | (simp [VM.isD] at h; done) | skip
  case non => rw [rep_non.mp r]; rfl
  case bl => rw [rep_bl.mp r]; rfl
  case int => rw [rep_int.mp r]; rfl
  case str => rw [(rep_str.mp r).2]; rfl
theorem flatL_of {K : PySem.W.Frag} {F : Hp} {μ : List Addr} : ∀ {xs : List PV} {vs : List V}, VM.isDL 0 xs = true → RepL K F μ xs vs → vs.all flatV = true
  | [], vs, _, r => by
    rw [repL_nil.mp r]
    rfl
  | x :: xs, vs, h, r => by
    obtain ⟨v, w, rfl, r1, r2⟩ := repL_cons.mp r
    have a : VM.isD 0 x = true ∧ VM.isDL 0 xs = true := by simpa [VM.isDL] using h
    rw [List.all_cons, flat_of a.1 r1, flatL_of a.2 r2]
    rfl
theorem eqV_of {K : PySem.W.Frag} {F : Hp} {μ : List Addr} {x y : PV} {v w : V} (h : VM.isD 0 x = true) (h' : VM.isD 0 y = true) (r : Rep K F μ x v) (r' : Rep K F μ y w) : eqV v w = VM.eqv x y := by
  cases x <;> first | (simp [VM.isD] at h; done) | skip
  all_goals cases y <;> first | (simp [VM.isD] at h'; done) | skip
  all_goals first
    | (obtain rfl := rep_non.mp r)
    | (obtain rfl := rep_bl.mp r)
    | (obtain rfl := rep_int.mp r)
    | (obtain ⟨_, rfl⟩ := rep_str.mp r)
  all_goals first
    | (obtain rfl := rep_non.mp r')
    | (obtain rfl := rep_bl.mp r')
    | (obtain rfl := rep_int.mp r')
    | (obtain ⟨_, rfl⟩ := rep_str.mp r')
  all_goals first
    | (simp [eqV, VM.eqv]; done)
    | simp only [eqV, VM.eqv, str_beq]
theorem inV_of {K : PySem.W.Frag} {F : Hp} {μ : List Addr} {x : PV} {v : V} (h : VM.isD 0 x = true) (r : Rep K F μ x v) : ∀ {ys : List PV} {ws : List V}, VM.isDL 0 ys = true → RepL K F μ ys ws → inV v ws = ys.any fun y => VM.eqv y x
  | [], ws, _, q => by
    rw [repL_nil.mp q]
    rfl
  | y :: ys, ws, h', q => by
    obtain ⟨w, w', rfl, r1, r2⟩ := repL_cons.mp q
    have a : VM.isD 0 y = true ∧ VM.isDL 0 ys = true := by simpa [VM.isDL] using h'
    have ih := inV_of h r a.2 r2
    unfold inV at ih ⊢
    rw [List.any_cons, List.any_cons, eqV_of a.1 h r1 r, ih]
theorem c_in_gen {neg : Bool} {op : CmpOp} (h1 : OpR X (compareOp op) (rIn X.K neg)) (h2 : OpR X (compareOp op) (fun x y H Q => ∃ (c : Nat) (z : Str), x = .str ⟨#[c]⟩ ∧ y = .str z ∧ Q (.bl (if neg then !decide (c ∈ z.cps.toList) else decide (c ∈ z.cps.toList))) H)) :
    OpR X (compareOp op) (R2B X.K fun x y st k => VM.opIn x y st fun b st => k (if neg then !b else b) st) := by
  intro pins s σ H x y v u Q I rx ry h
  obtain ⟨G, F, μ, st, px, py, k, l, p1, p2, d, hk⟩ := h
  unfold VM.opIn at d
  split at d
  · split at d
    · rename_i z c
      obtain ⟨_, rfl⟩ := rep_str.mp p1
      obtain ⟨_, rfl⟩ := rep_str.mp p2
      exact h2 pins s σ H _ _ v u Q I rx ry ⟨c, _, rfl, rfl, hk.same l (by simpa using d)⟩
    · exact d.elim
  · rename_i ys
    obtain ⟨d1, d2, d⟩ := d
    obtain ⟨a, ws, rfl, e, q⟩ := rep_tup.mp p2
    exact h1 pins s σ H _ _ v u Q I rx ry ⟨a, ws, rfl, .inr (l.same.seqT e), flat_of d1 p1, flatL_of d2 q, by rw [inV_of d1 p1 d2 q]; exact hk.same l d⟩
  · split at d
    · rename_i ys ea
      obtain ⟨d1, d2, d⟩ := d
      obtain ⟨a, ws, rfl, e, q⟩ := asL_rep l p2 ea
      exact h1 pins s σ H _ _ v u Q I rx ry ⟨a, ws, rfl, .inl (.inl (.inl e)), flat_of d1 p1, flatL_of d2 q, by rw [inV_of d1 p1 d2 q]; exact hk.same l d⟩
    · exact d.elim
theorem c_in : OpR X (compareOp .In) (R2B X.K (VM.opCm .isin)) := by
  have h := c_in_gen (X := X) (neg := false) (op := .In) op_in_seq op_in_sign
  intro pins s σ H x y v u Q I rx ry q
  exact h pins s σ H x y v u Q I rx ry q
theorem c_notin : OpR X (compareOp .NotIn) (R2B X.K (VM.opCm .notin)) := by
  have h := c_in_gen (X := X) (neg := true) (op := .NotIn) op_notIn_seq op_notIn_sign
  intro pins s σ H x y v u Q I rx ry q
  exact h pins s σ H x y v u Q I rx ry q
end
end VS
end
section
namespace VS
open PySem PySem.Spec PyProof.Rows L2
open VM (PV SO Store)
section
variable {X : Cx} {a b c e : Expr} {ta tb tc te : VM.TE} {t1 t2 : VM.TT} {pos : Pos} {es rest : List Expr} {tas : VM.TA}
theorem bind2B {K : PySem.W.Frag} {G F : Hp} {μ : List Addr} {σ : L2.St} {H : Hp} {ρ : VM.Env} {st : Store} {f : PV → PV → Store → (Bool → Store → Prop) → Prop} {k : Bool → Store → Prop} {Q : VK} (l : Lay K G F μ st H) (r : EnvR K F μ σ ρ) (hk : KonB K G F μ k fun b H' => Q (.bl b) H')
    (h : ta ρ st (fun u st => tb ρ st (fun v st => f u v st k) nox) nox) : tOp (R2B K f) (rE K ta) (rE K tb) σ H Q :=
  bind1 l r h fun x H1 F1 μ1 px st1 e1 l1 r1 p1 q1 => bind1 l1 r1 q1 fun y H2 F2 μ2 py st2 e2 l2 r2 p2 q2 => ⟨G, F2, μ2, st2, px, py, k, l2, p1.mono e2, p2, q2, hk.mono (e1.trans e2)⟩
theorem kon_b {K : PySem.W.Frag} {G F : Hp} {μ : List Addr} {k : VM.KV} {Q : VK} (hk : Kon K G F μ k Q) : KonB K G F μ (fun r st => k (.bl r) st) fun b H' => Q (.bl b) H' := fun b H' F' μ' st' e l q => hk (.bl b) H' F' μ' (.bl b) st' e l (rep_bl.mpr rfl) q
theorem ve_cmp {op : CmpOp} {o : VM.Cm} (ho : OpR X (compareOp op) (R2B X.K (VM.opCm o))) (ha : VE X a ta) (hb : VE X b tb) (hm : behindInMarks op b = false) : VE X (.Compare a [op] [b] pos) (VM.eCmp o ta tb) := pe_imp (pe_cmpR ho ha hb hm) fun σ H Q h => by
  obtain ⟨G, F, μ, ρ, st, k, l, r, d, hk⟩ := h
  exact bind2B l r (kon_b hk) d
theorem vt_cmp {op : CmpOp} {o : VM.Cm} (ho : OpR X (compareOp op) (R2B X.K (VM.opCm o))) (ha : VE X a ta) (hb : VE X b tb) (hm : behindInMarks op b = false) : VT X (.Compare a [op] [b] pos) (VM.tCmp o ta tb) := pt_imp (pt_cmpR ho ha hb hm) fun σ H Q h => by
  obtain ⟨G, F, μ, ρ, st, k, l, r, d, hk⟩ := h
  exact bind2B (Q := fun x H' => ∃ k, x = .bl k ∧ Q k H') l r (fun b H' F' μ' st' e l q => ⟨b, rfl, hk b H' F' μ' st' e l q⟩) d
theorem chain_aux {K : PySem.W.Frag} {G F : Hp} {μ : List Addr} {σ : L2.St} {H : Hp} {ρ : VM.Env} {st : Store} {o o' : VM.Cm} {k : Bool → Store → Prop} {Q : VK} (l : Lay K G F μ st H) (r : EnvR K F μ σ ρ) (hk : KonB K G F μ k fun b H' => Q (.bl b) H')
    (h : VM.tChain o o' ta tb tc ρ st k nox) : tChain (R2B K (VM.opCm o)) (R2B K (VM.opCm o')) (rE K ta) (rE K tb) (rE K tc) σ H Q :=
  bind1 l r h fun x H1 F1 μ1 px st1 e1 l1 r1 p1 q1 => bind1 l1 r1 q1 fun y H2 F2 μ2 py st2 e2 l2 r2 p2 q2 =>
    ⟨G, F2, μ2, st2, px, py, _, l2, p1.mono e2, p2, q2, fun b H3 F3 μ3 st3 e3 l3 q3 => ⟨b, rfl, by
      cases b with
      | true =>
        rw [if_pos rfl] at q3 ⊢
        exact bind1 l3 (r2.mono e3) q3 fun z H4 F4 μ4 pz st4 e4 l4 r4 p4 q4 => ⟨G, F4, μ4, st4, py, pz, k, l4, p2.mono (e3.trans e4), p4, q4, hk.mono (e1.trans (e2.trans (e3.trans e4)))⟩
      | false =>
        rw [if_neg Bool.false_ne_true] at q3 ⊢
        exact (hk.mono (e1.trans (e2.trans e3))).same l3 q3⟩⟩
theorem ve_chain {op op' : CmpOp} {o o' : VM.Cm} (ho : OpR X (compareOp op) (R2B X.K (VM.opCm o))) (ho' : OpR X (compareOp op') (R2B X.K (VM.opCm o'))) (ha : VE X a ta) (hb : VE X b tb) (hc : VE X c tc) (hm : lastMarks [op, op'] [b, c] = false) :
    VE X (.Compare a [op, op'] [b, c] pos) (VM.eChain o o' ta tb tc) := pe_imp (pe_chain ho ho' ha hb hc hm) fun σ H Q h => by
  obtain ⟨G, F, μ, ρ, st, k, l, r, d, hk⟩ := h
  exact chain_aux l r (kon_b hk) d
theorem vt_chain {op op' : CmpOp} {o o' : VM.Cm} (ho : OpR X (compareOp op) (R2B X.K (VM.opCm o))) (ho' : OpR X (compareOp op') (R2B X.K (VM.opCm o'))) (ha : VE X a ta) (hb : VE X b tb) (hc : VE X c tc) (hm : lastMarks [op, op'] [b, c] = false) :
    VT X (.Compare a [op, op'] [b, c] pos) (VM.tChain o o' ta tb tc) := pt_imp (pt_chain ho ho' ha hb hc hm) fun σ H Q h => by
  obtain ⟨G, F, μ, ρ, st, k, l, r, d, hk⟩ := h
  exact chain_aux (Q := fun x H' => ∃ k, x = .bl k ∧ Q k H') l r (fun b H' F' μ' st' e l q => ⟨b, rfl, hk b H' F' μ' st' e l q⟩) d

theorem truth_rep {K : PySem.W.Frag} {G F : Hp} {μ : List Addr} {H : Hp} {st : Store} {x : PV} {v : V} {b : Bool} (l : Lay K G F μ st H) (r : Rep K F μ x v) (h : VM.truth st x = some b) : TruV K v H b := by
  cases x <;> simp only [VM.truth] at h
  case non => cases h; rw [rep_non.mp r]; exact rfl
  case bl => cases h; rw [rep_bl.mp r]; exact rfl
  case int i =>
    cases h
    rw [rep_int.mp r]
    show decide (i ≠ 0) = (i != 0)
    rw [Bool.eq_iff_iff]
    simp
  case str s =>
    cases h
    obtain ⟨o, rfl⟩ := rep_str.mp r
    refine ⟨by rw [sizeLine_eq]; simpa [Str.length] using o.1, ?_⟩
    cases s with
    | nil => rfl
    | cons c s =>
      simp only [Str.length, List.isEmpty_cons, Bool.not_false]
      symm
      rw [bne_iff_ne]
      simp
      omega
  case tup xs =>
    cases h
    obtain ⟨a, vs, rfl, e, q⟩ := rep_tup.mp r
    refine .inr (.inl ⟨vs, l.same.seqT e, ?_⟩)
    have := q.length
    cases xs <;> cases vs <;> first | rfl | simp at this
  case lst xs =>
    cases h
    obtain ⟨a, vs, rfl, e, q⟩ := rep_lst.mp r
    refine .inl ⟨vs, .inl (.inl (l.same _ _ e)), ?_⟩
    have := q.length
    cases xs <;> cases vs <;> first | rfl | simp at this
  case dct ks xs =>
    cases h
    unfold Rep at r
    obtain ⟨a, kvs, rfl, e, rfl, _⟩ := r
    refine .inr (.inr ⟨kvs, l.same _ _ e, ?_⟩)
    cases kvs <;> rfl
  case dctT => unfold Rep at r; exact r.elim
  case ref i =>
    obtain ⟨a, h1, rfl⟩ := rep_ref.mp r
    split at h
    · rename_i xs e
      cases h
      obtain ⟨_, vs, h2, q⟩ := l.obj i a _ h1 e
      refine .inl ⟨vs, .inl (.inl h2), ?_⟩
      have := q.length
      cases xs <;> cases vs <;> first | rfl | simp at this
    · rename_i ks xs e
      cases h
      obtain ⟨_, kvs, h2, rfl, q⟩ := l.obj i a _ h1 e
      refine .inr (.inr ⟨kvs, h2, ?_⟩)
      cases kvs <;> rfl
    · rename_i ks xs e
      exact (l.obj i a _ h1 e).elim
    · cases h
  all_goals cases h
theorem vt_of (ha : VE X a ta) (he : ∀ whole, isTrue a X.env whole = (do let v ← whole; standAt a.pos; holding [v] (truthy v)) := by intro _; rfl) : VT X a (VM.tOf ta) := pt_imp (pt_truth ha he) fun σ H Q h => by
  obtain ⟨G, F, μ, ρ, st, k, l, r, d, hk⟩ := h
  refine bind1 l r d fun x H1 F1 μ1 px st1 e1 l1 r1 p1 q1 => ?_
  split at q1
  · rename_i b eb
    exact ⟨b, truth_rep l1 p1 eb, (hk.mono e1).same l1 q1⟩
  · exact q1.elim
abbrev VW (X : Cx) (e : Expr) (t : VM.TT) : Prop := PW X e (rT X.K t)
theorem vw_and1 (ha : VT X a t1) : VW X (.BoolOp .And [a] pos) t1 := pw_and1 ha
theorem vw_or1 (ha : VT X a t1) : VW X (.BoolOp .Or [a] pos) t1 := pw_or1 ha
theorem vw_and (ha : VT X a t1) (hb : VW X (.BoolOp .And (b :: rest) pos) t2) : VW X (.BoolOp .And (a :: b :: rest) pos) (VM.tAnd t1 t2) := pw_imp (pw_and ha hb) fun σ H Q h => by
  obtain ⟨G, F, μ, ρ, st, k, l, r, d, hk⟩ := h
  refine bindT l r d fun b H1 F1 μ1 st1 e1 l1 r1 q1 => ?_
  cases b with
  | true =>
    rw [if_pos rfl] at q1 ⊢
    exact bindT l1 r1 q1 fun b H2 F2 μ2 st2 e2 l2 r2 q2 => (hk.mono (e1.trans e2)).same l2 q2
  | false =>
    rw [if_neg Bool.false_ne_true] at q1 ⊢
    exact (hk.mono e1).same l1 q1
theorem vw_or (ha : VT X a t1) (hb : VW X (.BoolOp .Or (b :: rest) pos) t2) : VW X (.BoolOp .Or (a :: b :: rest) pos) (VM.tOr t1 t2) := pw_imp (pw_or ha hb) fun σ H Q h => by
  obtain ⟨G, F, μ, ρ, st, k, l, r, d, hk⟩ := h
  refine bindT l r d fun b H1 F1 μ1 st1 e1 l1 r1 q1 => ?_
  cases b with
  | true =>
    rw [if_pos rfl] at q1 ⊢
    exact (hk.mono e1).same l1 q1
  | false =>
    rw [if_neg Bool.false_ne_true] at q1 ⊢
    exact bindT l1 r1 q1 fun b H2 F2 μ2 st2 e2 l2 r2 q2 => (hk.mono (e1.trans e2)).same l2 q2
theorem vt_w (h : VW X e t1) : VT X e t1 := h.pt
theorem vt_not (ha : VT X a t1) : VT X (.UnaryOp .Not a pos) (VM.tNot t1) := pt_imp (pt_not ha) fun σ H Q h => by
  obtain ⟨G, F, μ, ρ, st, k, l, r, d, hk⟩ := h
  exact bindT l r d fun b H1 F1 μ1 st1 e1 l1 r1 q1 => (hk.mono e1).same l1 q1
theorem ve_one {op : PySem.BoolOp} (h : VE X a ta) : VE X (.BoolOp op [a] pos) ta := pe_one h
theorem ve_and (ha : VE X a ta) (hb : VE X (.BoolOp .And (b :: rest) pos) tb) : VE X (.BoolOp .And (a :: b :: rest) pos) (VM.eAnd ta tb) := pe_imp (pe_andT ha hb) fun σ H Q h => by
  obtain ⟨G, F, μ, ρ, st, k, l, r, d, hk⟩ := h
  refine bind1 l r d fun x H1 F1 μ1 px st1 e1 l1 r1 p1 q1 => ?_
  split at q1
  · rename_i eb
    refine ⟨true, truth_rep l1 p1 eb, ?_⟩
    rw [if_pos rfl]
    exact bind1 l1 r1 q1 fun y H2 F2 μ2 py st2 e2 l2 r2 p2 q2 => (hk.mono (e1.trans e2)).same l2 p2 q2
  · rename_i eb
    refine ⟨false, truth_rep l1 p1 eb, ?_⟩
    rw [if_neg Bool.false_ne_true]
    exact (hk.mono e1).same l1 p1 q1
  · exact q1.elim
theorem ve_or (ha : VE X a ta) (hb : VE X (.BoolOp .Or (b :: rest) pos) tb) : VE X (.BoolOp .Or (a :: b :: rest) pos) (VM.eOr ta tb) := pe_imp (pe_orT ha hb) fun σ H Q h => by
  obtain ⟨G, F, μ, ρ, st, k, l, r, d, hk⟩ := h
  refine bind1 l r d fun x H1 F1 μ1 px st1 e1 l1 r1 p1 q1 => ?_
  split at q1
  · rename_i eb
    refine ⟨false, truth_rep l1 p1 eb, ?_⟩
    rw [if_neg Bool.false_ne_true]
    exact bind1 l1 r1 q1 fun y H2 F2 μ2 py st2 e2 l2 r2 p2 q2 => (hk.mono (e1.trans e2)).same l2 p2 q2
  · rename_i eb
    refine ⟨true, truth_rep l1 p1 eb, ?_⟩
    rw [if_pos rfl]
    exact (hk.mono e1).same l1 p1 q1
  · exact q1.elim
theorem ve_not (ha : VE X a ta) : VE X (.UnaryOp .Not a pos) (VM.eNot ta) := pe_imp (pe_notT ha) fun σ H Q h => by
  obtain ⟨G, F, μ, ρ, st, k, l, r, d, hk⟩ := h
  refine bind1 l r d fun x H1 F1 μ1 px st1 e1 l1 r1 p1 q1 => ?_
  split at q1
  · rename_i b eb
    exact ⟨b, truth_rep l1 p1 eb, (hk.mono e1).same l1 (rep_bl.mpr rfl) q1⟩
  · exact q1.elim
theorem ve_if (hc : VT X c t1) (ha : VE X a ta) (hb : VE X b tb) : VE X (.IfExp c a b pos) (VM.eIf t1 ta tb) := pe_imp (pe_ifExp hc ha hb) fun σ H Q h => by
  obtain ⟨G, F, μ, ρ, st, k, l, r, d, hk⟩ := h
  refine bindT l r d fun b H1 F1 μ1 st1 e1 l1 r1 q1 => ?_
  cases b with
  | true =>
    rw [if_pos rfl] at q1 ⊢
    exact bind1 l1 r1 q1 fun y H2 F2 μ2 py st2 e2 l2 r2 p2 q2 => (hk.mono (e1.trans e2)).same l2 p2 q2
  | false =>
    rw [if_neg Bool.false_ne_true] at q1 ⊢
    exact bind1 l1 r1 q1 fun y H2 F2 μ2 py st2 e2 l2 r2 p2 q2 => (hk.mono (e1.trans e2)).same l2 p2 q2

theorem va_nil : VA X [] VM.aNil := pa_imp pa_nil fun σ H Q h => by
  obtain ⟨G, F, μ, ρ, st, k, l, r, d, hk⟩ := h
  exact hk [] H F μ [] st Ext.refl l (repL_nil.mpr rfl) d
theorem va_cons (ha : VE X a ta) (hr : VA X es tas) (hs : starEach (a :: es) X.env = (false, eval a X.env) :: starEach es X.env := by rfl) : VA X (a :: es) (VM.aCons ta tas) := pa_imp (pa_cons ha hr hs) fun σ H Q h => by
  obtain ⟨G, F, μ, ρ, st, k, l, r, d, hk⟩ := h
  exact bind1 l r d fun x H1 F1 μ1 px st1 e1 l1 r1 p1 q1 => bindA l1 r1 q1 fun xs H2 F2 μ2 pxs st2 e2 l2 r2 p2 q2 =>
    hk (x :: xs) H2 F2 μ2 (px :: pxs) st2 (e1.trans e2) l2 (repL_cons.mpr ⟨x, xs, rfl, p1.mono e2, p2⟩) q2
theorem ve_lst (h : VA X es tas) : VE X (.List es pos) (VM.eLst tas) := pe_imp (pe_lst h) fun σ H Q h => by
  obtain ⟨G, F, μ, ρ, st, k, l, r, d, hk⟩ := h
  exact bindA l r d fun xs H1 F1 μ1 pxs st1 e1 l1 r1 p1 q1 => ⟨by rw [sizeLine_eq, p1.length]; exact q1.1, (hk.mono e1).lst l1 p1 q1.2⟩
theorem ve_lstM (h : VA X es tas) : VE X (.List es pos) (VM.eLstM tas) := pe_imp (pe_lst h) fun σ H Q h => by
  obtain ⟨G, F, μ, ρ, st, k, l, r, d, hk⟩ := h
  exact bindA l r d fun xs H1 F1 μ1 pxs st1 e1 l1 r1 p1 q1 => ⟨by rw [sizeLine_eq, p1.length]; exact q1.1, (hk.mono e1).lstM l1 p1 q1.2⟩
theorem ve_tup {kt : Nat} (h : VA X es tas) : VE X (.Tuple es kt pos) (VM.eTup tas) := pe_imp (pe_tup h) fun σ H Q h => by
  obtain ⟨G, F, μ, ρ, st, k, l, r, d, hk⟩ := h
  exact bindA l r d fun xs H1 F1 μ1 pxs st1 e1 l1 r1 p1 q1 => ⟨by rw [sizeLine_eq, p1.length]; exact q1.1, (hk.mono e1).tup l1 p1 q1.2⟩

theorem ix_ixN (n : Nat) (i : Int) : VM.ix n i = ixN n i := rfl
theorem atI_of {K : PySem.W.Frag} {F : Hp} {μ : List Addr} {xs : List PV} {vs : List V} {i : Int} {n : Nat} {y : PV} (r : RepL K F μ xs vs) (h : VM.ix xs.length i = some n) (hy : xs[n]? = some y) : ∃ v, atI vs i = some v ∧ Rep K F μ y v := by
  obtain ⟨v, h1, h2⟩ := r.get hy
  refine ⟨v, ?_, h2⟩
  unfold atI
  rw [r.length, ← ix_ixN, h]
  exact h1
theorem ix_dyn : IxR X (R2of X.K VM.getIx) := by
  intro value slice pins s σ H x y v u Q I rx ry h hs
  obtain ⟨G, F, μ, st, px, py, k, l, p1, p2, d, hk⟩ := h
  unfold VM.getIx at d
  split at d
  · rename_i i
    obtain rfl := rep_int.mp p2
    split at d
    · rename_i xs
      obtain ⟨a, vs, rfl, e, q⟩ := rep_tup.mp p1
      split at d
      · rename_i n en
        split at d
        · rename_i z ez
          obtain ⟨w, h1, h2⟩ := atI_of q en ez
          exact ix_tup value slice pins s σ H _ _ v u Q I rx ry ⟨a, vs, i, w, rfl, rfl, l.same.seqT e, h1, hk.same l h2 d⟩ hs
        · exact d.elim
      · exact d.elim
    · rename_i z
      obtain ⟨o, rfl⟩ := rep_str.mp p1
      split at d
      · rename_i n en
        split at d
        · rename_i c ez
          refine ix_str value slice pins s σ H _ _ v u Q I rx ry ⟨_, i, c, rfl, rfl, by rw [sizeLine_eq]; simpa [Str.length] using o.1, ?_, ?_⟩ hs
          · unfold atI
            rw [← ix_ixN, en]
            exact ez
          · exact hk.same l (rep_str.mpr ⟨⟨by simp, fun c' hc => by
              have e' : c' = c := by simpa using hc
              rw [e']
              exact o.2 c (List.mem_of_getElem? ez)⟩, rfl⟩) d
        · exact d.elim
      · exact d.elim
    · split at d
      · rename_i xs ea
        obtain ⟨a, vs, rfl, e, q⟩ := asL_rep l p1 ea
        split at d
        · rename_i n en
          split at d
          · rename_i z ez
            obtain ⟨w, h1, h2⟩ := atI_of q en ez
            exact ix_list value slice pins s σ H _ _ v u Q I rx ry ⟨a, vs, i, w, rfl, rfl, .inl (.inl e), h1, hk.same l h2 d⟩ hs
          · exact d.elim
        · exact d.elim
      · exact d.elim
  · exact d.elim
theorem ve_ix (ha : VE X a ta) (hb : VE X b tb) (hs : PlainIx b := by exact fun _ _ => rfl) : VE X (.Subscript a b pos) (VM.eIx ta tb) := pe_imp (pe_ix ix_dyn ha hb hs) fun σ H Q h => by
  obtain ⟨G, F, μ, ρ, st, k, l, r, d, hk⟩ := h
  exact bind2 l r hk d
theorem repL_ints {K : PySem.W.Frag} {F : Hp} {μ : List Addr} : ∀ is : List Int, RepL K F μ (is.map PV.int) (is.map V.int)
  | [] => repL_nil.mpr rfl
  | i :: is => repL_cons.mpr ⟨_, _, rfl, rep_int.mpr rfl, repL_ints is⟩
theorem cutIx_eq (n d : Nat) (o : Option Int) : VM.cutIx n d o = HT.sIx n d o := by cases o <;> rfl
theorem RepL.slc {K : PySem.W.Frag} {F : Hp} {μ : List Addr} {xs : List PV} {vs : List V} (r : RepL K F μ xs vs) (lo hi : Option Int) : RepL K F μ (VM.slc xs lo hi) (cutV vs lo hi) := by
  unfold VM.slc cutV
  rw [cutIx_eq, cutIx_eq, r.length]
  exact (r.drop _).take _
def SlOf (K : PySem.W.Frag) : V → Option Int → Option Int → Hp → VK → Prop := fun x lo hi H Q => ∃ G F μ st px k, Lay K G F μ st H ∧ Rep K F μ px x ∧ VM.getSl px lo hi st k ∧ Kon K G F μ k Q
theorem sl_dyn : SlR X (SlOf X.K) := by
  intro pins s σ H x v vl vu lo hi sl Q I rx hs pl pu h
  obtain ⟨G, F, μ, st, px, k, l, p1, d, hk⟩ := h
  unfold VM.getSl at d
  split at d
  · rename_i xs
    obtain ⟨a, vs, rfl, e, q⟩ := rep_tup.mp p1
    refine sl_tupA pins s σ H _ v vl vu lo hi sl Q I rx hs pl pu ⟨a, vs, rfl, l.same.seqT e, fun z => ?_, fun _ => hk.tup l (q.slc lo hi) d⟩
    have e2 : VM.slc xs lo hi = xs := by
      unfold VM.slc
      rw [cutIx_eq, cutIx_eq, ← q.length, z.1, z.2, List.drop_zero, q.length]
      simp
    rw [e2] at d
    exact hk.same l (rep_tup.mpr ⟨a, vs, rfl, e, q⟩) d
  · rename_i z
    obtain ⟨o, rfl⟩ := rep_str.mp p1
    refine sl_str pins s σ H _ v vl vu lo hi sl Q I rx hs pl pu ⟨_, rfl, by rw [sizeLine_eq]; simpa [Str.length] using o.1, ?_⟩
    have e : cutS ⟨z.toArray⟩ lo hi = ⟨(VM.slc z lo hi).toArray⟩ := by
      unfold cutS VM.slc
      rw [cutIx_eq, cutIx_eq]
      simp [Str.length]
    rw [e]
    refine hk.same l (rep_str.mpr ⟨⟨?_, fun c hc => o.2 c (List.mem_of_mem_drop (List.mem_of_mem_take hc))⟩, rfl⟩) d
    have := o.1
    rw [List.length_take, List.length_drop]
    omega
  · rename_i is
    obtain ⟨a, rfl, e⟩ := rep_scr.mp p1
    refine sl_list pins s σ H _ v vl vu lo hi sl Q I rx hs pl pu ⟨a, _, rfl, l.same.seqL e, hk.lst l (RepL.slc (repL_ints is) lo hi) d⟩
  · split at d
    · rename_i xs ea
      obtain ⟨a, vs, rfl, e, q⟩ := asL_rep l p1 ea
      exact sl_list pins s σ H _ v vl vu lo hi sl Q I rx hs pl pu ⟨a, vs, rfl, .inl (.inl e), hk.lst l (q.slc lo hi) d⟩
    · exact d.elim
end
end VS
end
section
namespace VS
open PySem PySem.Spec PyProof.Rows L2
open VM (PV SO Store)
section
variable {X : Cx} {a b c e : Expr} {ta tb tc te : VM.TE} {t1 t2 : VM.TT} {pos p2 p : Pos} {es rest : List Expr} {tas : VM.TA} {x : Str}
def KonO (K : PySem.W.Frag) (G F : Hp) (μ : List Addr) (k : Option Int → Store → Prop) (Q : Option Int → Hp → Prop) : Prop := ∀ (o : Option Int) (H' F' : Hp) (μ' : List Addr) (st' : Store), Ext F μ F' μ' → Lay K G F' μ' st' H' → k o st' → Q o H'
abbrev VTO := VM.Env → Store → (Option Int → Store → Prop) → VM.KV → Prop
def partOf : Option VM.TE → VTO
  | none => fun ρ st k x => k none st
  | some e => fun ρ st k x => e ρ st (fun v st => match v with | .int i => k (some i) st | _ => False) x
def rO (K : PySem.W.Frag) (t : VTO) : TO := fun σ H Q => ∃ G F μ ρ st k, Lay K G F μ st H ∧ EnvR K F μ σ ρ ∧ t ρ st k nox ∧ KonO K G F μ k Q
theorem vo_none : PO X none (rO X.K (partOf none)) := ⟨fun pins s σ H Q I h => po_none.run pins s σ H Q I (by
  obtain ⟨G, F, μ, ρ, st, k, l, r, d, hk⟩ := h
  exact hk none H F μ st Ext.refl l d)⟩
theorem vo_some (h : VE X e te) : PO X (some e) (rO X.K (partOf (some te))) := ⟨fun pins s σ H Q I q => (po_some h).run pins s σ H Q I (by
  obtain ⟨G, F, μ, ρ, st, k, l, r, d, hk⟩ := q
  refine bind1 l r d fun x H1 F1 μ1 px st1 e1 l1 r1 p1 q1 => ?_
  split at q1
  · obtain rfl := rep_int.mp p1
    exact ⟨_, rfl, hk _ H1 F1 μ1 st1 e1 l1 q1⟩
  · exact q1.elim)⟩
theorem ve_sl {lo hi : Option Expr} {tl th : Option VM.TE} (he : VE X e te) (hl : PO X lo (rO X.K (partOf tl))) (hh : PO X hi (rO X.K (partOf th))) : VE X (.Subscript e (.Slice lo hi none p2) pos) (VM.eSl te tl th) := pe_imp (pe_slice sl_dyn he hl hh) fun σ H Q h => by
  obtain ⟨G, F, μ, ρ, st, k, l, r, d, hk⟩ := h
  refine bind1 l r d fun x H1 F1 μ1 px st1 e1 l1 r1 p1 q1 => ?_
  refine ⟨G, F1, μ1, ρ, st1, fun lo st2 => partOf th ρ st2 (fun hi st3 => VM.getSl px lo hi st3 k) nox, l1, r1, ?_, ?_⟩
  · cases tl <;> cases th <;> exact q1
  · intro lo' H2 F2 μ2 st2 e2 l2 q2
    refine ⟨G, F2, μ2, ρ, st2, _, l2, r1.mono e2, q2, ?_⟩
    intro hi' H3 F3 μ3 st3 e3 l3 q3
    exact ⟨G, F3, μ3, st3, px, k, l3, p1.mono (e2.trans e3), q3, hk.mono (e1.trans (e2.trans e3))⟩

theorem ve_b1 {id : String} {r : List V → Hp → VK → Prop} {f : PV → Store → VM.KV → Prop} (hc : CallR X (.builtin id) r)
    (hf : ∀ G F μ st H px v k Q, Lay X.K G F μ st H → Rep X.K F μ px v → f px st k → Kon X.K G F μ k Q → r [v] H Q)
    (ha : VE X a ta) (hg : Gl X x) (hm : X.mg x = none) (hv : bootBuiltins x = some (.builtin id)) (hn : x ≠ "__name__" := by decide) (hdb : (x == ("__debug__" : Str)) = false := by decide)
    (he : starEach [a] X.env = (false, eval a X.env) :: starEach [] X.env := by rfl) : VE X (.Call (.Name x p) [a] [] pos) (VM.eB1 f ta) :=
  pe_imp (pe_callB hc hg hm hv (pa_cons ha pa_nil he) hn hdb he rfl) fun σ H Q h => by
    obtain ⟨G, F, μ, ρ, st, k, l, r, d, hk⟩ := h
    exact bind1 l r d fun x H1 F1 μ1 px st1 e1 l1 r1 p1 q1 => hf G F1 μ1 st1 H1 px x k Q l1 p1 q1 (hk.mono e1)
theorem ve_t1 {T : String} {r : List V → Hp → VK → Prop} {f : PV → Store → VM.KV → Prop} (hc : CallR X (.type T) r)
    (hf : ∀ G F μ st H px v k Q, Lay X.K G F μ st H → Rep X.K F μ px v → f px st k → Kon X.K G F μ k Q → r [v] H Q)
    (ha : VE X a ta) (hg : Gl X x) (hm : X.mg x = none) (hv : bootBuiltins x = some (.type T)) (hn : x ≠ "__name__" := by decide) (hdb : (x == ("__debug__" : Str)) = false := by decide)
    (he : starEach [a] X.env = (false, eval a X.env) :: starEach [] X.env := by rfl) : VE X (.Call (.Name x p) [a] [] pos) (VM.eB1 f ta) :=
  pe_imp (pe_callTy hc hg hm hv (pa_cons ha pa_nil he) hn hdb he rfl) fun σ H Q h => by
    obtain ⟨G, F, μ, ρ, st, k, l, r, d, hk⟩ := h
    exact bind1 l r d fun x H1 F1 μ1 px st1 e1 l1 r1 p1 q1 => hf G F1 μ1 st1 H1 px x k Q l1 p1 q1 (hk.mono e1)
theorem seqOf_rep {K : PySem.W.Frag} {G F : Hp} {μ : List Addr} {H : Hp} {st : Store} {px : PV} {v : V} {xs : List PV} (l : Lay K G F μ st H) (r : Rep K F μ px v) (h : VM.seqOf st px = some xs) : ∃ a vs, v = .ref a ∧ RepL K F μ xs vs ∧ ((∃ ys, px = .tup ys ∧ SqT K F a vs) ∨ ((¬ ∃ ys, px = .tup ys) ∧ H a = some (.lst vs))) := by
  by_cases hx : ∃ ys, px = .tup ys
  · obtain ⟨ys, rfl⟩ := hx
    cases h
    obtain ⟨a, vs, rfl, e, q⟩ := rep_tup.mp r
    exact ⟨a, vs, rfl, q, .inl ⟨_, rfl, e⟩⟩
  · have h' : VM.asL st px = some xs := by
      unfold VM.seqOf at h
      split at h
      · exact absurd ⟨_, rfl⟩ hx
      · exact h
    obtain ⟨a, vs, rfl, e, q⟩ := asL_rep l r h'
    exact ⟨a, vs, rfl, q, .inr ⟨hx, e⟩⟩
theorem f_len {G F : Hp} {μ : List Addr} {st : Store} {H : Hp} {px : PV} {v : V} {k : VM.KV} {Q : VK} (l : Lay X.K G F μ st H) (r : Rep X.K F μ px v) (d : VM.fLen px st k) (hk : Kon X.K G F μ k Q) :
    (fun xs H Q => (∃ x n, xs = [x] ∧ LenV X.K x H n ∧ Q (.int n) H) ∨ (∃ a kvs, xs = [V.ref a] ∧ H a = some (.dK kvs) ∧ Q (.int kvs.length) H)) [v] H Q := by
  unfold VM.fLen at d
  split at d
  · rename_i n en
    have fin : ∀ {m : Nat}, m = n → Q (.int m) H := fun e => hk.same l (rep_int.mpr (by rw [e])) d
    cases px <;> simp only [VM.bLen, VM.asL] at en <;> try (cases en; done)
    case str s =>
      cases en
      obtain ⟨o, rfl⟩ := rep_str.mp r
      exact .inl ⟨_, _, rfl, ⟨by rw [sizeLine_eq]; simpa [Str.length] using o.1, rfl⟩, fin (by simp [Str.length])⟩
    case tup xs =>
      cases en
      obtain ⟨a, vs, rfl, e, q⟩ := rep_tup.mp r
      exact .inl ⟨_, _, rfl, .inr ⟨vs, l.same.seqT e, rfl⟩, fin q.length⟩
    case lst xs =>
      cases en
      obtain ⟨a, vs, rfl, e, q⟩ := rep_lst.mp r
      exact .inl ⟨_, _, rfl, .inl ⟨vs, .inl (.inl (l.same _ _ e)), rfl⟩, fin q.length⟩
    case dct ks xs =>
      cases en
      unfold Rep at r
      obtain ⟨a, kvs, rfl, e, rfl, _⟩ := r
      exact .inr ⟨a, kvs, rfl, l.same _ _ e, fin (by simp)⟩
    case dctT => unfold Rep at r; exact r.elim
    case ref i =>
      obtain ⟨a, h1, rfl⟩ := rep_ref.mp r
      cases eo : st[i]? with
      | none => simp [eo] at en
      | some o =>
        rw [eo] at en
        have ho := l.obj i a o h1 eo
        cases o with
        | lst xs =>
          cases en
          obtain ⟨_, vs, h2, q⟩ := ho
          exact .inl ⟨_, _, rfl, .inl ⟨vs, .inl (.inl h2), rfl⟩, fin q.length⟩
        | dct ks xs =>
          cases en
          obtain ⟨_, kvs, h2, rfl, q⟩ := ho
          exact .inr ⟨a, kvs, rfl, h2, fin (by simp)⟩
        | dctT => exact ho.elim
        | ins => exact ho.elim
        | dead => simp at en
  · exact d.elim
theorem ve_len (ha : VE X a ta) (hg : Gl X "len") (hm : X.mg "len" = none) (he : starEach [a] X.env = (false, eval a X.env) :: starEach [] X.env := by rfl) : VE X (.Call (.Name "len" p) [a] [] pos) (VM.eB1 VM.fLen ta) :=
  ve_b1 (call_len.or call_lenD) (fun G F μ st H px v k Q l r d hk => f_len l r d hk) ha hg hm PySem.boot_len (he := he)
theorem ve_abs (ha : VE X a ta) (hg : Gl X "abs") (hm : X.mg "abs" = none) (he : starEach [a] X.env = (false, eval a X.env) :: starEach [] X.env := by rfl) : VE X (.Call (.Name "abs" p) [a] [] pos) (VM.eB1 VM.fAbs ta) :=
  ve_b1 call_abs (fun G F μ st H px v k Q l r d hk => by
    unfold VM.fAbs at d
    split at d
    · rename_i i
      obtain rfl := rep_int.mp r
      refine ⟨i, rfl, hk.same l (rep_int.mpr ?_) d⟩
      congr 1
      split <;> omega
    · exact d.elim) ha hg hm boot_abs (he := he)
theorem ve_int_ (ha : VE X a ta) (hg : Gl X "int") (hm : X.mg "int" = none) (he : starEach [a] X.env = (false, eval a X.env) :: starEach [] X.env := by rfl) : VE X (.Call (.Name "int" p) [a] [] pos) (VM.eB1 VM.fInt ta) :=
  ve_t1 call_int1 (fun G F μ st H px v k Q l r d hk => by
    unfold VM.fInt at d
    split at d
    · rename_i i
      obtain rfl := rep_int.mp r
      exact .inl ⟨i, rfl, hk.same l (rep_int.mpr rfl) d⟩
    · rename_i i
      obtain rfl := rep_bl.mp r
      exact .inr ⟨i, rfl, hk.same l (rep_int.mpr rfl) d⟩
    · exact d.elim) ha hg hm boot_int (he := he)
theorem ve_list (ha : VE X a ta) (hg : Gl X "list") (hm : X.mg "list" = none) (he : starEach [a] X.env = (false, eval a X.env) :: starEach [] X.env := by rfl) : VE X (.Call (.Name "list" p) [a] [] pos) (VM.eB1 VM.fList ta) :=
  ve_t1 call_list_of (fun G F μ st H px v k Q l r d hk => by
    unfold VM.fList at d
    split at d
    · rename_i xs ex
      obtain ⟨a, vs, rfl, q, h⟩ := seqOf_rep l r ex
      refine ⟨a, vs, rfl, ?_, hk.lst l q d⟩
      rcases h with ⟨_, _, h⟩ | ⟨_, h⟩
      · exact .inr (l.same.seqT h)
      · exact .inl (.inl (.inl h))
    · exact d.elim) ha hg hm boot_list (he := he)
theorem ve_listM (ha : VE X a ta) (hg : Gl X "list") (hm : X.mg "list" = none) (he : starEach [a] X.env = (false, eval a X.env) :: starEach [] X.env := by rfl) : VE X (.Call (.Name "list" p) [a] [] pos) (VM.eB1 VM.fListM ta) :=
  ve_t1 call_list_of (fun G F μ st H px v k Q l r d hk => by
    unfold VM.fListM at d
    split at d
    · rename_i xs ex
      obtain ⟨a, vs, rfl, q, h⟩ := seqOf_rep l r ex
      refine ⟨a, vs, rfl, ?_, hk.lstM l q d⟩
      rcases h with ⟨_, _, h⟩ | ⟨_, h⟩
      · exact .inr (l.same.seqT h)
      · exact .inl (.inl (.inl h))
    · exact d.elim) ha hg hm boot_list (he := he)
theorem ve_tuple (ha : VE X a ta) (hg : Gl X "tuple") (hm : X.mg "tuple" = none) (he : starEach [a] X.env = (false, eval a X.env) :: starEach [] X.env := by rfl) : VE X (.Call (.Name "tuple" p) [a] [] pos) (VM.eB1 VM.fTuple ta) :=
  ve_t1 call_tuple_of (fun G F μ st H px v k Q l r d hk => by
    unfold VM.fTuple at d
    split at d
    · rename_i xs ex
      obtain ⟨a, vs, rfl, q, h⟩ := seqOf_rep l r ex
      rcases h with ⟨ys, rfl, h⟩ | ⟨_, h⟩
      · cases ex
        exact ⟨a, vs, rfl, .inr ⟨l.same.seqT h, hk.same l (rep_tup.mpr ⟨a, vs, rfl, h, q⟩) d⟩⟩
      · exact ⟨a, vs, rfl, .inl ⟨.inl (.inl h), hk.tup l q d⟩⟩
    · exact d.elim) ha hg hm boot_tuple (he := he)
theorem allInt_rep {K : PySem.W.Frag} {F : Hp} {μ : List Addr} : ∀ {xs : List PV} {is : List Int} {vs : List V}, VM.allInt xs = some is → RepL K F μ xs vs → vs = is.map V.int
  | [], is, vs, h, r => by
    cases h
    rw [repL_nil.mp r]
    rfl
  | x :: xs, is, vs, h, r => by
    obtain ⟨v, w, rfl, r1, r2⟩ := repL_cons.mp r
    cases x <;> simp only [VM.allInt] at h <;> try (cases h; done)
    rename_i i
    rw [Option.map_eq_some_iff] at h
    obtain ⟨js, h1, rfl⟩ := h
    rw [rep_int.mp r1, allInt_rep h1 r2]
    rfl
theorem allBl_rep {K : PySem.W.Frag} {F : Hp} {μ : List Addr} : ∀ {xs : List PV} {is : List Bool} {vs : List V}, VM.allBl xs = some is → RepL K F μ xs vs → vs = is.map V.bl
  | [], is, vs, h, r => by
    cases h
    rw [repL_nil.mp r]
    rfl
  | x :: xs, is, vs, h, r => by
    obtain ⟨v, w, rfl, r1, r2⟩ := repL_cons.mp r
    cases x <;> simp only [VM.allBl] at h <;> try (cases h; done)
    rename_i i
    rw [Option.map_eq_some_iff] at h
    obtain ⟨js, h1, rfl⟩ := h
    rw [rep_bl.mp r1, allBl_rep h1 r2]
    rfl
theorem boot_sum' : bootBuiltins "sum" = some (.builtin "sum") := by decide +kernel
theorem boot_all' : bootBuiltins "all" = some (.builtin "all") := by decide +kernel
theorem boot_any' : bootBuiltins "any" = some (.builtin "any") := by decide +kernel
theorem ve_sum (hc : X.calm = true) (ha : VE X a ta) (hg : Gl X "sum") (hm : X.mg "sum" = none) (he : starEach [a] X.env = (false, eval a X.env) :: starEach [] X.env := by rfl) : VE X (.Call (.Name "sum" p) [a] [] pos) (VM.eB1 VM.fSum ta) :=
  ve_b1 (cr_sum hc) (fun G F μ st H px v k Q l r d hk => by
    unfold VM.fSum at d
    split at d
    · rename_i xs ex
      split at d
      · rename_i is ei
        obtain ⟨a, vs, rfl, e, q⟩ := asL_rep l r ex
        rw [allInt_rep ei q] at e
        exact ⟨a, is, rfl, .inl (.inl e), hk.same l (rep_int.mpr rfl) d⟩
      · exact d.elim
    · exact d.elim) ha hg hm boot_sum' (he := he)
theorem ve_all (hc : X.calm = true) (ha : VE X a ta) (hg : Gl X "all") (hm : X.mg "all" = none) (he : starEach [a] X.env = (false, eval a X.env) :: starEach [] X.env := by rfl) : VE X (.Call (.Name "all" p) [a] [] pos) (VM.eB1 VM.fAll ta) :=
  ve_b1 (cr_all hc) (fun G F μ st H px v k Q l r d hk => by
    unfold VM.fAll at d
    split at d
    · rename_i xs ex
      split at d
      · rename_i is ei
        obtain ⟨a, vs, rfl, e, q⟩ := asL_rep l r ex
        rw [allBl_rep ei q] at e
        exact ⟨a, is, rfl, .inl (.inl e), hk.same l (rep_bl.mpr rfl) d⟩
      · exact d.elim
    · exact d.elim) ha hg hm boot_all' (he := he)
theorem ve_any (hc : X.calm = true) (ha : VE X a ta) (hg : Gl X "any") (hm : X.mg "any" = none) (he : starEach [a] X.env = (false, eval a X.env) :: starEach [] X.env := by rfl) : VE X (.Call (.Name "any" p) [a] [] pos) (VM.eB1 VM.fAny ta) :=
  ve_b1 (cr_any hc) (fun G F μ st H px v k Q l r d hk => by
    unfold VM.fAny at d
    split at d
    · rename_i xs ex
      split at d
      · rename_i is ei
        obtain ⟨a, vs, rfl, e, q⟩ := asL_rep l r ex
        rw [allBl_rep ei q] at e
        exact ⟨a, is, rfl, .inl (.inl e), hk.same l (rep_bl.mpr rfl) d⟩
      · exact d.elim
    · exact d.elim) ha hg hm boot_any' (he := he)

def kdS : VM.Kd → String
  | .non => "NoneType" | .bool => "bool" | .int => "int" | .str => "str" | .list => "list" | .tuple => "tuple" | .dict => "dict" | .other => ""
def tyS : VM.Ty → String
  | .int => "int" | .bool => "bool" | .str => "str" | .list => "list" | .tuple => "tuple" | .dict => "dict"
theorem kit_all : ([.non, .bool, .int, .str, .list, .tuple, .dict] : List VM.Kd).all (fun k => ([.int, .bool, .str, .list, .tuple, .dict] : List VM.Ty).all fun t => decide (kitB (kdS k) (tyS t) = some (VM.kdIs k t))) = true := by decide +kernel
theorem kit_is {K : PySem.W.Frag} (k : VM.Kd) (t : VM.Ty) (h : k ≠ .other) : PySem.W.kitOne K (.type (kdS k)) (.type (tyS t)) = some (VM.kdIs k t) := by
  refine kit_ty ?_
  have q := kit_all
  rw [List.all_eq_true] at q
  have q1 := q k (by cases k <;> first | exact absurd rfl h | simp)
  rw [List.all_eq_true] at q1
  exact of_decide_eq_true (q1 t (by cases t <;> simp))
theorem kd_rep {K : PySem.W.Frag} {G F : Hp} {μ : List Addr} {H : Hp} {st : Store} {px : PV} {v : V} (l : Lay K G F μ st H) (r : Rep K F μ px v) (h : VM.kdOf st px ≠ .other) : TyX K H v (.type (kdS (VM.kdOf st px))) := by
  cases px <;> simp only [VM.kdOf] at h ⊢ <;> try (exact absurd rfl h)
  case non => rw [rep_non.mp r]; exact .base .non
  case bl => rw [rep_bl.mp r]; exact .base (.bl _)
  case int => rw [rep_int.mp r]; exact .base (.int _)
  case str => rw [(rep_str.mp r).2]; exact .base (.str _)
  case tup =>
    obtain ⟨a, vs, rfl, e, q⟩ := rep_tup.mp r
    rcases l.same.seqT e with (e | ⟨o, e⟩) | ⟨o, its, n, e, c, _⟩
    · exact .base (.tup e)
    · exact .fTuple e
    · exact .kTuple e c
  case lst =>
    obtain ⟨a, vs, rfl, e, q⟩ := rep_lst.mp r
    exact .base (.lst (l.same _ _ e))
  case dct =>
    unfold Rep at r
    obtain ⟨a, kvs, rfl, e, rfl, _⟩ := r
    exact .base (.dK (l.same _ _ e))
  case dctT => unfold Rep at r; exact r.elim
  case ref i =>
    obtain ⟨a, h1, rfl⟩ := rep_ref.mp r
    cases eo : st[i]? with
    | none => rw [eo] at h; exact absurd rfl h
    | some o =>
      rw [eo] at h
      have ho := l.obj i a o h1 eo
      cases o with
      | lst xs =>
        obtain ⟨_, vs, h2, q⟩ := ho
        exact .base (.lst h2)
      | dct ks xs =>
        obtain ⟨_, kvs, h2, rfl, q⟩ := ho
        exact .base (.dK h2)
      | dctT => exact ho.elim
      | ins => exact ho.elim
      | dead => exact absurd rfl h
/-- the name of a built-in type -/
theorem ve_ty {T : String} (hg : Gl X x) (hm : X.mg x = none) (hv : bootBuiltins x = some (.type T)) (hn : x ≠ "__name__" := by decide) (hd : (x == ("__debug__" : Str)) = false := by decide) : PE X (.Name x pos) (tC (.ty T)) := pe_bltn hg hm hv rfl hn hd
theorem boot_bool' : bootBuiltins "bool" = some (.type "bool") := boot_bool
theorem ve_isi {T : VM.Ty} {cx : Expr} (ha : VE X a ta) (hc : PE X cx (tC (.ty (tyS T)))) (hg : Gl X "isinstance") (hm : X.mg "isinstance" = none)
    (he : starEach [a, cx] X.env = (false, eval a X.env) :: starEach [cx] X.env := by rfl) (he2 : starEach [cx] X.env = (false, eval cx X.env) :: starEach [] X.env := by rfl) (hpl : (backTo pos (starEach [cx] X.env)).any (·.1) = false := by rfl) :
    VE X (.Call (.Name "isinstance" p) [a, cx] [] pos) (VM.eB1 (VM.fIsi [T]) ta) :=
  pe_imp (pe_callB call_isi hg hm boot_isinstance (pa_cons ha (pa_cons hc pa_nil he2) he) (he := he) (hpl := hpl)) fun σ H Q h => by
    obtain ⟨G, F, μ, ρ, st, k, l, r, d, hk⟩ := h
    refine bind1 l r d fun v H1 F1 μ1 px st1 e1 l1 r1 p1 q1 => ?_
    obtain ⟨h1, q1⟩ := q1
    refine ⟨v, _, _, _, _, rfl, .ty _, kd_rep l1 p1 h1, kit_is _ _ h1, ?_⟩
    refine (hk.mono e1).same l1 (rep_bl.mpr rfl) ?_
    simpa using q1
/-- the names of built-in types in a tuple -/
inductive TyEs (X : Cx) : List Expr → List VM.Ty → Prop where
  | nil : TyEs X [] []
  | cons {c : Expr} {cs : List Expr} {T : VM.Ty} {Ts : List VM.Ty} (h : PE X c (tC (.ty (tyS T)))) (t : TyEs X cs Ts) (hs : starEach (c :: cs) X.env = (false, eval c X.env) :: starEach cs X.env) : TyEs X (c :: cs) (T :: Ts)
theorem TyEs.pa {cs : List Expr} {Ts : List VM.Ty} (h : TyEs X cs Ts) : PA X cs (fun _ H Q => Q (Ts.map fun T => V.ty (tyS T)) H) := by
  induction h with
  | nil => exact pa_imp pa_nil fun _ _ _ q => q
  | cons h t hs ih => exact pa_imp (pa_cons h ih hs) fun _ _ _ q => q
theorem kit_any {K : PySem.W.Frag} (k : VM.Kd) (h : k ≠ .other) : ∀ Ts : List VM.Ty, PySem.W.kitAny K (.type (kdS k)) (Ts.map fun T => Value.type (tyS T)) = some (Ts.any (VM.kdIs k))
  | [] => rfl
  | T :: Ts => kitAny_cons (kit_is k T h) (fun e => by rw [List.any_cons, e, Bool.false_or]; exact kit_any k h Ts) (fun e => by rw [List.any_cons, e, Bool.true_or])
theorem clsV_all : ∀ Ts : List VM.Ty, Paired ClsV (Ts.map fun T => V.ty (tyS T)) (Ts.map fun T => Value.type (tyS T))
  | [] => .nil
  | T :: Ts => .cons (.ty _) (clsV_all Ts)
theorem ve_isiT {Ts : List VM.Ty} {cs : List Expr} {kt : Nat} {pt : Pos} (ha : VE X a ta) (hc : TyEs X cs Ts) (hl : Ts.length ≤ 100) (hg : Gl X "isinstance") (hm : X.mg "isinstance" = none)
    (he : starEach [a, .Tuple cs kt pt] X.env = (false, eval a X.env) :: starEach [.Tuple cs kt pt] X.env := by rfl) :
    VE X (.Call (.Name "isinstance" p) [a, .Tuple cs kt pt] [] pos) (VM.eB1 (VM.fIsi Ts) ta) :=
  pe_imp (pe_callB call_isiT hg hm boot_isinstance (pa_cons ha (pa_cons (pe_tup hc.pa) pa_nil) he) (he := he) (hpl := rfl)) fun σ H Q h => by
    obtain ⟨G, F, μ, ρ, st, k, l, r, d, hk⟩ := h
    refine bind1 l r d fun v H1 F1 μ1 px st1 e1 l1 r1 p1 q1 => ?_
    obtain ⟨h1, q1⟩ := q1
    refine ⟨by rw [sizeLine_eq, List.length_map]; omega, fun q hq => ?_⟩
    have l2 := l1.new (p := q) (o := .tup (Ts.map fun T => V.ty (tyS T))) hq
    have e2 := ext_upd (o := .tup (Ts.map fun T => V.ty (tyS T))) l1 hq
    refine ⟨v, q, _, _, _, _, rfl, upd_same, clsV_all Ts, kd_rep l2 (p1.mono e2) h1, kit_any _ h1 Ts, ?_⟩
    exact (hk.mono (e1.trans e2)).same l2 (rep_bl.mpr rfl) q1
end
end VS
end
section
namespace VS
open PySem PySem.Spec PyProof.Rows L2
def SqB (b : Bool) (K : PySem.W.Frag) (H : Hp) (a : Addr) (xs : List V) : Prop := match b with
  | true => SqL K H a xs
  | false => SqT K H a xs
def ItB (b : Bool) (h : Heap) (it a : Addr) (i : Nat) : Prop := match b with
  | true => h.IsListIter it a i
  | false => h.IsTupleIter it a i
def StB (b : Bool) (its : Array Value) (it a : Addr) (i : Nat) (h : Heap) : Prop := match b with
  | true => h.IsListIter it a i ∧ h.IsList a its
  | false => h.IsTupleIter it a i ∧ h.IsTuple a its
theorem ItB.at {b : Bool} {h h' : Heap} {it a : Addr} {i : Nat} (x : ItB b h it a i) (k : ∀ o, h.get? it = some o → h'.get? it = some o) : ItB b h' it a i := by
  cases b with
  | true => exact Heap.IsListIter.at x k
  | false => exact Heap.IsTupleIter.at x k
theorem ItB.ob {b : Bool} {h : Heap} {it a : Addr} {i : Nat} (x : ItB b h it a i) : ∃ o, h.get? it = some o ∧ ∀ v, o.data ≠ .cell v := by
  cases b with
  | true =>
    obtain ⟨o, e, _, d⟩ := x
    exact ⟨o, e, fun v q => by rw [d] at q; cases q⟩
  | false =>
    obtain ⟨o, e, _, d⟩ := x
    exact ⟨o, e, fun v q => by rw [d] at q; cases q⟩
theorem drawsB (b : Bool) {prog : Program} {w : World} {A : Around} (hh : A.handled = none) (it a : Addr) (hne : a ≠ it) (its : Array Value) : Draws prog w A it [it, a] its.size (fun i v => its[i]? = some v) (StB b its it a) := by
  cases b with
  | true => exact Draws.list hh it a hne its
  | false => exact Draws.tuple hh it a hne its
def obB (b : Bool) (a : Addr) : Obj := match b with
  | true => { cls := .type "list_iterator", data := .fields #[.ref a, .int 0 0] }
  | false => { cls := .type "tuple_iterator", data := .fields #[.ref a, .int 0 0] }
def hpB (b : Bool) (a : Addr) (its : Array Value) (h : Heap) : Prop := match b with
  | true => h.IsList a its
  | false => h.IsTuple a its
theorem seqB {X : Cx} {pins : List (Addr × Obj)} {σ : L2.St} {H : Hp} {s : Shared} {b : Bool} {a : Addr} {xs : List V} (I : Inv X pins σ H s) (h : SqB b X.K H a xs) :
    ∃ its : List Value, Vals xs its ∧ (∀ it i, ItB b s.heap it a i → StB b its.toArray it a i s.heap) ∧ a < s.heap.objs.size ∧ hpB b a its.toArray s.heap := by
  cases b with
  | true =>
    obtain ⟨its, r, p, _⟩ := I.list h
    exact ⟨its, r, fun it i q => ⟨q, p.isList⟩, p.lt, p.isList⟩
  | false =>
    obtain ⟨its, r, p, _⟩ := I.tuple h
    exact ⟨its, r, fun it i q => ⟨q, p⟩, p.lt, p⟩
theorem seqB_inj {X : Cx} {pins : List (Addr × Obj)} {σ : L2.St} {H : Hp} {s : Shared} {b : Bool} {a : Addr} {xs ys : List V} (I : Inv X pins σ H s) (h : SqB b X.K H a xs) (h' : SqB b X.K H a ys) : xs = ys := by
  cases b with
  | true => exact I.list_inj h h'
  | false => exact I.tuple_inj h h'
theorem StB.it {b : Bool} {its : Array Value} {it a : Addr} {i : Nat} {h : Heap} (x : StB b its it a i h) : ItB b h it a i := by
  cases b with
  | true => exact x.1
  | false => exact x.1
def ItzB (b1 b2 : Bool) (K : PySem.W.Frag) (a b : Addr) : It :=
  ⟨fun i H => ∃ (xs ys : List V) (x y : V), SqB b1 K H a xs ∧ SqB b2 K H b ys ∧ xs[i]? = some x ∧ ys[i]? = some y,
    fun i H v H' => ∃ T x y, v = .ref T ∧ H T = none ∧ H' = upd H T (.tup [x, y]) ∧ (∀ xs, SqB b1 K H a xs → xs[i]? = some x) ∧ ∀ ys, SqB b2 K H b ys → ys[i]? = some y,
    fun i H => ∃ xs ys : List V, SqB b1 K H a xs ∧ SqB b2 K H b ys ∧ i = min xs.length ys.length⟩
theorem turn_zipB {P : Program} {w : World} {K : PySem.W.Frag} {elts : List Expr} {kk : Nat} {tpos : Pos} {b1 b2 : Bool} {a b z TI TO i1 i2 : Addr} (D : ZipSep2 z TI TO i1 i2 [i1, a] [i2, b]) (hfree : a ≠ i1) (hfree2 : b ≠ i2) :
    Turn P w K (.Tuple elts kk tpos) (ItzB b1 b2 K a b) [z, TI, TO, i1, i2] z (fun i h => IsZip h z TI TO .none ∧ IsTupOf2 h TI (.ref i1) (.ref i2) ∧ (∃ x y, IsTupOf2 h TO x y) ∧ ItB b1 h i1 a i ∧ ItB b2 h i2 b i) where
  mem := by simp
  obj := fun i h st c hc => by
    obtain ⟨hz, hTI, ⟨x, y, hTO⟩, h1, h2⟩ := st
    have e' : c = z ∨ c = TI ∨ c = TO ∨ c = i1 ∨ c = i2 := by simpa using hc
    rcases e' with q | q | q | q | q
    · rw [q]; exact ⟨_, hz, fun v q => nomatch q⟩
    · rw [q]; exact ⟨_, hTI, fun v q => nomatch q⟩
    · rw [q]; exact ⟨_, hTO, fun v q => nomatch q⟩
    · rw [q]; exact h1.ob
    · rw [q]; exact h2.ob
  keep := fun i h h' st k => by
    obtain ⟨hz, hTI, ⟨x, y, hTO⟩, h1, h2⟩ := st
    exact ⟨k z (by simp) _ hz, k TI (by simp) _ hTI, ⟨x, y, k TO (by simp) _ hTO⟩, h1.at fun o q => k i1 (by simp) o q, h2.at fun o q => k i2 (by simp) o q⟩
  item := by
    intro X hP hw hK hc i pins s σ H E I hf st hg
    subst hP hw hK
    obtain ⟨hz, hTI, ⟨x0, y0, hTO⟩, h1, h2⟩ := st
    obtain ⟨xs, ys, x, y, hqx, hqy, hx, hy⟩ := hg
    obtain ⟨its, rv, p, _⟩ := seqB I hqx
    obtain ⟨its2, rv2, p2, _⟩ := seqB I hqy
    obtain ⟨u, hu, ru⟩ := rv.get hx
    obtain ⟨u2, hu2, ru2⟩ := rv2.get hy
    have hzl : z < s.heap.objs.size := Heap.lt_size hz
    have hh : X.A.in1.handled = none := I.ok.hd hc
    have hi1 : i < its.toArray.size := by simpa using (List.getElem?_eq_some_iff.mp hu).1
    have hi2 : i < its2.toArray.size := by simpa using (List.getElem?_eq_some_iff.mp hu2).1
    refine wpAny_pyNext_zipD2_item D (drawsB b1 hh i1 a hfree its.toArray) (drawsB b2 hh i2 b hfree2 its2.toArray) hz hTI hTO (p i1 i h1) (p2 i2 i h2) hi1 hi2 fun w1 w2 h' tk y1 y2 z' TO' h1' h2' hT hsz hk => ?_
    obtain rfl : w1 = u := by
      have q : its[i]? = some w1 := by simpa using y1
      rw [hu] at q
      exact (Option.some.inj q).symm
    obtain rfl : w2 = u2 := by
      have q : its2[i]? = some w2 := by simpa using y2
      rw [hu2] at q
      exact (Option.some.inj q).symm
    refine ⟨_, rfl, wpAny_letOwnedTupleGo_zip (s := { s with heap := h', toks := tk }) z' fun h'' z'' sb => ?_⟩
    have hT2 : h''.get? s.heap.objs.size = some { cls := .type "tuple", data := .seq #[w1, w2] } := (sb.2 _ (Nat.ne_of_gt hzl)).trans hT
    have new : ObjOk X.prog X.w (upd H s.heap.objs.size (.tup [x, y])) h'' s.heap.objs.size (.tup [x, y]) :=
      ⟨by show 2 ≤ sizeLine; decide, [w1, w2], .cons ru (.cons ru2 .nil), ⟨_, hT2, rfl, _, rfl⟩⟩
    have I1 : Inv X pins σ (upd H s.heap.objs.size (.tup [x, y])) { s with heap := h'', toks := tk } :=
      I.turnedNew (t' := tk) (ch := [z, TI, TO, i1, i2]) (fun c o hb q => (sb.2 c (fun q' => hb (by simp [q']))).trans (hk c o (fun q' => hb (by simp [q'])) (fun q' => hb (by simp [q'])) (fun q' => hb (by simp [q'])) (fun q' => hb (by simp [q'])) q)) hf (Nat.le_refl _) new
    refine ⟨.ref s.heap.objs.size, _, I1, rfl, ⟨_, x, y, rfl, I.hok.fresh (Nat.le_refl _), rfl, fun l hl => by rw [seqB_inj I hl hqx]; exact hx, fun l hl => by rw [seqB_inj I hl hqy]; exact hy⟩, ⟨z'', ?_, ⟨w1, w2, ?_⟩, ?_, ?_⟩, fun c hcm => ?_⟩
    · exact (sb.2 _ D.TIz).trans (hk _ _ D.TIz D.TITO D.TIi1 D.TIi2 hTI)
    · exact (sb.2 _ D.TOz).trans TO'
    · exact h1'.it.at fun o q => (sb.2 _ (Ne.symm D.zi1)).trans q
    · exact h2'.it.at fun o q => (sb.2 _ (Ne.symm D.zi2)).trans q
    · have hlt : c < s.heap.objs.size := by
        have e' : c = z ∨ c = TI ∨ c = TO ∨ c = i1 ∨ c = i2 := by simpa using hcm
        rcases e' with q | q | q | q | q
        · rw [q]; exact hzl
        · rw [q]; exact Heap.lt_size hTI
        · rw [q]; exact Heap.lt_size hTO
        · rw [q]; obtain ⟨_, e1, _⟩ := h1.ob; exact Heap.lt_size e1
        · rw [q]; obtain ⟨_, e2, _⟩ := h2.ob; exact Heap.lt_size e2
      rw [upd_ne (Nat.ne_of_lt hlt)]
      exact (hf c hcm).1
  done := by
    intro X hP hw hK hc i pins s σ H E I hf st hg
    subst hP hw hK
    obtain ⟨hz, hTI, ⟨x0, y0, hTO⟩, h1, h2⟩ := st
    obtain ⟨xs, ys, hqx, hqy, hend⟩ := hg
    obtain ⟨its, rv, p, _⟩ := seqB I hqx
    obtain ⟨its2, rv2, p2, _⟩ := seqB I hqy
    have l1 := rv.length
    have l2 := rv2.length
    have hh : X.A.in1.handled = none := I.ok.hd hc
    exact wpAny_pyNext_zipD2_end D (drawsB b1 hh i1 a hfree its.toArray) (drawsB b2 hh i2 b hfree2 its2.toArray) hz hTI hTO (p i1 i h1) (p2 i2 i h2) (by simp; omega) (by simp; omega) (by simp; omega) fun h' tk hk => ⟨rfl, I.turnedL (t' := tk) (ch := [z, TI, TO, i1, i2]) (fun c o hb q =>
      hk c o (fun q' => hb (by simp [q'])) (fun q' => hb (by simp [q'])) (fun q' => hb (by simp [q'])) (fun q' => hb (by simp [q'])) q) hf⟩
  self := fun A i s Q E st h => wpAny_pyIter_zip st.1 h
theorem beginsB (b : Bool) (a : Addr) (its : Array Value) : Begins (.ref a) (obB b a) (hpB b a its) := by
  cases b with
  | true => exact begins_list a its
  | false => exact begins_tuple a its
theorem itB_of {b : Bool} {h : Heap} {it a : Addr} (e : h.get? it = some (obB b a)) : ItB b h it a 0 := by
  cases b with
  | true => exact ⟨_, e, rfl, rfl⟩
  | false => exact ⟨_, e, rfl, rfl⟩
def iZipB (K : PySem.W.Frag) (ta : TA) : TI := fun σ H R => ta σ H fun vs H1 => ∃ a b xs ys b1 b2, vs = [.ref a, .ref b] ∧ SqB b1 K H1 a xs ∧ SqB b2 K H1 b ys ∧ R (ItzB b1 b2 K a b) H1
theorem pi_zipB {X : Cx} {e e2 : Expr} {ta : TA} {p pos tpos : Pos} {elts : List Expr} {kk : Nat} (hg : Gl X "zip") (hm : X.mg "zip" = none) (ha : PA X [e, e2] ta)
    (hs : starEach [e, e2] X.env = (false, eval e X.env) :: starEach [e2] X.env := by rfl) (hpl : (backTo pos (starEach [e2] X.env)).any (·.1) = false := by rfl) :
    PI X (.Tuple elts kk tpos) (.Call (.Name "zip" p) [e, e2] [] pos) (iZipB X.K ta) := by
  refine ⟨fun pins s σ H R I h => ?_⟩
  refine Call_ (ld_blt I hg hm PyProof.Rows.boot_zip (PyProof.Rows.callWith_type1 (thn (ha.run pos pins s σ H _ I h) fun us s1 ⟨vs, H1, I1, r1, q1⟩ => ?_) hs hpl))
  obtain ⟨a, b, xs, ys, b1, b2, ex, hqx, hqy, q⟩ := q1
  subst ex
  cases r1 with
  | cons r rr =>
    cases rr with
    | cons r' rr =>
      cases rr
      cases r
      cases r'
      obtain ⟨its, rv, p1, la, g1⟩ := seqB I1 hqx
      obtain ⟨its2, rv2, p2, lb, g2⟩ := seqB I1 hqy
      refine zip_begins2 (beginsB b1 a its.toArray) (beginsB b2 b its2.toArray) g1 g2 fun h' hz hTI hTO h1 h2 hsz hk => wpAny_pyIter_zip hz ?_
      have I2 : Inv X pins σ H1 { s1 with heap := h' } := I1.kept (t' := s1.toks) hk
      have S := zip_sep2 (N := s1.heap.objs.size) (fp1 := [a]) (fp2 := [b]) (fun c hc => (List.mem_singleton.mp hc) ▸ la) (fun c hc => (List.mem_singleton.mp hc) ▸ lb)
      refine ⟨s1.heap.objs.size + 4, [s1.heap.objs.size + 4, s1.heap.objs.size + 2, s1.heap.objs.size + 3, s1.heap.objs.size, s1.heap.objs.size + 1], _, _, H1, rfl, I2, turn_zipB S (Nat.ne_of_lt la) (Nat.ne_of_lt (Nat.lt_succ_of_lt lb)), ⟨hz, hTI, ⟨_, _, hTO⟩, itB_of h1, itB_of h2⟩, fun c hcm => ?_, q⟩
      have e' : c = s1.heap.objs.size + 4 ∨ c = s1.heap.objs.size + 2 ∨ c = s1.heap.objs.size + 3 ∨ c = s1.heap.objs.size ∨ c = s1.heap.objs.size + 1 := by simpa using hcm
      have hle : s1.heap.objs.size ≤ c := by
        rcases e' with z | z | z | z | z
        · rw [z]; exact Nat.le_add_right _ _
        · rw [z]; exact Nat.le_add_right _ _
        · rw [z]; exact Nat.le_add_right _ _
        · rw [z]; exact Nat.le_refl _
        · rw [z]; exact Nat.le_add_right _ _
      exact I1.fpOk hle (I1.hok.fresh hle)
end VS
end
section
namespace VS
open PySem PySem.Spec PyProof.Rows L2
open VM (PV SO Store)
/-- an iterator gives these items, while what must stay stays -/
structure Wlk (K : PySem.W.Frag) (J : It) (F : Hp) (μ : List Addr) (xs : List PV) (stay : Store → Prop) : Prop where
  goes : ∀ (G H F' : Hp) (μ' : List Addr) (st : Store) (i : Nat), Ext F μ F' μ' → Lay K G F' μ' st H → stay st → i < xs.length → J.go i H
  stops : ∀ (G H F' : Hp) (μ' : List Addr) (st : Store), Ext F μ F' μ' → Lay K G F' μ' st H → stay st → J.stop xs.length H
  yields : ∀ (G H F' : Hp) (μ' : List Addr) (st : Store) (i : Nat) (x : PV) (v : V) (H2 : Hp), Ext F μ F' μ' → Lay K G F' μ' st H → stay st → xs[i]? = some x → J.yld i H v H2 →
    ∃ F2, Ext F' μ' F2 μ' ∧ Lay K G F2 μ' st H2 ∧ Rep K F2 μ' x v
def KonI (K : PySem.W.Frag) (G F : Hp) (μ : List Addr) (k : List PV → (Store → Prop) → Store → Prop) (R : It → Hp → Prop) : Prop :=
  ∀ (J : It) (H' F' : Hp) (μ' : List Addr) (xs : List PV) (stay : Store → Prop) (st' : Store), Ext F μ F' μ' → Lay K G F' μ' st' H' → Wlk K J F' μ' xs stay → k xs stay st' → R J H'
def rI (K : PySem.W.Frag) (t : VM.TI) : L2.TI := fun σ H R => ∃ G F μ ρ st k, Lay K G F μ st H ∧ EnvR K F μ σ ρ ∧ t ρ st k nox ∧ KonI K G F μ k R
abbrev VI (X : Cx) (tg e : Expr) (t : VM.TI) : Prop := PI X tg e (rI X.K t)
theorem pi_imp {X : Cx} {tg e : Expr} {t t' : L2.TI} (h : PI X tg e t) (hi : ∀ σ H Q, t' σ H Q → t σ H Q) : PI X tg e t' := ⟨fun pins s σ H Q I q => h.run pins s σ H Q I (hi σ H Q q)⟩
section
variable {K : PySem.W.Frag} {G F : Hp} {μ : List Addr} {H : Hp} {st : Store}
theorem stays_self (x : PV) (st : Store) : VM.stays st x st := by cases x <;> exact (by first | trivial | rfl)
theorem wlk_list {a : Addr} {vs : List V} {xs : List PV} (e : F a = some (.lst vs)) (q : RepL K F μ xs vs) : Wlk K (Itl K a) F μ xs (fun _ => True) where
  goes := fun G H F' μ' st i x l _ hi => ⟨vs, vs[i]'(by rw [q.length]; exact hi), .inl (.inl (l.same _ _ (x.same _ _ e))), by simp [q.length, hi]⟩
  stops := fun G H F' μ' st x l _ => ⟨vs, .inl (.inl (l.same _ _ (x.same _ _ e))), by rw [q.length]; exact Nat.le_refl _⟩
  yields := fun G H F' μ' st i y v H2 x l _ hy hv => by
    obtain ⟨rfl, h2⟩ := hv
    obtain ⟨w, h3, h4⟩ := q.get hy
    have h5 := h2 vs (.inl (.inl (l.same _ _ (x.same _ _ e))))
    rw [h3] at h5
    cases h5
    exact ⟨F', Ext.refl, l, h4.mono x⟩
theorem wlk_listM {i0 : Nat} {a : Addr} {xs : List PV} (e : μ[i0]? = some a) (hx : st[i0]? = some (.lst xs)) : Wlk K (Itl K a) F μ xs (VM.stays st (.ref i0)) where
  goes := fun G H F' μ' st' i x l hs hi => by
    have hs' : st'[i0]? = st[i0]? := hs
    obtain ⟨_, vs, h2, q⟩ := l.obj i0 a _ (x.get e) (hs'.trans hx)
    exact ⟨vs, vs[i]'(by rw [q.length]; exact hi), .inl (.inl h2), by simp [q.length, hi]⟩
  stops := fun G H F' μ' st' x l hs => by
    have hs' : st'[i0]? = st[i0]? := hs
    obtain ⟨_, vs, h2, q⟩ := l.obj i0 a _ (x.get e) (hs'.trans hx)
    exact ⟨vs, .inl (.inl h2), by rw [q.length]; exact Nat.le_refl _⟩
  yields := fun G H F' μ' st' i y v H2 x l hs hy hv => by
    have hs' : st'[i0]? = st[i0]? := hs
    obtain ⟨_, vs, h2, q⟩ := l.obj i0 a _ (x.get e) (hs'.trans hx)
    obtain ⟨rfl, h3⟩ := hv
    obtain ⟨w, h4, h5⟩ := q.get hy
    have h6 := h3 vs (.inl (.inl h2))
    rw [h4] at h6
    cases h6
    exact ⟨F', Ext.refl, l, h5⟩
theorem wlk_tup {a : Addr} {vs : List V} {xs : List PV} (e : SqT K F a vs) (q : RepL K F μ xs vs) : Wlk K (Itt K a) F μ xs (fun _ => True) where
  goes := fun G H F' μ' st i x l _ hi => ⟨vs, vs[i]'(by rw [q.length]; exact hi), l.same.seqT (x.same.seqT e), by simp [q.length, hi]⟩
  stops := fun G H F' μ' st x l _ => ⟨vs, l.same.seqT (x.same.seqT e), by rw [q.length]; exact Nat.le_refl _⟩
  yields := fun G H F' μ' st i y v H2 x l _ hy hv => by
    obtain ⟨rfl, h2⟩ := hv
    obtain ⟨w, h3, h4⟩ := q.get hy
    have h5 := h2 vs (l.same.seqT (x.same.seqT e))
    rw [h3] at h5
    cases h5
    exact ⟨F', Ext.refl, l, h4.mono x⟩
theorem Wlk.imp {J : It} {xs : List PV} {stay stay' : Store → Prop} (w : Wlk K J F μ xs stay) (h : ∀ st, stay' st → stay st) : Wlk K J F μ xs stay' where
  goes := fun G H F' μ' st i x l hs => w.goes G H F' μ' st i x l (h st hs)
  stops := fun G H F' μ' st x l hs => w.stops G H F' μ' st x l (h st hs)
  yields := fun G H F' μ' st i y v H2 x l hs => w.yields G H F' μ' st i y v H2 x l (h st hs)
theorem wlk_str {s : List Nat} (o : sOk s) : Wlk K (Its ⟨s.toArray⟩) F μ (VM.signs s) (fun _ => True) where
  goes := fun G H F' μ' st i x l _ hi => by
    show i < s.toArray.size
    simpa [VM.signs] using hi
  stops := fun G H F' μ' st x l _ => by
    show s.toArray.size ≤ _
    simp [VM.signs]
  yields := fun G H F' μ' st i y v H2 x l _ hy hv => by
    obtain ⟨rfl, c, h1, rfl⟩ := hv
    have h2 : s[i]? = some c := by simpa using h1
    have h3 : y = .str [c] := by
      unfold VM.signs at hy
      rw [List.getElem?_map, h2] at hy
      exact (Option.some.inj hy).symm
    subst h3
    exact ⟨F', Ext.refl, l, rep_str.mpr ⟨⟨by simp, fun c' hc => by
      have e : c' = c := by simpa using hc
      rw [e]
      exact o.2 c (List.mem_of_getElem? h2)⟩, rfl⟩⟩
theorem wlk_range {lo : Int} {n : Nat} : Wlk K (Itr lo n) F μ ((List.range n).map fun (i : Nat) => .int (lo + (i : Int))) (fun _ => True) where
  goes := fun G H F' μ' st i x l _ hi => by
    show i < n
    simpa using hi
  stops := fun G H F' μ' st x l _ => by
    show n ≤ _
    simp
  yields := fun G H F' μ' st i y v H2 x l _ hy hv => by
    obtain ⟨rfl, rfl⟩ := hv
    have h3 : y = .int (lo + (i : Int)) := by
      rw [List.getElem?_map] at hy
      cases e : (List.range n)[i]? with
      | none => rw [e] at hy; cases hy
      | some j =>
        rw [e] at hy
        have hj : j = i := by
          rw [List.getElem?_eq_some_iff] at e
          obtain ⟨_, e⟩ := e
          simpa using e.symm
        subst hj
        exact (Option.some.inj hy).symm
    subst h3
    exact ⟨F', Ext.refl, l, rep_int.mpr rfl⟩
theorem items_cases {px : PV} {v : V} {xs : List PV} (l : Lay K G F μ st H) (r : Rep K F μ px v) (h : VM.items st px = some xs) :
    (∃ a vs, v = .ref a ∧ SqL K H a vs ∧ Wlk K (Itl K a) F μ xs (VM.stays st px)) ∨ (∃ a vs, v = .ref a ∧ SqT K H a vs ∧ Wlk K (Itt K a) F μ xs (VM.stays st px)) ∨ (∃ z, v = .str z ∧ Wlk K (Its z) F μ xs (VM.stays st px)) ∨ (∃ ks ys, px = .dct ks ys) ∨ (∃ ks ys, px = .dctT ks ys) ∨ (∃ i ks ys, px = .ref i ∧ (st[i]? = some (.dct ks ys) ∨ st[i]? = some (.dctT ks ys))) := by
  cases px <;> simp only [VM.items] at h <;> try (cases h; done)
  case str s =>
    cases h
    obtain ⟨o, rfl⟩ := rep_str.mp r
    exact .inr (.inr (.inl ⟨_, rfl, (wlk_str o).imp fun _ _ => trivial⟩))
  case tup =>
    cases h
    obtain ⟨a, vs, rfl, e, q⟩ := rep_tup.mp r
    exact .inr (.inl ⟨a, vs, rfl, l.same.seqT e, (wlk_tup e q).imp fun _ _ => trivial⟩)
  case lst =>
    cases h
    obtain ⟨a, vs, rfl, e, q⟩ := rep_lst.mp r
    exact .inl ⟨a, vs, rfl, .inl (.inl (l.same _ _ e)), (wlk_list e q).imp fun _ _ => trivial⟩
  case dct => exact .inr (.inr (.inr (.inl ⟨_, _, rfl⟩)))
  case dctT => exact .inr (.inr (.inr (.inr (.inl ⟨_, _, rfl⟩))))
  case ref i =>
    obtain ⟨a, h1, rfl⟩ := rep_ref.mp r
    split at h
    · rename_i ys e
      cases h
      obtain ⟨_, vs, h2, q⟩ := l.obj i a _ h1 e
      exact .inl ⟨a, vs, rfl, .inl (.inl h2), wlk_listM h1 e⟩
    · rename_i e
      exact .inr (.inr (.inr (.inr (.inr ⟨_, _, _, rfl, .inl e⟩))))
    · rename_i e
      exact .inr (.inr (.inr (.inr (.inr ⟨_, _, _, rfl, .inr e⟩))))
    · cases h
end
section
variable {X : Cx} {a b c e : Expr} {ta tb tc te : VM.TE} {t1 t2 : VM.TT} {pos p2 p : Pos} {es rest : List Expr} {tas : VM.TA} {x : Str} {tg : Expr}
theorem pi_any {tl : L2.TE} (hl : PE X e tl) : PI X tg e (fun σ H R => tl σ H fun x H1 => (∃ a xs, x = .ref a ∧ SqL X.K H1 a xs ∧ R (Itl X.K a) H1) ∨ (∃ a xs, x = .ref a ∧ SqT X.K H1 a xs ∧ R (Itt X.K a) H1) ∨ (∃ z, x = .str z ∧ R (Its z) H1)) := by
  refine ⟨fun pins s σ H R I h => ?_⟩
  refine thn (hl.run pins s σ H _ I h) fun v s1 ⟨x, H1, I1, r1, q1⟩ => ?_
  rcases q1 with ⟨a, xs, rfl, hq, q⟩ | ⟨a, xs, rfl, hq, q⟩ | ⟨z, rfl, q⟩
  · cases r1
    obtain ⟨its, rv, p, hz⟩ := I1.list hq
    refine wpAny_pyIter_list p.isList ?_
    refine ⟨s1.heap.objs.size, [s1.heap.objs.size], _, _, H1, rfl, I1.kept (t' := s1.toks) fun b o e => Heap.get?_push_of_some _ e, turn_list a _, ⟨_, Heap.get?_push_size _ rfl, rfl, rfl⟩, fun b hb => ?_, q⟩
    have e : b = s1.heap.objs.size := by simpa using hb
    subst e
    exact I1.fpOk (Nat.le_refl _) (I1.hok.fresh (Nat.le_refl _))
  · cases r1
    obtain ⟨its, rv, p, hz⟩ := I1.tuple hq
    refine wpAny_pyIter_tuple (show s1.heap.IsTuple a its.toArray from p) ?_
    refine ⟨s1.heap.objs.size, [s1.heap.objs.size], _, _, H1, rfl, I1.kept (t' := s1.toks) fun b o e => Heap.get?_push_of_some _ e, turn_tuple a _, ⟨_, Heap.get?_push_size _ rfl, rfl, rfl⟩, fun b hb => ?_, q⟩
    have e : b = s1.heap.objs.size := by simpa using hb
    subst e
    exact I1.fpOk (Nat.le_refl _) (I1.hok.fresh (Nat.le_refl _))
  · obtain ⟨t, rfl⟩ := r1
    cases ha : z.cps.all (· < 128)
    · exact wpAny_pyIter_wide ha (pi_one (tk := s1.toks) I1 _ (turn_str _ z t "str_iterator" (.inr rfl)) ⟨_, Heap.get?_push_size _ rfl, rfl, rfl⟩ q)
    · exact wpAny_pyIter_ascii ha (pi_one (tk := s1.toks) I1 _ (turn_str _ z t "str_ascii_iterator" (.inl rfl)) ⟨_, Heap.get?_push_size _ rfl, rfl, rfl⟩ q)
/-- not a dict (these have a rule of their own) -/
def noDict (st : Store) : PV → Prop
  | .dct _ _ => False
  | .dctT _ _ => False
  | .ref i => ∃ xs, st[i]? = some (.lst xs)
  | _ => True
theorem vi_e (ha : VE X a ta) : VI X tg a (VM.iE ta) := pi_imp (pi_any ha) fun σ H R h => by
  obtain ⟨G, F, μ, ρ, st, k, l, r, d, hk⟩ := h
  refine bind1 l r d fun x H1 F1 μ1 px st1 e1 l1 r1 p1 q1 => ?_
  split at q1
  · rename_i xs ex
    obtain ⟨q1, q2⟩ := q1
    rcases items_cases l1 p1 ex with ⟨a, vs, rfl, h1, w⟩ | ⟨a, vs, rfl, h1, w⟩ | ⟨z, rfl, w⟩ | ⟨ks, ys, rfl⟩ | ⟨ks, ys, rfl⟩ | ⟨i, ks, ys, rfl, h1 | h1⟩
    · exact .inl ⟨a, vs, rfl, h1, hk _ H1 F1 μ1 xs _ st1 e1 l1 w q2⟩
    · exact .inr (.inl ⟨a, vs, rfl, h1, hk _ H1 F1 μ1 xs _ st1 e1 l1 w q2⟩)
    · exact .inr (.inr ⟨z, rfl, hk _ H1 F1 μ1 xs _ st1 e1 l1 w q2⟩)
    · exact (show False by simpa [VM.isSeq] using q1).elim
    · exact (show False by simpa [VM.isSeq] using q1).elim
    · exact (show False by simpa [VM.isSeq, h1] using q1).elim
    · exact (show False by simpa [VM.isSeq, h1] using q1).elim
  · exact q1.elim
theorem vi_range1 (hg : Gl X "range") (hm : X.mg "range" = none) (ha : VE X a ta) (hs : starEach [a] X.env = [(false, eval a X.env)] := by rfl) : VI X tg (.Call (.Name "range" p) [a] [] pos) (VM.iRange1 ta) :=
  pi_imp (pi_range1 hg hm (pa_cons ha pa_nil hs) hs) fun σ H R h => by
    obtain ⟨G, F, μ, ρ, st, k, l, r, d, hk⟩ := h
    refine bind1 l r d fun x H1 F1 μ1 px st1 e1 l1 r1 p1 q1 => ?_
    split at q1
    · rename_i n
      obtain rfl := rep_int.mp p1
      obtain ⟨h1, q1⟩ := q1
      refine ⟨n, rfl, h1.1, h1.2, hk _ H1 F1 μ1 _ _ st1 e1 l1 ?_ q1⟩
      have w := wlk_range (K := X.K) (F := F1) (μ := μ1) (lo := 0) (n := n.toNat)
      simpa using w
    · exact q1.elim
theorem vi_range2 (hg : Gl X "range") (hm : X.mg "range" = none) (ha : VE X a ta) (hb : VE X b tb) (hs : starEach [a, b] X.env = [(false, eval a X.env), (false, eval b X.env)] := by rfl) (hs2 : starEach [b] X.env = [(false, eval b X.env)] := by rfl) :
    VI X tg (.Call (.Name "range" p) [a, b] [] pos) (VM.iRange2 ta tb) :=
  pi_imp (pi_range2 hg hm (pa_cons ha (pa_cons hb pa_nil hs2) (by rw [hs, hs2])) hs hs2) fun σ H R h => by
    obtain ⟨G, F, μ, ρ, st, k, l, r, d, hk⟩ := h
    refine bind1 l r d fun x H1 F1 μ1 px st1 e1 l1 r1 p1 q1 => bind1 l1 r1 q1 fun y H2 F2 μ2 py st2 e2 l2 r2 p2 q2 => ?_
    split at q2
    · rename_i m n
      obtain rfl := rep_int.mp p1
      obtain rfl := rep_int.mp p2
      obtain ⟨h1, h2, q2⟩ := q2
      exact ⟨m, n, rfl, ⟨h1.1, h1.2, h2.1, h2.2⟩, hk _ H2 F2 μ2 _ _ st2 (e1.trans e2) l2 wlk_range q2⟩
    · exact q2.elim
theorem vi_rev (hg : Gl X "reversed") (hm : X.mg "reversed" = none) (ha : VE X a ta) (hs : starEach [a] X.env = (false, eval a X.env) :: starEach [] X.env := by rfl) : VI X tg (.Call (.Name "reversed" p) [a] [] pos) (VM.iRev ta) :=
  pi_imp (RT.pi_revA hg hm ha hs) fun σ H R h => by
    obtain ⟨G, F, μ, ρ, st, k, l, r, d, hk⟩ := h
    refine bind1 l r d fun x H1 F1 μ1 px st1 e1 l1 r1 p1 q1 => ?_
    split at q1
    · rename_i xs ex
      have key : ∀ (a : Addr) (vs : List V), RepL X.K F1 μ1 xs vs → (∀ (G H F' : Hp) (μ' : List Addr) (st : Store), Ext F1 μ1 F' μ' → Lay X.K G F' μ' st H → VM.stays st1 px st → ∃ ws, H a = some (.lst ws) ∧ RepL X.K F' μ' xs ws) → Wlk X.K (Itv X.K a vs.length) F1 μ1 xs.reverse (VM.stays st1 px) := fun a vs q hst => {
        goes := fun G H F' μ' st i x l hs hi => by
          obtain ⟨ws, h1, h2⟩ := hst G H F' μ' st x l hs
          have hi' : i < xs.length := by simpa using hi
          have e1 := h2.length
          have e2 := q.length
          exact ⟨by omega, ws, ws[vs.length - 1 - i]'(by omega), .inl (.inl h1), by simp [show vs.length - 1 - i < ws.length by omega]⟩
        stops := fun G H F' μ' st x l hs => by
          show vs.length ≤ _
          rw [q.length]
          simp
        yields := fun G H F' μ' st i y v H2 x l hs hy hv => by
          obtain ⟨ws, h1, h2⟩ := hst G H F' μ' st x l hs
          obtain ⟨rfl, h3⟩ := hv
          have hi : i < xs.length := by
            have := (List.getElem?_eq_some_iff.mp hy).1
            simpa using this
          rw [List.getElem?_reverse hi] at hy
          obtain ⟨w, h4, h5⟩ := h2.get hy
          have h6 := h3 ws (.inl (.inl h1))
          rw [q.length, h4] at h6
          cases h6
          exact ⟨F', Ext.refl, l, h5⟩ }
      obtain ⟨a, vs, rfl, hH, q⟩ := asL_rep l1 p1 ex
      refine ⟨a, vs, rfl, .inl ⟨.inl (.inl hH), hk _ H1 F1 μ1 _ _ st1 e1 l1 (key a vs q fun G H F' μ' st x l hs => ?_) q1⟩⟩
      have p1' := p1.mono x
      have ex' : VM.asL st px = some xs := by
        cases px <;> simp only [VM.asL] at ex ⊢ <;> try exact ex
        rename_i i
        have hs' : st[i]? = st1[i]? := hs
        rw [hs']
        exact ex
      obtain ⟨a', ws, h1, h2, h3⟩ := asL_rep l p1' ex'
      cases h1
      exact ⟨ws, h2, h3⟩
    · exact q1.elim
def rG (K : PySem.W.Frag) (g : VM.TG) (sl : List Nat) : L2.TG := fun v σ H Q => ∃ G F μ ρ st k px, Lay K G F μ st H ∧ EnvR K F μ σ ρ ∧ Rep K F μ px v ∧ g px ρ st k ∧
  ∀ σ' ρ' st', Lay K G F μ st' H → EnvR K F μ σ' ρ' → σ'.length = σ.length → (∀ j, j ∉ sl → σ'[j]? = σ[j]?) → k ρ' st' → Q σ' H
abbrev VG (X : Cx) (tg : Expr) (g : VM.TG) (sl : List Nat) : Prop := PG X tg (rG X.K g sl)
def rGs (K : PySem.W.Frag) (g : List PV → VM.Env → Store → (VM.Env → Store → Prop) → Prop) (sl : List Nat) : L2.TGs := fun vs σ H Q => ∃ G F μ ρ st k pxs, Lay K G F μ st H ∧ EnvR K F μ σ ρ ∧ RepL K F μ pxs vs ∧ g pxs ρ st k ∧
  ∀ σ' ρ' st', Lay K G F μ st' H → EnvR K F μ σ' ρ' → σ'.length = σ.length → (∀ j, j ∉ sl → σ'[j]? = σ[j]?) → k ρ' st' → Q σ' H
theorem pg_imp {tg : Expr} {t t' : L2.TG} (h : PG X tg t) (hi : ∀ v σ H Q, t' v σ H Q → t v σ H Q) : PG X tg t' := ⟨fun pins s σ H v u Q I r q => h.run pins s σ H v u Q I r (hi v σ H Q q)⟩
theorem pgs_imp {ts : List Expr} {t t' : L2.TGs} (h : PGs X ts t) (hi : ∀ v σ H Q, t' v σ H Q → t v σ H Q) : PGs X ts t' := ⟨fun pins s σ H v u Q I r q => h.run pins s σ H v u Q I r (hi v σ H Q q)⟩
theorem vg_name {i : Nat} {x : Str} (hN : X.N.Nodup) (hi : X.N[i]? = some x) (hx : Loc X.env.scope x) (hf : X.fn x = true ∨ X.env.scope.names.lookup x = some .local) : VG X (.Name x pos) (VM.gName i) [i] := pg_imp (pg_name hN hi hx hf) fun v σ H Q h => by
  obtain ⟨G, F, μ, ρ, st, k, px, l, r, p, d, hk⟩ := h
  exact hk _ _ st l (r.set i p) (by simp) (fun j hj => List.getElem?_set_ne (fun z => hj (by simp [z]))) d
theorem vgs_nil : PGs X [] (rGs X.K (VM.gEach []) []) := pgs_imp pgs_nil fun vs σ H Q h => by
  obtain ⟨G, F, μ, ρ, st, k, pxs, l, r, p, d, hk⟩ := h
  cases pxs with
  | nil => exact ⟨repL_nil.mp p, hk σ ρ st l r rfl (fun _ _ => rfl) d⟩
  | cons => exact d.elim
theorem vgs_cons {es : List Expr} {g : VM.TG} {gs : List VM.TG} {sl sls : List Nat} (h1 : VG X e g sl) (h2 : PGs X es (rGs X.K (VM.gEach gs) sls)) (hs : (assignEach (e :: es) X.env).map (·.2) = assign e X.env :: (assignEach es X.env).map (·.2) := by rfl) :
    PGs X (e :: es) (rGs X.K (VM.gEach (g :: gs)) (sl ++ sls)) := pgs_imp (pgs_cons h1 h2 hs) fun vs σ H Q h => by
  obtain ⟨G, F, μ, ρ, st, k, pxs, l, r, p, d, hk⟩ := h
  cases pxs with
  | nil => exact d.elim
  | cons px pxs =>
    obtain ⟨v, w, rfl, p1, p2⟩ := repL_cons.mp p
    refine ⟨v, w, rfl, G, F, μ, ρ, st, _, px, l, r, p1, d, fun σ1 ρ1 st1 l1 r1 hl1 ho1 q1 => ?_⟩
    refine ⟨G, F, μ, ρ1, st1, k, pxs, l1, r1, p2, q1, fun σ2 ρ2 st2 l2 r2 hl2 ho2 q2 => ?_⟩
    exact hk σ2 ρ2 st2 l2 r2 (hl2.trans hl1) (fun j hj => (ho2 j fun z => hj (List.mem_append_right _ z)).trans (ho1 j fun z => hj (List.mem_append_left _ z))) q2
theorem vg_tup {es : List Expr} {gs : List VM.TG} {sl : List Nat} {kt : Nat} (hc : X.calm = true) (h : PGs X es (rGs X.K (VM.gEach gs) sl)) (hn : (assignEach es X.env).length = gs.length := by rfl) (hst : (assignEach es X.env).findIdx? (·.1) = none := by rfl) : VG X (.Tuple es kt pos) (VM.gTup gs) sl :=
  pg_imp (pg_tup hc h hn hst) fun v σ H Q h => by
    obtain ⟨G, F, μ, ρ, st, k, px, l, r, p, d, hk⟩ := h
    unfold VM.gTup at d
    split at d
    · rename_i xs
      obtain ⟨a, vs, rfl, e, q⟩ := rep_tup.mp p
      exact ⟨a, vs, rfl, l.same.seqT e, by rw [q.length]; exact d.1, G, F, μ, ρ, st, k, xs, l, r, q, d.2, hk⟩
    · exact d.elim
end
end VS
end
section
namespace VS
open PySem PySem.Spec PyProof.Rows L2
open VM (PV SO Store)
section
variable {K : PySem.W.Frag} {G F : Hp} {μ : List Addr} {H : Hp} {st : Store}
/-- a list or a tuple, through what goes on -/
theorem sq_rep {px : PV} {v : V} {xs : List PV} (l : Lay K G F μ st H) (r : Rep K F μ px v) (h : VM.sq st px = some xs) :
    ∃ b a, v = .ref a ∧ ∀ (G' H' F' : Hp) (μ' : List Addr) (st' : Store), Ext F μ F' μ' → Lay K G' F' μ' st' H' → VM.stays st px st' → ∃ vs, SqB b K H' a vs ∧ RepL K F' μ' xs vs := by
  by_cases ht : ∃ ys, px = .tup ys
  · obtain ⟨ys, rfl⟩ := ht
    cases h
    obtain ⟨a, vs, rfl, e, q⟩ := rep_tup.mp r
    exact ⟨false, a, rfl, fun G' H' F' μ' st' x l' _ => ⟨vs, l'.same.seqT (x.same.seqT e), q.mono x⟩⟩
  · have h2 : VM.asL st px = some xs := by
      cases px <;> first | exact h | exact (ht ⟨_, rfl⟩).elim
    obtain ⟨a, vs, rfl, _, _⟩ := asL_rep l r h2
    refine ⟨true, a, rfl, fun G' H' F' μ' st' x l' hs => ?_⟩
    have h3 : VM.asL st' px = some xs := by
      cases px <;> simp only [VM.asL] at h2 ⊢ <;> try exact h2
      rename_i i
      have hs' : st'[i]? = st[i]? := hs
      rw [hs']
      exact h2
    obtain ⟨a', ws, e1, e2, e3⟩ := asL_rep l' (r.mono x) h3
    cases e1
    exact ⟨ws, .inl (.inl e2), e3⟩
theorem Lay.guard (l : Lay K G F μ st H) {D : Addr} {o : HO} (h : H D = none) : Lay K (upd G D o) F μ st (upd H D o) where
  gd := fun a u e => by
    by_cases q : a = D
    · subst q
      rw [upd_same] at e ⊢
      exact ⟨e, l.free h, l.notin h⟩
    · rw [upd_ne q] at e ⊢
      exact l.gd a u e
  same := fun b v e => by rw [upd_ne (ne_of_none (l.same b v e) h)]; exact l.same b v e
  len := l.len
  nd := l.nd
  there := fun a ha => by
    by_cases q : a = D
    · exact ⟨o, by rw [q]; exact upd_same⟩
    · rw [upd_ne q]
      exact l.there a ha
  obj := fun i a u h1 h2 => by
    have q : a ≠ D := fun z => l.notin h (z ▸ List.mem_of_getElem? h1)
    exact (l.obj i a u h1 h2).mono Ext.refl rfl (upd_ne q)
theorem Lay.gset {D : Addr} {o o' : HO} (l : Lay K (upd G D o) F μ st H) : Lay K (upd G D o') F μ st (upd H D o') := by
  obtain ⟨h1, h2, h3⟩ := l.gd D o upd_same
  exact {
    gd := fun a u e => by
      by_cases q : a = D
      · subst q
        rw [upd_same] at e ⊢
        exact ⟨e, h2, h3⟩
      · rw [upd_ne q] at e ⊢
        exact l.gd a u (by rw [upd_ne q]; exact e)
    same := fun b v e => by rw [upd_ne (ne_of_none e h2)]; exact l.same b v e
    len := l.len
    nd := l.nd
    there := fun a ha => by
      by_cases q : a = D
      · exact ⟨o', by rw [q]; exact upd_same⟩
      · rw [upd_ne q]
        exact l.there a ha
    obj := fun i a u e1 e2 => by
      have q : a ≠ D := fun z => h3 (z ▸ List.mem_of_getElem? e1)
      exact (l.obj i a u e1 e2).mono Ext.refl rfl (upd_ne q) }
theorem Lay.unguard {D : Addr} {o : HO} (l : Lay K (upd G D o) F μ st H) (hG : G D = none) : Ext F μ (upd F D o) μ ∧ Lay K G (upd F D o) μ st H := by
  obtain ⟨h1, h2, h3⟩ := l.gd D o upd_same
  have x : Ext F μ (upd F D o) μ := ⟨fun a u e => by rw [upd_ne (ne_of_none e h2)]; exact e, [], by simp⟩
  exact ⟨x, {
    gd := fun a u e => by
      have q : a ≠ D := ne_of_none e hG
      obtain ⟨k1, k2, k3⟩ := l.gd a u (by rw [upd_ne q]; exact e)
      exact ⟨k1, by rw [upd_ne q]; exact k2, k3⟩
    same := fun a u e => by
      by_cases q : a = D
      · subst q
        rw [upd_same] at e
        cases e
        exact h1
      · rw [upd_ne q] at e
        exact l.same a u e
    len := l.len
    nd := l.nd
    there := l.there
    obj := fun i a u e1 e2 => by
      have q : a ≠ D := fun z => h3 (z ▸ List.mem_of_getElem? e1)
      exact (l.obj i a u e1 e2).mono x (upd_ne q) rfl }⟩
theorem wipe_at : ∀ {vs : List Nat} {σ : L2.St} {j : Nat}, j ∈ vs → (L2.wipe σ vs)[j]? = if j < σ.length then some none else none
  | [], _, _, h => by cases h
  | v :: vs, σ, j, h => by
    unfold L2.wipe
    by_cases e : v = j
    · subst e
      by_cases hj : v < σ.length
      · rw [if_pos hj, List.getElem?_set_self (by rw [L2.wipe_length]; exact hj)]
      · rw [if_neg hj, List.getElem?_eq_none (by rw [List.length_set, L2.wipe_length]; omega)]
    · rw [List.getElem?_set_ne e]
      exact wipe_at ((List.mem_cons.mp h).resolve_left (fun z => e z.symm))
theorem wipe_eq {vs : List Nat} {σ τ : L2.St} (hl : τ.length = σ.length) (h : ∀ j, j ∉ vs → τ[j]? = (L2.wipe σ vs)[j]?) : L2.wipe τ vs = L2.wipe σ vs := by
  apply List.ext_getElem?
  intro j
  by_cases hj : j ∈ vs
  · rw [wipe_at hj, wipe_at hj, hl]
  · rw [L2.wipe_out hj, h j hj]
end
section
variable {X : Cx} {a b c e : Expr} {ta tb tc te : VM.TE} {t1 t2 : VM.TT} {pos p2 p : Pos} {es rest : List Expr} {tas : VM.TA} {x : Str} {tg : Expr}
theorem vi_zip {elts : List Expr} {kk : Nat} {tpos : Pos} (hg : Gl X "zip") (hm : X.mg "zip" = none) (ha : VE X a ta) (hb : VE X b tb) (hs : starEach [a, b] X.env = (false, eval a X.env) :: starEach [b] X.env := by rfl) (hs2 : starEach [b] X.env = (false, eval b X.env) :: starEach [] X.env := by rfl) (hpl : (backTo pos (starEach [b] X.env)).any (·.1) = false := by rfl) :
    VI X (.Tuple elts kk tpos) (.Call (.Name "zip" p) [a, b] [] pos) (VM.iZip ta tb) :=
  pi_imp (pi_zipB hg hm (pa_cons ha (pa_cons hb pa_nil hs2) hs) hs hpl) fun σ H R h => by
    obtain ⟨G, F, μ, ρ, st, k, l, r, d, hk⟩ := h
    refine bind1 l r d fun x H1 F1 μ1 px st1 e1 l1 r1 p1 q1 => bind1 l1 r1 q1 fun y H2 F2 μ2 py st2 e2 l2 r2 p2 q2 => ?_
    split at q2
    · rename_i xs ys hx hy
      obtain ⟨b1, a, rfl, f1⟩ := sq_rep l2 (p1.mono e2) hx
      obtain ⟨b2, b, rfl, f2⟩ := sq_rep l2 p2 hy
      obtain ⟨vs, s1, g1⟩ := f1 G H2 F2 μ2 st2 Ext.refl l2 (stays_self _ _)
      obtain ⟨ws, s2, g2⟩ := f2 G H2 F2 μ2 st2 Ext.refl l2 (stays_self _ _)
      refine ⟨a, b, vs, ws, b1, b2, rfl, s1, s2, hk _ H2 F2 μ2 _ _ st2 (e1.trans e2) l2 ?_ q2⟩
      exact {
        goes := fun G H F' μ' st i x l hs hi => by
          obtain ⟨vs, s1, g1⟩ := f1 G H F' μ' st x l hs.1
          obtain ⟨ws, s2, g2⟩ := f2 G H F' μ' st x l hs.2
          rw [List.length_zipWith] at hi
          have l1 := g1.length
          have l2 := g2.length
          exact ⟨vs, ws, vs[i]'(by omega), ws[i]'(by omega), s1, s2, by simp [show i < vs.length by omega], by simp [show i < ws.length by omega]⟩
        stops := fun G H F' μ' st x l hs => by
          obtain ⟨vs, s1, g1⟩ := f1 G H F' μ' st x l hs.1
          obtain ⟨ws, s2, g2⟩ := f2 G H F' μ' st x l hs.2
          exact ⟨vs, ws, s1, s2, by rw [List.length_zipWith, g1.length, g2.length]⟩
        yields := fun G H F' μ' st i y v H2 x l hs hy hv => by
          obtain ⟨vs, s1, g1⟩ := f1 G H F' μ' st x l hs.1
          obtain ⟨ws, s2, g2⟩ := f2 G H F' μ' st x l hs.2
          obtain ⟨T, u, w, rfl, nT, rfl, k1, k2⟩ := hv
          rw [List.getElem?_zipWith] at hy
          cases ex : xs[i]? with
          | none => rw [ex] at hy; cases hy
          | some p =>
            cases ey : ys[i]? with
            | none => rw [ex, ey] at hy; cases hy
            | some q =>
              rw [ex, ey] at hy
              cases hy
              obtain ⟨u', m1, m2⟩ := g1.get ex
              obtain ⟨w', m3, m4⟩ := g2.get ey
              have n1 := k1 vs s1
              have n2 := k2 ws s2
              rw [m1] at n1
              rw [m3] at n2
              cases n1
              cases n2
              refine ⟨upd F' T (.tup [u, w]), ext_upd l nT, l.new nT, rep_tup.mpr ⟨T, [u, w], rfl, .inl (.inl upd_same), ?_⟩⟩
              exact repL_cons.mpr ⟨u, [w], rfl, m2.mono (ext_upd l nT), repL_cons.mpr ⟨w, [], rfl, m4.mono (ext_upd l nT), repL_nil.mpr rfl⟩⟩ }
    · exact q2.elim

theorem lc_gen {wi : L2.TI} {i : VM.TI} {g : VM.TG} {t : VM.TT} {te : VM.TE} {vs sl : List Nat} (hsl : ∀ j ∈ sl, j ∈ vs) {K : PySem.W.Frag} {σ : L2.St} {H : Hp} {Q : VK} (h : ∃ G F μ ρ st, ∃ k : List PV → Store → Prop, Lay K G F μ st H ∧ EnvR K F μ σ ρ ∧ i ρ st (fun xs stay st => VM.compGo g t te vs stay xs [] (VM.wipe ρ vs) st k) nox ∧ ∀ (D : Addr) (H' F' : Hp) (μ' : List Addr) (acc : List PV) (ws : List V) (st' : Store), Ext F μ F' μ' → G D = none → Lay K (upd G D (.lst ws)) F' μ' st' H' → RepL K F' μ' acc ws → k acc st' → Q (.ref D) H') :
    tLc (VS.rI K i) (rG K g sl) (rT K t) (rE K te) vs σ H Q := by
  obtain ⟨G, F, μ, ρ, st, k, l, r, d, hk⟩ := h
  refine ⟨G, F, μ, ρ, st, _, l, r, d, fun J H1 F1 μ1 xs stay st1 e1 l1 w q => ?_⟩
  intro D hD
  have hG : G D = none := by
    cases ge : G D with
    | none => rfl
    | some o =>
      have := (l1.gd D o ge).1
      rw [hD] at this
      cases this
  refine ⟨fun i m H => m = xs.length - i ∧ i ≤ xs.length ∧ ∃ F' μ' acc ws st', Ext F1 μ1 F' μ' ∧ Lay K (upd G D (.lst ws)) F' μ' st' H ∧ RepL K F' μ' acc ws ∧ VM.compGo g t te vs stay (xs.drop i) acc (VM.wipe ρ vs) st' k,
    ⟨xs.length, by simp, Nat.zero_le _, F1, μ1, [], [], st1, Ext.refl, l1.guard hD, repL_nil.mpr rfl, q⟩, ?_⟩
  rintro i m H ⟨rfl, hi, F', μ', acc, ws, st', e2, l2, ra, q2⟩
  have rr : ∀ {F2 : Hp} {μ2 : List Addr}, Ext F μ F2 μ2 → EnvR K F2 μ2 (L2.wipe σ vs) (VM.wipe ρ vs) := fun x => (r.mono x).wipe vs
  by_cases hlt : i < xs.length
  · rw [List.drop_eq_getElem_cons hlt] at q2
    obtain ⟨hstay, q2⟩ := q2
    refine .inr ⟨w.goes _ H F' μ' st' i e2 l2 hstay hlt, fun H' => xs.length - (i + 1) = xs.length - (i + 1) ∧ i + 1 ≤ xs.length ∧ ∃ F' μ' acc ws st', Ext F1 μ1 F' μ' ∧ Lay K (upd G D (.lst ws)) F' μ' st' H' ∧ RepL K F' μ' acc ws ∧ VM.compGo g t te vs stay (xs.drop (i + 1)) acc (VM.wipe ρ vs) st' k, fun H' p' => ⟨xs.length - (i + 1), by omega, p'⟩, fun x H' hy => ?_⟩
    obtain ⟨F3, e3, l3, rx⟩ := w.yields _ H F' μ' st' i xs[i] x H' e2 l2 hstay (by simp [hlt]) hy
    refine ⟨_, F3, μ', _, st', _, xs[i], l3, rr ((e1.trans e2).trans e3), rx, q2, fun σ4 ρ4 st4 l4 r4 len4 out4 q4 => ?_⟩
    refine ⟨wipe_eq (len4.trans (L2.wipe_length _ _)) fun j hj => out4 j fun z => hj (hsl j z), ?_⟩
    refine bindT l4 r4 q4 fun b H5 F5 μ5 st5 e5 l5 r5 q5 => ?_
    cases b with
    | true =>
      rw [if_pos rfl] at q5 ⊢
      refine bind1 l5 r5 q5 fun y H6 F6 μ6 py st6 e6 l6 r6 p6 q6 => ?_
      obtain ⟨hz, q6⟩ := q6
      have ra' := ((ra.mono e3).mono e5).mono e6
      refine ⟨ws, (l6.gd D _ upd_same).1, by rw [ra.length, sizeLine_eq]; exact hz, rfl, by omega, F6, μ6, acc ++ [py], ws ++ [y], st6, ((e2.trans e3).trans e5).trans e6, ?_, ra'.append (repL_cons.mpr ⟨y, [], rfl, p6, repL_nil.mpr rfl⟩), q6⟩
      exact l6.gset
    | false =>
      rw [if_neg Bool.false_ne_true] at q5 ⊢
      exact ⟨rfl, by omega, F5, μ5, acc, ws, st5, (e2.trans e3).trans e5, l5, (ra.mono e3).mono e5, q5⟩
  · have e : i = xs.length := by omega
    subst e
    rw [List.drop_length] at q2
    refine .inl ⟨w.stops _ H F' μ' st' e2 l2 q2.1, ?_⟩
    exact hk D H F' μ' acc ws st' (e1.trans e2) hG l2 ra q2.2
theorem lc_imp {wi : L2.TI} {i : VM.TI} {g : VM.TG} {t : VM.TT} {te : VM.TE} {vs sl : List Nat} (hsl : ∀ j ∈ sl, j ∈ vs) {K : PySem.W.Frag} {σ : L2.St} {H : Hp} {Q : VK} (h : rE K (VM.eComp i g t te vs) σ H Q) :
    tLc (VS.rI K i) (rG K g sl) (rT K t) (rE K te) vs σ H Q := by
  obtain ⟨G, F, μ, ρ, st, k, l, r, d, hk⟩ := h
  refine lc_gen (wi := fun _ _ _ => True) hsl ⟨G, F, μ, ρ, st, _, l, r, d, fun D H' F' μ' acc ws st' e hG l2 ra q => ?_⟩
  obtain ⟨e3, l3⟩ := l2.unguard hG
  exact hk (.ref D) H' _ μ' (.lst acc) st' (e.trans e3) l3 (rep_lst.mpr ⟨D, ws, rfl, upd_same, ra.mono e3⟩) q
theorem Lay.ungset {K : PySem.W.Frag} {G F : Hp} {μ : List Addr} {st : Store} {H : Hp} {D : Addr} {ws : List V} {acc : List PV} (l : Lay K (upd G D (.lst ws)) F μ st H) (hG : G D = none) (ra : RepL K F μ acc ws) : Lay K G F (μ ++ [D]) (st ++ [.lst acc]) H := by
  obtain ⟨h1, h2, h3⟩ := l.gd D _ upd_same
  exact {
    gd := fun a u e => by
      have q : a ≠ D := ne_of_none e hG
      obtain ⟨k1, k2, k3⟩ := l.gd a u (by rw [upd_ne q]; exact e)
      exact ⟨k1, k2, fun z => (List.mem_append.mp z).elim k3 fun z => q (by simpa using z)⟩
    same := l.same
    len := by simp [l.len]
    nd := List.nodup_append.mpr ⟨l.nd, by simp, fun a ha b hb => by
      have e : b = D := by simpa using hb
      subst e
      exact fun z => h3 (z ▸ ha)⟩
    there := fun a ha => by
      rcases List.mem_append.mp ha with ha | ha
      · exact l.there a ha
      · have e : a = D := by simpa using ha
        exact ⟨_, by rw [e]; exact h1⟩
    obj := fun i a v e1 e2 => by
      by_cases hi : i < μ.length
      · rw [List.getElem?_append_left hi] at e1
        rw [List.getElem?_append_left (by rw [← l.len]; exact hi)] at e2
        exact (l.obj i a v e1 e2).mono (ext_alloc D) rfl rfl
      · have e : i = μ.length := by
          have := (List.getElem?_eq_some_iff.mp e1).1
          simp at this
          omega
        subst e
        rw [List.getElem?_append_right (Nat.le_refl _)] at e1
        rw [l.len, List.getElem?_append_right (Nat.le_refl _)] at e2
        simp at e1 e2
        subst e1 e2
        exact ⟨h2, ws, h1, ra.mono (ext_alloc D)⟩ }
theorem lc_impM {wi : L2.TI} {i : VM.TI} {g : VM.TG} {t : VM.TT} {te : VM.TE} {vs sl : List Nat} (hsl : ∀ j ∈ sl, j ∈ vs) {K : PySem.W.Frag} {σ : L2.St} {H : Hp} {Q : VK} (h : rE K (VM.eCompM i g t te vs) σ H Q) :
    tLc (VS.rI K i) (rG K g sl) (rT K t) (rE K te) vs σ H Q := by
  obtain ⟨G, F, μ, ρ, st, k, l, r, d, hk⟩ := h
  refine lc_gen (wi := fun _ _ _ => True) hsl ⟨G, F, μ, ρ, st, _, l, r, d, fun D H' F' μ' acc ws st' e hG l2 ra q => ?_⟩
  refine hk (.ref D) H' F' (μ' ++ [D]) (.ref st'.length) _ (e.trans (ext_alloc D)) (l2.ungset hG ra) (rep_ref.mpr ⟨D, ?_, rfl⟩) q
  rw [← l2.len, List.getElem?_append_right (Nat.le_refl _)]
  simp
abbrev BX (X : Cx) (scope : Scope) : Shared → Hp → Addr → List (Str × Addr) → List Addr → Cx := fun s H C cl fp => X.blk s H scope (compEnvC scope cl C X.env) fp
theorem ve_comp {elt iter : Expr} {ifs : List Expr} {scope : Scope} {own : List (Str × Nat)} {i : VM.TI} {g : VM.TG} {t : VM.TT} {sl : List Nat} (hc : X.calm = true) (hN : X.N.Nodup) (ok : BlkOk X.N X.env.scope scope own) (hi : VI X tg iter i) (hsl : ∀ j ∈ sl, j ∈ own.map (·.2))
    (hg : ∀ s H C cl fp, VG (BX X scope s H C cl fp) tg g sl) (ht : ∀ s H C cl fp, PTs (BX X scope s H C cl fp) ifs (rT X.K t)) (he : ∀ s H C cl fp, VE (BX X scope s H C cl fp) elt te) (hs : ∀ x, foldedSetIterable iter X.env x = pure x := by intro _; rfl) :
    VE X (.ListComp elt [⟨tg, iter, ifs, 0⟩] scope pos) (VM.eComp i g t te (own.map (·.2))) := pe_imp (pe_lc hc hN hi ok hg ht he hs) fun σ H Q h => lc_imp (wi := fun _ _ _ => True) hsl h
theorem ve_compM {elt iter : Expr} {ifs : List Expr} {scope : Scope} {own : List (Str × Nat)} {i : VM.TI} {g : VM.TG} {t : VM.TT} {sl : List Nat} (hc : X.calm = true) (hN : X.N.Nodup) (ok : BlkOk X.N X.env.scope scope own) (hi : VI X tg iter i) (hsl : ∀ j ∈ sl, j ∈ own.map (·.2))
    (hg : ∀ s H C cl fp, VG (BX X scope s H C cl fp) tg g sl) (ht : ∀ s H C cl fp, PTs (BX X scope s H C cl fp) ifs (rT X.K t)) (he : ∀ s H C cl fp, VE (BX X scope s H C cl fp) elt te) (hs : ∀ x, foldedSetIterable iter X.env x = pure x := by intro _; rfl) :
    VE X (.ListComp elt [⟨tg, iter, ifs, 0⟩] scope pos) (VM.eCompM i g t te (own.map (·.2))) := pe_imp (pe_lc hc hN hi ok hg ht he hs) fun σ H Q h => lc_impM (wi := fun _ _ _ => True) hsl h
theorem vts_nil : PTs X [] (rT X.K VM.tYes) := by
  refine ⟨fun pins s σ H Q I h => ?_⟩
  obtain ⟨G, F, μ, ρ, st, k, l, r, d, hk⟩ := h
  exact pts_nil.run pins s σ H Q I (hk true H F μ st Ext.refl l d)
theorem vts_one (h : VT X c t1) : PTs X [c] (rT X.K t1) := pts_one h
def KonR (K : PySem.W.Frag) (G F : Hp) (μ : List Addr) (k : VM.Env → Store → Prop) (Q : L2.St → Hp → Prop) : Prop := ∀ (σ' : L2.St) (H' F' : Hp) (μ' : List Addr) (ρ' : VM.Env) (st' : Store), Ext F μ F' μ' → Lay K G F' μ' st' H' → EnvR K F' μ' σ' ρ' → k ρ' st' → Q σ' H'
theorem KonR.mono {K : PySem.W.Frag} {G F F' : Hp} {μ μ' : List Addr} {k : VM.Env → Store → Prop} {Q : L2.St → Hp → Prop} (h : KonR K G F μ k Q) (e : Ext F μ F' μ') : KonR K G F' μ' k Q := fun σ' H' F2 μ2 ρ' st' e2 => h σ' H' F2 μ2 ρ' st' (e.trans e2)
structure KonS (K : PySem.W.Frag) (G F : Hp) (μ : List Addr) (DV : VM.Ends) (D : L2.Ends) : Prop where
  nx : KonR K G F μ DV.nx D.nx
  rt : Kon K G F μ DV.rt D.rt
  bk : KonR K G F μ DV.bk D.bk
  ct : KonR K G F μ DV.ct D.ct
  xk : DV.xk = nox
theorem KonS.mono {K : PySem.W.Frag} {G F F' : Hp} {μ μ' : List Addr} {DV : VM.Ends} {D : L2.Ends} (h : KonS K G F μ DV D) (e : Ext F μ F' μ') : KonS K G F' μ' DV D := ⟨h.nx.mono e, h.rt.mono e, h.bk.mono e, h.ct.mono e, h.xk⟩
def rS (K : PySem.W.Frag) (t : VM.TS) : L2.TS := fun D σ H => ∃ G F μ ρ st DV, Lay K G F μ st H ∧ EnvR K F μ σ ρ ∧ t DV ρ st ∧ KonS K G F μ DV D
abbrev VSt (X : Cx) (s : Stmt) (t : VM.TS) : Prop := PS X s (rS X.K t)
abbrev VB (X : Cx) (s : List Stmt) (t : VM.TS) : Prop := PSs X s (rS X.K t)
theorem ps_imp {s : Stmt} {t t' : L2.TS} (h : PS X s t) (hi : ∀ D σ H, t' D σ H → t D σ H) : PS X s t' := ⟨fun pins s σ H D I q => h.run pins s σ H D I (hi D σ H q)⟩
theorem pss_imp {s : List Stmt} {t t' : L2.TS} (h : PSs X s t) (hi : ∀ D σ H, t' D σ H → t D σ H) : PSs X s t' := ⟨fun pins s σ H D I q => h.run pins s σ H D I (hi D σ H q)⟩
variable {s1 : Stmt} {ss ss2 : List Stmt} {u u2 : VM.TS}
theorem vb_nil : VB X [] VM.sNil := pss_imp pss_nil fun D σ H h => by
  obtain ⟨G, F, μ, ρ, st, DV, l, r, d, hk⟩ := h
  exact hk.nx σ H F μ ρ st Ext.refl l r d
theorem vb_cons (h1 : VSt X s1 u) (h2 : VB X ss u2) : VB X (s1 :: ss) (VM.sCons u u2) := pss_imp (pss_cons h1 h2) fun D σ H h => by
  obtain ⟨G, F, μ, ρ, st, DV, l, r, d, hk⟩ := h
  exact ⟨G, F, μ, ρ, st, _, l, r, d, ⟨fun σ' H' F' μ' ρ' st' e l' r' q => ⟨G, F', μ', ρ', st', DV, l', r', q, hk.mono e⟩, hk.rt, hk.bk, hk.ct, hk.xk⟩⟩
theorem vb_one (h1 : VSt X s1 u) : VB X [s1] u := pss_one h1
theorem vs_doc {x j p1 p2} : VSt X (.Expr (.Constant (.str x) j p1) p2) VM.sNil := ps_imp ps_doc fun D σ H h => by
  obtain ⟨G, F, μ, ρ, st, DV, l, r, d, hk⟩ := h
  exact hk.nx σ H F μ ρ st Ext.refl l r d
theorem vs_pass : VSt X (.Pass pos) VM.sNil := ps_imp ps_pass fun D σ H h => by
  obtain ⟨G, F, μ, ρ, st, DV, l, r, d, hk⟩ := h
  exact hk.nx σ H F μ ρ st Ext.refl l r d
theorem vs_break : VSt X (.Break pos) VM.sBreak := ps_imp ps_break fun D σ H h => by
  obtain ⟨G, F, μ, ρ, st, DV, l, r, d, hk⟩ := h
  exact hk.bk σ H F μ ρ st Ext.refl l r d
theorem vs_cont : VSt X (.Continue pos) VM.sCont := ps_imp ps_continue fun D σ H h => by
  obtain ⟨G, F, μ, ρ, st, DV, l, r, d, hk⟩ := h
  exact hk.ct σ H F μ ρ st Ext.refl l r d
theorem vs_never : VSt X s1 VM.sNever := ps_imp ps_never fun D σ H h => by
  obtain ⟨G, F, μ, ρ, st, DV, l, r, d, hk⟩ := h
  exact d.elim
theorem vb_never : VB X ss VM.sNever := pss_imp pss_never fun D σ H h => by
  obtain ⟨G, F, μ, ρ, st, DV, l, r, d, hk⟩ := h
  exact d.elim
theorem vs_expr (he : VE X e te) (hs : swapsWith e none pos.line X.env = pure false := by rfl) : VSt X (.Expr e pos) (VM.sExpr te) := ps_imp (ps_expr he hs) fun D σ H h => by
  obtain ⟨G, F, μ, ρ, st, DV, l, r, d, hk⟩ := h
  unfold VM.sExpr at d
  rw [hk.xk] at d
  exact bind1 l r d fun x H1 F1 μ1 px st1 e1 l1 r1 p1 q1 => hk.nx σ H1 F1 μ1 ρ st1 e1 l1 r1 q1
theorem vs_ret (he : VE X e te) : VSt X (.Return (some e) pos) (VM.sRet te) := ps_imp (ps_ret he) fun D σ H h => by
  obtain ⟨G, F, μ, ρ, st, DV, l, r, d, hk⟩ := h
  unfold VM.sRet at d
  rw [hk.xk] at d
  exact bind1 l r d fun x H1 F1 μ1 px st1 e1 l1 r1 p1 q1 => hk.rt x H1 F1 μ1 px st1 e1 l1 p1 q1
theorem vs_retN : VSt X (.Return none pos) VM.sRetN := ps_imp ps_retN fun D σ H h => by
  obtain ⟨G, F, μ, ρ, st, DV, l, r, d, hk⟩ := h
  exact hk.rt _ H F μ .non st Ext.refl l (rep_non.mpr rfl) d
theorem vs_if (hc : VT X c t1) (ha : VB X ss u) (hb : VB X ss2 u2) : VSt X (.If c ss ss2 pos) (VM.sIf t1 u u2) := ps_imp (ps_if hc ha hb) fun D σ H h => by
  obtain ⟨G, F, μ, ρ, st, DV, l, r, d, hk⟩ := h
  unfold VM.sIf at d
  rw [hk.xk] at d
  refine bindT l r d fun b H1 F1 μ1 st1 e1 l1 r1 q1 => ?_
  cases b with
  | true =>
    rw [if_pos rfl] at q1 ⊢
    exact ⟨G, F1, μ1, ρ, st1, DV, l1, r1, q1, hk.mono e1⟩
  | false =>
    rw [if_neg Bool.false_ne_true] at q1 ⊢
    exact ⟨G, F1, μ1, ρ, st1, DV, l1, r1, q1, hk.mono e1⟩
theorem asg_imp {g : VM.TG} {sl : List Nat} {K : PySem.W.Frag} {D : L2.Ends} {σ : L2.St} {H : Hp} (h : rS K (VM.sSet g te) D σ H) : tAsg (rE K te) (rG K g sl) D σ H := by
  obtain ⟨G, F, μ, ρ, st, DV, l, r, d, hk⟩ := h
  unfold VM.sSet at d
  rw [hk.xk] at d
  exact bind1 l r d fun x H1 F1 μ1 px st1 e1 l1 r1 p1 q1 => ⟨G, F1, μ1, ρ, st1, _, px, l1, r1, p1, q1, fun σ' ρ' st' l' r' _ _ q => hk.nx σ' H1 F1 μ1 ρ' st' e1 l' r' q⟩
theorem vs_asg {g : VM.TG} {sl : List Nat} (he : VE X e te) (hg : VG X tg g sl) (hs : swapsWithSole [tg] e pos.line X.env = pure false := by rfl) (hw : swappedStores [tg] e X.env = pure none := by rfl)
    (h1 : (assignEach [tg] X.env).map (·.2) = [assign tg X.env] := by rfl) : VSt X (.Assign [tg] e pos) (VM.sSet g te) := ps_imp (ps_asg he hg hs hw h1) fun D σ H h => asg_imp h
theorem set_imp {i : Nat} {K : PySem.W.Frag} {D : L2.Ends} {σ : L2.St} {H : Hp} (h : rS K (VM.sSet (VM.gName i) te) D σ H) : tAsg (rE K te) (gName i) D σ H := by
  obtain ⟨G, F, μ, ρ, st, DV, l, r, d, hk⟩ := h
  unfold VM.sSet at d
  rw [hk.xk] at d
  exact bind1 l r d fun x H1 F1 μ1 px st1 e1 l1 r1 p1 q1 => hk.nx _ H1 F1 μ1 _ st1 e1 l1 (r1.set i p1) q1
theorem vs_set {i : Nat} {y : Str} {pos' : Pos} (hN : X.N.Nodup) (hi : X.N[i]? = some y) (hx : Loc X.env.scope y) (he : VE X e te) (hs : swapsWith e (some (.Name y pos')) pos.line X.env = pure false := by rfl) (hf : X.fn y = true ∨ X.env.scope.names.lookup y = some .local := by first | exact .inl rfl | exact .inr rfl | assumption) :
    VSt X (.Assign [.Name y pos'] e pos) (VM.sSet (VM.gName i) te) := ps_imp (ps_set hN hi hx he hs hf) fun D σ H h => set_imp h
/-- name = [..] on one line -/
theorem vs_setc {i0 : Nat} {y : Str} {py : Pos} {elt iter : Expr} {ifs : List Expr} {scope : Scope} {own : List (Str × Nat)} {spos : Pos} {i : VM.TI} {g : VM.TG} {t : VM.TT} {sl : List Nat} (hc : X.calm = true) (hN : X.N.Nodup) (hy : X.N[i0]? = some y) (hyl : X.env.scope.names.lookup y = some .local)
    (hsw : swapsWith (.ListComp elt [⟨tg, iter, ifs, 0⟩] scope pos) (some (.Name y py)) spos.line X.env = pure true) (ok : BlkOk X.N X.env.scope scope own) (hi : VI X tg iter i) (hsl : ∀ j ∈ sl, j ∈ own.map (·.2))
    (hg : ∀ s H C cl fp, VG (BX X scope s H C cl fp) tg g sl) (ht : ∀ s H C cl fp, PTs (BX X scope s H C cl fp) ifs (rT X.K t)) (he : ∀ s H C cl fp, VE (BX X scope s H C cl fp) elt te) (hs : ∀ x, foldedSetIterable iter X.env x = pure x := by intro _; rfl) :
    VSt X (.Assign [.Name y py] (.ListComp elt [⟨tg, iter, ifs, 0⟩] scope pos) spos) (VM.sSet (VM.gName i0) (VM.eComp i g t te (own.map (·.2)))) := ps_imp (ps_setLc hc hN hy hyl hsw hi ok hg ht he hs) fun D σ H h =>
  lc_imp (wi := fun _ _ _ => True) hsl (show rE X.K _ σ H (fun x H1 => gName i0 x σ H1 D.nx) from set_imp h)
/-- name = [..] on one line -/
theorem vs_setcM {i0 : Nat} {y : Str} {py : Pos} {elt iter : Expr} {ifs : List Expr} {scope : Scope} {own : List (Str × Nat)} {spos : Pos} {i : VM.TI} {g : VM.TG} {t : VM.TT} {sl : List Nat} (hc : X.calm = true) (hN : X.N.Nodup) (hy : X.N[i0]? = some y) (hyl : X.env.scope.names.lookup y = some .local)
    (hsw : swapsWith (.ListComp elt [⟨tg, iter, ifs, 0⟩] scope pos) (some (.Name y py)) spos.line X.env = pure true) (ok : BlkOk X.N X.env.scope scope own) (hi : VI X tg iter i) (hsl : ∀ j ∈ sl, j ∈ own.map (·.2))
    (hg : ∀ s H C cl fp, VG (BX X scope s H C cl fp) tg g sl) (ht : ∀ s H C cl fp, PTs (BX X scope s H C cl fp) ifs (rT X.K t)) (he : ∀ s H C cl fp, VE (BX X scope s H C cl fp) elt te) (hs : ∀ x, foldedSetIterable iter X.env x = pure x := by intro _; rfl) :
    VSt X (.Assign [.Name y py] (.ListComp elt [⟨tg, iter, ifs, 0⟩] scope pos) spos) (VM.sSet (VM.gName i0) (VM.eCompM i g t te (own.map (·.2)))) := ps_imp (ps_setLc hc hN hy hyl hsw hi ok hg ht he hs) fun D σ H h =>
  lc_impM (wi := fun _ _ _ => True) hsl (show rE X.K _ σ H (fun x H1 => gName i0 x σ H1 D.nx) from set_imp h)
/-- a, b = x, y -/
theorem vs_par {i j : Nat} {y z : Str} {px py pt : Pos} {kt k2 pt2} (hc : X.calm = true) (hN : X.N.Nodup) (hi : X.N[i]? = some y) (hj : X.N[j]? = some z) (hij : i ≠ j)
    (hx : X.env.scope.names.lookup y = some .local) (hy : X.env.scope.names.lookup z = some .local) (ha : VA X [a, b] tas)
    (hw : swappedStores [.Tuple [.Name y px, .Name z py] kt pt] (.Tuple [a, b] k2 pt2) X.env = pure (some [y, z]))
    (hs : swapsWithSole [.Tuple [.Name y px, .Name z py] kt pt] (.Tuple [a, b] k2 pt2) pos.line X.env = pure false := by rfl) :
    VSt X (.Assign [.Tuple [.Name y px, .Name z py] kt pt] (.Tuple [a, b] k2 pt2) pos) (VM.sPar [i, j] tas) := ps_imp (ps_par hc hN hi hj hij hx hy ha hw hs) fun D σ H h => by
  obtain ⟨G, F, μ, ρ, st, DV, l, r, d, hk⟩ := h
  unfold VM.sPar at d
  rw [hk.xk] at d
  refine bindA l r d fun vs H1 F1 μ1 pvs st1 e1 l1 r1 p1 q1 => ?_
  match pvs, q1 with
  | [p, q], q1 =>
    obtain ⟨v, _, rfl, rv, p1⟩ := repL_cons.mp p1
    obtain ⟨w, _, rfl, rw', p1⟩ := repL_cons.mp p1
    obtain rfl := repL_nil.mp p1
    exact ⟨v, w, rfl, hk.nx _ H1 F1 μ1 _ st1 e1 l1 ((r1.set i rv).set j rw') q1⟩
  | [], q1 => exact q1.elim
  | [_], q1 => exact q1.elim
  | _ :: _ :: _ :: _, q1 => exact q1.elim
theorem ixN_of {n : Nat} {i : Int} {j : Nat} (h : VM.ix n i = some j) : ixN n i = some j := by
  unfold VM.ix at h
  unfold ixN
  split at h <;> rename_i h0
  · split at h <;> rename_i h1
    · cases h
      first
        | (rw [if_pos h0, if_pos h1])
        | (simp only [h0, h1, if_true]; omega)
        | (simp [h0, h1])
    · cases h
  · split at h <;> rename_i h1
    · cases h
      first
        | (rw [if_neg h0, if_pos h1])
        | (simp [h0, h1])
    · cases h
theorem vs_setix {o i : Expr} {p3 : Pos} (he : VE X e te) (ho : VE X o ta) (hi : VE X i tb)
    (ha : ∀ v, assign (.Subscript o i p3) X.env v = (do
      let ov ← holding [v] (eval o X.env)
      let iv ← holding [v, ov] (eval i X.env)
      standAt p3
      holding [v, ov, iv] (setItem ov iv v)
      release [v, ov, iv] []) := by intro _; rfl)
    (hs : swapsWithSole [.Subscript o i p3] e pos.line X.env = pure false := by rfl) (hw : swappedStores [.Subscript o i p3] e X.env = pure none := by rfl)
    (h1 : (assignEach [.Subscript o i p3] X.env).map (·.2) = [assign (.Subscript o i p3) X.env] := by rfl) : VSt X (.Assign [.Subscript o i p3] e pos) (VM.sSetIx ta tb te) :=
  ps_imp (ps_asg he (pg_sub ho hi set_list ha) hs hw h1) fun D σ H h => by
    obtain ⟨G, F, μ, ρ, st, DV, l, r, d, hk⟩ := h
    unfold VM.sSetIx at d
    rw [hk.xk] at d
    refine bind1 l r d fun w H1 F1 μ1 pw st1 e1 l1 r1 p1 q1 => bind1 l1 r1 q1 fun o H2 F2 μ2 po st2 e2 l2 r2 p2 q2 => bind1 l2 r2 q2 fun i H3 F3 μ3 pi st3 e3 l3 r3 p3 q3 => ?_
    unfold VM.setIx at q3
    split at q3
    · rename_i j z
      obtain rfl := rep_int.mp p3
      obtain ⟨a, ea, rfl⟩ := rep_ref.mp (p2.mono e3)
      split at q3
      · rename_i xs ex
        split at q3
        · rename_i n en
          obtain ⟨hf, vs, hh, rl⟩ := l3.obj j a _ ea ex
          refine ⟨a, vs, z, n, rfl, rfl, hh, ixN_of (by rw [rl.length]; exact en), hk.nx σ _ F3 μ3 ρ _ ((e1.trans e2).trans e3) (l3.put ea ?_ hf) r3 q3⟩
          exact ⟨hf, _, upd_same, rl.set n ((p1.mono e2).mono e3)⟩
        · exact q3.elim
      · exact q3.elim
    · exact q3.elim
theorem vs_for {iter : Expr} {body : List Stmt} {i : VM.TI} {g : VM.TG} {b : VM.TS} {sl : List Nat} (hp : PassesOwn (model X.prog X.w) X.A X.env X.xe) (hc : X.calm = true) (hi : VI X tg iter i) (hg : VG X tg g sl) (hb : VB X body b)
    (hs : ∀ x, foldedSetIterable iter X.env x = pure x := by intro _; rfl) : VSt X (.For tg iter body [] pos) (VM.sFor i g b) := ps_imp (ps_for hp hc hi hg hb hs) fun D σ H h => by
  obtain ⟨G, F, μ, ρ, st, DV, l, r, d, hk⟩ := h
  unfold VM.sFor at d
  rw [hk.xk] at d
  refine ⟨G, F, μ, ρ, st, _, l, r, d, fun J H1 F1 μ1 xs stay st1 e1 l1 w q => ?_⟩
  refine ⟨fun i m σ H => m = xs.length - i ∧ i ≤ xs.length ∧ ∃ F' μ' ρ' st', Ext F1 μ1 F' μ' ∧ Lay X.K G F' μ' st' H ∧ EnvR X.K F' μ' σ ρ' ∧ VM.forGo g b stay (xs.drop i) DV ρ' st',
    ⟨xs.length, by simp, Nat.zero_le _, F1, μ1, ρ, st1, Ext.refl, l1, r.mono e1, q⟩, ?_⟩
  rintro i m σ H ⟨rfl, hi, F', μ', ρ', st', e2, l2, r2, q2⟩
  by_cases hlt : i < xs.length
  · rw [List.drop_eq_getElem_cons hlt] at q2
    obtain ⟨hstay, q2⟩ := q2
    refine .inr ⟨w.goes _ H F' μ' st' i e2 l2 hstay hlt, fun σ' H' => xs.length - (i + 1) = xs.length - (i + 1) ∧ i + 1 ≤ xs.length ∧ ∃ F' μ' ρ' st', Ext F1 μ1 F' μ' ∧ Lay X.K G F' μ' st' H' ∧ EnvR X.K F' μ' σ' ρ' ∧ VM.forGo g b stay (xs.drop (i + 1)) DV ρ' st', fun σ' H' p' => ⟨xs.length - (i + 1), by omega, p'⟩, fun x H' hy => ?_⟩
    obtain ⟨F3, e3, l3, rx⟩ := w.yields _ H F' μ' st' i xs[i] x H' e2 l2 hstay (by simp [hlt]) hy
    refine ⟨G, F3, μ', ρ', st', _, xs[i], l3, r2.mono e3, rx, q2, fun σ4 ρ4 st4 l4 r4 _ _ q4 => ?_⟩
    have hk' := hk.mono ((e1.trans e2).trans e3)
    have again : ∀ (σ' : L2.St) (H' F5 : Hp) (μ5 : List Addr) (ρ5 : VM.Env) (st5 : Store), Ext F3 μ' F5 μ5 → Lay X.K G F5 μ5 st5 H' → EnvR X.K F5 μ5 σ' ρ5 → VM.forGo g b stay (xs.drop (i + 1)) DV ρ5 st5 → (xs.length - (i + 1) = xs.length - (i + 1) ∧ i + 1 ≤ xs.length ∧ ∃ F' μ' ρ' st', Ext F1 μ1 F' μ' ∧ Lay X.K G F' μ' st' H' ∧ EnvR X.K F' μ' σ' ρ' ∧ VM.forGo g b stay (xs.drop (i + 1)) DV ρ' st') :=
      fun σ' H' F5 μ5 ρ5 st5 e5 l5 r5 q5 => ⟨rfl, by omega, F5, μ5, ρ5, st5, (e2.trans e3).trans e5, l5, r5, q5⟩
    exact ⟨G, F3, μ', ρ4, st4, _, l4, r4, q4, ⟨again, hk'.rt, hk'.nx, again, hk'.xk⟩⟩
  · have e : i = xs.length := by omega
    subst e
    rw [List.drop_length] at q2
    exact .inl ⟨w.stops _ H F' μ' st' e2 l2 q2.1, hk.nx σ H F' μ' ρ' st' (e1.trans e2) l2 r2 q2.2⟩
theorem vs_while {body : List Stmt} {b : VM.TS} (hp : PassesOwn (model X.prog X.w) X.A X.env X.xe) (hc : VT X c t1) (hb : VB X body b) : VSt X (.While c body [] pos) (VM.sWhile t1 b) := ps_imp (ps_while hp hc hb) fun D σ H h => by
  obtain ⟨G, F, μ, ρ, st, DV, l, r, ⟨n0, d⟩, hk⟩ := h
  refine ⟨fun m σ H => ∃ F' μ' ρ' st', Ext F μ F' μ' ∧ Lay X.K G F' μ' st' H ∧ EnvR X.K F' μ' σ ρ' ∧ VM.whileGo t1 b m DV ρ' st', ⟨n0, F, μ, ρ, st, Ext.refl, l, r, d⟩, ?_⟩
  rintro m σ H ⟨F1, μ1, ρ1, st1, e1, l1, r1, q1⟩
  cases m with
  | zero => exact q1.elim
  | succ n =>
    unfold VM.whileGo at q1
    rw [hk.xk] at q1
    refine bindT l1 r1 q1 fun bb H2 F2 μ2 st2 e2 l2 r2 q2 => ?_
    have hk' := hk.mono (e1.trans e2)
    cases bb with
    | true =>
      rw [if_pos rfl] at q2 ⊢
      have again : ∀ (σ' : L2.St) (H' F5 : Hp) (μ5 : List Addr) (ρ5 : VM.Env) (st5 : Store), Ext F2 μ2 F5 μ5 → Lay X.K G F5 μ5 st5 H' → EnvR X.K F5 μ5 σ' ρ5 → VM.whileGo t1 b n DV ρ5 st5 → (∃ F' μ' ρ' st', Ext F μ F' μ' ∧ Lay X.K G F' μ' st' H' ∧ EnvR X.K F' μ' σ' ρ' ∧ VM.whileGo t1 b n DV ρ' st') :=
        fun σ' H' F5 μ5 ρ5 st5 e5 l5 r5 q5 => ⟨F5, μ5, ρ5, st5, (e1.trans e2).trans e5, l5, r5, q5⟩
      exact ⟨fun σ' H' => ∃ F' μ' ρ' st', Ext F μ F' μ' ∧ Lay X.K G F' μ' st' H' ∧ EnvR X.K F' μ' σ' ρ' ∧ VM.whileGo t1 b n DV ρ' st', fun σ' H' z => ⟨n, Nat.lt_succ_self n, z⟩, G, F2, μ2, ρ1, st2, _, l2, r2, q2, ⟨again, hk'.rt, hk'.nx, again, rfl⟩⟩
    | false =>
      rw [if_neg Bool.false_ne_true] at q2 ⊢
      exact hk'.nx σ H2 F2 μ2 ρ1 st2 Ext.refl l2 r2 q2
end
end VS
end
section
namespace VS
open PySem PySem.Spec PyProof.Rows L2
open VM (PV SO Store)
def spOf (K : PySem.W.Frag) (cs : VM.CS) (f np : Nat) : Sp := fun vs H Q _ => vs.length = np ∧ ∃ G F μ st pxs k, Lay K G F μ st H ∧ RepL K F μ pxs vs ∧ cs f pxs st k nox ∧ Kon K G F μ k Q
section
variable {X : Cx} {a b c e o : Expr} {ta tb tc te : VM.TE} {t1 t2 : VM.TT} {pos p2 p : Pos} {es rest : List Expr} {tas : VM.TA} {x : Str} {tg : Expr} {k : Nat} {f : Addr} {fd : FuncData} {ps : List Str} {cs : VM.CS} {i : Nat}
theorem RepL.len1 {K : PySem.W.Frag} {F : Hp} {μ : List Addr} {xs : List PV} {vs : List V} (r : RepL K F μ xs vs) : xs.length = vs.length := r.length.symm
theorem ve_call (F : FnOk X.prog X.w X.K X.mg X.base CX0 k f fd ps (spOf X.K cs i ps.length)) (hr : Room k X.A) (hm : X.mg x = some (.ref f)) (hk : PySem.W.keepIn X.K (.ref f) = true) (hb : Binds X.K fd ps []) (hn : ∀ us st k x, cs i us st k x → us.length = ps.length) (hg : Gl X x) (ha : VA X (e :: es) tas)
    (hdb : (x == ("__debug__" : Str)) = false := by decide) (he : starEach (e :: es) X.env = (false, eval e X.env) :: starEach es X.env := by rfl) (hpl : (backTo pos (starEach es X.env)).any (·.1) = false := by rfl) :
    VE X (.Call (.Name x p) (e :: es) [] pos) (VM.eCall cs i tas) := pe_imp (pe_call (E := E0) F hr hg hm hk hb .nil pass0 ha hdb he hpl) fun σ H Q h => by
  obtain ⟨G, F, μ, ρ, st, k, l, r, d, hk⟩ := h
  refine bindA l r d fun vs H1 F1 μ1 pvs st1 e1 l1 r1 p1 q1 => ?_
  rw [List.append_nil]
  exact ⟨by rw [p1.length]; exact hn _ _ _ _ q1, G, F1, μ1, st1, pvs, k, l1, p1, q1, hk.mono e1⟩
theorem ve_call0 (F : FnOk X.prog X.w X.K X.mg X.base CX0 k f fd ps (spOf X.K cs i ps.length)) (hr : Room k X.A) (hm : X.mg x = some (.ref f)) (hk : PySem.W.keepIn X.K (.ref f) = true) (hb : Binds X.K fd ps []) (hn : ∀ us st k x, cs i us st k x → us.length = ps.length) (hg : Gl X x)
    (hdb : (x == ("__debug__" : Str)) = false := by decide) :
    VE X (.Call (.Name x p) [] [] pos) (VM.eCall cs i VM.aNil) := pe_imp (pe_call0 (E := E0) F hr hg hm hk hb .nil pass0 hdb) fun σ H Q h => by
  obtain ⟨G, F, μ, ρ, st, k, l, r, d, hk⟩ := h
  exact ⟨hn _ _ _ _ d, G, F, μ, st, [], k, l, repL_nil.mpr rfl, d, hk⟩
def LkF (K : PySem.W.Frag) (f : Addr) (fd : FuncData) : Prop := ∃ (oc : Value) (od : Option Addr) (osl : Array (Option Value)), K.lookup f = some ⟨oc, od, .func fd, osl⟩
/-- the callee of one def -/
structure Callee (P : Program) (w : World) (K : PySem.W.Frag) (mg : Str → Option Value) (base : Heap) (x : Str) (cs : VM.CS) (k i : Nat) (ps : List Str) : Prop where
  ok : ∃ f fd, FnOk P w K mg base CX0 k f fd ps (spOf K cs i ps.length) ∧ mg x = some (.ref f) ∧ PySem.W.keepIn K (.ref f) = true ∧ Binds K fd ps [] ∧ LkF K f fd
  len : ∀ us st k x, cs i us st k x → us.length = ps.length
theorem ve_calle (C : Callee X.prog X.w X.K X.mg X.base x cs k i ps) (hr : Room k X.A) (hg : Gl X x) (ha : VA X (e :: es) tas)
    (hdb : (x == ("__debug__" : Str)) = false := by decide) (he : starEach (e :: es) X.env = (false, eval e X.env) :: starEach es X.env := by rfl) (hpl : (backTo pos (starEach es X.env)).any (·.1) = false := by rfl) :
    VE X (.Call (.Name x p) (e :: es) [] pos) (VM.eCall cs i tas) := by
  obtain ⟨f, fd, F, hm, hk, hb, _⟩ := C.ok
  exact ve_call F hr hm hk hb C.len hg ha hdb he hpl
theorem ve_calle0 (C : Callee X.prog X.w X.K X.mg X.base x cs k i ps) (hr : Room k X.A) (hg : Gl X x) (hdb : (x == ("__debug__" : Str)) = false := by decide) :
    VE X (.Call (.Name x p) [] [] pos) (VM.eCall cs i VM.aNil) := by
  obtain ⟨f, fd, F, hm, hk, hb, _⟩ := C.ok
  exact ve_call0 F hr hm hk hb C.len hg hdb
theorem ve_max2 (hc : X.calm = true) (ha : VE X a ta) (hb : VE X b tb) (hg : Gl X "max") (hm : X.mg "max" = none) (hv : bootBuiltins "max" = some (.builtin "max") := by decide +kernel) (hs : starEach [a, b] X.env = (false, eval a X.env) :: starEach [b] X.env := by rfl) (hs2 : starEach [b] X.env = (false, eval b X.env) :: starEach [] X.env := by rfl) (hpl : (backTo pos (starEach [b] X.env)).any (·.1) = false := by rfl) :
    VE X (.Call (.Name "max" p) [a, b] [] pos) (VM.eMax2 ta tb) := pe_imp (pe_callB (call_max2 hc) hg hm hv (pa_cons ha (pa_cons hb pa_nil hs2) hs) (he := hs) (hpl := hpl)) fun σ H Q h => by
  obtain ⟨G, F, μ, ρ, st, k, l, r, d, hk⟩ := h
  refine bind1 l r d fun x H1 F1 μ1 px st1 e1 l1 r1 p1 q1 => bind1 l1 r1 q1 fun y H2 F2 μ2 py st2 e2 l2 r2 p2 q2 => ?_
  split at q2
  · rename_i i j
    obtain rfl := rep_int.mp (p1.mono e2)
    obtain rfl := rep_int.mp p2
    exact ⟨i, j, rfl, (hk.mono (e1.trans e2)).same l2 (rep_int.mpr rfl) q2⟩
  · exact q2.elim
theorem vt_if {t3 : VM.TT} (hc : VT X c t1) (ha : VT X a t2) (hb : VT X b t3) : VT X (.IfExp c a b pos) (VM.tIf t1 t2 t3) := by
  refine ⟨fun pins s σ H Q I h => ?_⟩
  obtain ⟨G, F, μ, ρ, st, k, l, r, d, hk⟩ := h
  refine PyProof.Rows.isTrue_IfExp (thn (hc.run pins s σ H _ I (bindT (W := fun b H1 => rT X.K (if b = true then t2 else t3) σ H1 Q) l r d fun b H1 F1 μ1 st1 e1 l1 r1 q1 => ?_)) fun b s1 ⟨H1, I1, q1⟩ => ?_)
  · cases b with
    | true => exact ⟨G, F1, μ1, ρ, st1, k, l1, r1, q1, hk.mono e1⟩
    | false => exact ⟨G, F1, μ1, ρ, st1, k, l1, r1, q1, hk.mono e1⟩
  · cases b with
    | true => exact ha.run pins s1 σ H1 Q I1 q1
    | false => exact hb.run pins s1 σ H1 Q I1 q1
theorem ve_append {apos cpos : Pos} (ho : VE X o ta) (he : VE X e te)
    (hbase : attributeBase o "append" X.env (eval o X.env) = eval o X.env := by rfl)
    (hfew : ((backTo cpos (starEach [e] X.env)).all (fun x => !x.1) && (backToKw cpos (keywordEach [] X.env)).all (fun x => x.1.isSome)
      && decide ([e].length + ([] : List Keyword).length + (if ([] : List Keyword).isEmpty then 0 else 1) < 30)) = true := by rfl)
    (hline : (apos.endLine == cpos.line) = true := by rfl) (hs : starEach [e] X.env = (false, eval e X.env) :: starEach [] X.env := by rfl) (hplain : (backTo cpos (starEach [] X.env)).any (·.1) = false := by rfl) :
    VE X (.Call (.Attribute o "append" apos) [e] [] cpos) (VM.eAppend ta te) := pe_imp (pe_bm PySem.F.plainAttrs_list PySem.F.slot_list_append PySem.F.type_list_append mt_append ho (pa_cons he pa_nil hs) hbase hfew hline hs hplain) fun σ H Q h => by
  obtain ⟨G, F, μ, ρ, st, k, l, r, d, hk⟩ := h
  refine bind1 l r d fun x H1 F1 μ1 px st1 e1 l1 r1 p1 q1 => ?_
  obtain ⟨hl, q1⟩ := q1
  refine ⟨?_, ?_⟩
  · obtain ⟨xs, hx⟩ := Option.isSome_iff_exists.mp hl
    obtain ⟨a, vs, rfl, h1, _⟩ := asL_rep l1 p1 hx
    exact .inl ⟨rfl, vs, .inl (.inl h1)⟩
  · refine bind1 l1 r1 q1 fun y H2 F2 μ2 py st2 e2 l2 r2 p2 q2 => ?_
    split at q2
    · rename_i j
      obtain ⟨a, ea, rfl⟩ := rep_ref.mp (p1.mono e2)
      split at q2
      · rename_i xs ex
        obtain ⟨hf, vs, hh, rl⟩ := l2.obj j a _ ea ex
        refine ⟨a, vs, y, rfl, rfl, hh, by rw [rl.length, sizeLine_eq]; exact q2.1, (hk.mono (e1.trans e2)) .non _ F2 μ2 .non _ Ext.refl (l2.put ea ?_ hf) (rep_non.mpr rfl) q2.2⟩
        exact ⟨hf, _, upd_same, rl.append (repL_cons.mpr ⟨y, [], rfl, p2, repL_nil.mpr rfl⟩)⟩
      · exact q2.elim
    · exact q2.elim
theorem ve_insert {i : Expr} {ti : VM.TE} {apos cpos : Pos} (ho : VE X o ta) (hi : VE X i ti) (he : VE X e te)
    (hbase : attributeBase o "insert" X.env (eval o X.env) = eval o X.env := by rfl)
    (hfew : ((backTo cpos (starEach [i, e] X.env)).all (fun x => !x.1) && (backToKw cpos (keywordEach [] X.env)).all (fun x => x.1.isSome)
      && decide ([i, e].length + ([] : List Keyword).length + (if ([] : List Keyword).isEmpty then 0 else 1) < 30)) = true := by rfl)
    (hline : (apos.endLine == cpos.line) = true := by rfl) (hs : starEach [i, e] X.env = (false, eval i X.env) :: starEach [e] X.env := by rfl) (hs2 : starEach [e] X.env = (false, eval e X.env) :: starEach [] X.env := by rfl) (hplain : (backTo cpos (starEach [e] X.env)).any (·.1) = false := by rfl) :
    VE X (.Call (.Attribute o "insert" apos) [i, e] [] cpos) (VM.eInsert ta ti te) := pe_imp (pe_bm PySem.F.plainAttrs_list PySem.F.slot_list_insert PySem.F.type_list_insert mt_insert ho (pa_cons hi (pa_cons he pa_nil hs2) hs) hbase hfew hline hs hplain) fun σ H Q h => by
  obtain ⟨G, F, μ, ρ, st, k, l, r, d, hk⟩ := h
  refine bind1 l r d fun x H1 F1 μ1 px st1 e1 l1 r1 p1 q1 => ?_
  obtain ⟨hl, q1⟩ := q1
  refine ⟨?_, ?_⟩
  · obtain ⟨xs, hx⟩ := Option.isSome_iff_exists.mp hl
    obtain ⟨a, vs, rfl, h1, _⟩ := asL_rep l1 p1 hx
    exact .inl ⟨rfl, vs, .inl (.inl h1)⟩
  · refine bind1 l1 r1 q1 fun z H2 F2 μ2 pz st2 e2 l2 r2 p2 q2 => bind1 l2 r2 q2 fun y H3 F3 μ3 py st3 e3 l3 r3 p3 q3 => ?_
    split at q3
    · rename_i j n
      obtain rfl := rep_int.mp p2
      obtain ⟨a, ea, rfl⟩ := rep_ref.mp ((p1.mono e2).mono e3)
      split at q3
      · rename_i xs ex
        obtain ⟨h0, h1, h2, q3⟩ := q3
        obtain ⟨hf, vs, hh, rl⟩ := l3.obj j a _ ea ex
        refine ⟨a, vs, n, y, rfl, rfl, hh, by rw [rl.length, sizeLine_eq]; exact h2, h0, by omega, (hk.mono ((e1.trans e2).trans e3)) .non _ F3 μ3 .non _ Ext.refl (l3.put ea ?_ hf) (rep_non.mpr rfl) q3⟩
        exact ⟨hf, _, upd_same, ((rl.take n.toNat).append (repL_cons.mpr ⟨y, [], rfl, p3, repL_nil.mpr rfl⟩)).append (rl.drop n.toNat)⟩
      · exact q3.elim
    · exact q3.elim
end
theorem envR_start {K : PySem.W.Frag} {F : Hp} {μ : List Addr} {N : List Str} {Fd : VM.FD} {pxs : List PV} {vs : List V} (r : RepL K F μ pxs vs) (hn : pxs.length = Fd.np) (hs : Fd.ns = N.length) : EnvR K F μ (L2.start N vs) (VM.start Fd pxs) := by
  have hl := r.length
  refine ⟨by simp [L2.start, VM.start, hl, hs, hn], fun i x q => ?_⟩
  unfold VM.start at q
  unfold L2.start
  by_cases hi : i < pxs.length
  · rw [List.getElem?_append_left (by simpa using hi), List.getElem?_map] at q
    cases e : pxs[i]? with
    | none => rw [e] at q; cases q
    | some y =>
      rw [e] at q
      cases q
      obtain ⟨v, h1, h2⟩ := r.get e
      exact ⟨v, by rw [List.getElem?_append_left (by simp [hl]; exact hi), List.getElem?_map, h1]; rfl, h2⟩
  · rw [List.getElem?_append_right (by simpa using hi)] at q
    have := List.mem_of_getElem? q
    simp at this
theorem fn_zero {P : Program} {w : World} {K : PySem.W.Frag} {mg : Str → Option Value} {base : Heap} {FT : Nat → Option VM.FD} {k i : Nat} {f : Addr} {fd : FuncData} {ps : List Str} : FnOk P w K mg base CX0 k f fd ps (spOf K (VM.callN FT 0) i ps.length) :=
  ⟨fun _ _ _ _ h => h.1, fun A outer s H args us vs Q E hr e0 hb hv h => by
    obtain ⟨_, G, F, μ, st, pxs, k, _, _, d, _⟩ := h
    exact d.elim⟩
theorem callN_len {FT : Nat → Option VM.FD} {n i : Nat} {Fd : VM.FD} {m : Nat} (hF : FT i = some Fd) (hm : Fd.np = m) {us : List PV} {st : Store} {k x : VM.KV} (h : VM.callN FT n i us st k x) : us.length = m := by
  cases n with
  | zero => exact h.elim
  | succ n =>
    unfold VM.callN at h
    rw [hF] at h
    exact h.1.trans hm
theorem fn_succ {P : Program} {w : World} {K : PySem.W.Frag} {mg : Str → Option Value} {base : Heap} {FT : Nat → Option VM.FD} {n k i : Nat} {x qual : Str} {params : Arguments} {body : List Stmt} {scope : Scope} {f : Addr} {fd : FuncData} {N ps : List Str} {Fd : VM.FD}
    (F : FunD K x qual params body scope [] [] f fd) (S : FnScope N ps scope) (hF : FT i = some Fd) (hp : Fd.np = ps.length) (hs : Fd.ns = N.length)
    (hb : ∀ (cdv : Value) (A : Around) (outer : List Env) (s : Shared) (H : Hp) (E : XK), Room k (A.deeper (envOfC qual scope s.heap.objs.size f cdv)) → VB (cxOf CX0 P w K mg base N qual scope f cdv A outer s H E).nox body (Fd.body (VM.callN FT n))) :
    FnOk P w K mg base CX0 (k + 1) f fd ps (spOf K (VM.callN FT (n + 1)) i ps.length) := by
  refine F.ok S (fun vs H Q E h => h.1) (fun cdv A outer s H vs Q E hr h => ⟨_, PSs.nox (hb cdv A outer s H E hr), ?_⟩)
  obtain ⟨_, G, F, μ, st, pxs, k, l, r, d, hk⟩ := h
  unfold VM.callN at d
  rw [hF] at d
  obtain ⟨hl, d⟩ := d
  exact ⟨G, F, μ, _, st, _, l, envR_start r hl hs, d, ⟨fun σ' H' F' μ' ρ' st' e l' r' q => hk .non H' F' μ' .non st' e l' (rep_non.mpr rfl) q, hk, fun _ _ _ _ _ _ _ _ _ q => q.elim, fun _ _ _ _ _ _ _ _ _ q => q.elim, rfl⟩⟩
/-- the law's call -/
theorem lay0 {K : PySem.W.Frag} {H : Hp} : Lay K (fun _ => none) (fun _ => none) [] [] H where
  gd := fun _ _ e => by cases e
  same := fun _ _ e => by cases e
  len := rfl
  nd := List.nodup_nil
  there := fun _ h => by cases h
  obj := fun _ _ _ h => by cases h
theorem lk_of {K : PySem.W.Frag} {x qual : Str} {params : Arguments} {body : List Stmt} {scope : Scope} {dvs : List V} {kws : List (Str × V)} {f : Addr} {fd : FuncData} (F : FunD K x qual params body scope dvs kws f fd) : LkF K f fd := by
  obtain ⟨oc, od, dV, kV, doc, pm, an, cdv, ct, osl, rfl, lk, _⟩ := F.ex
  exact ⟨oc, od, osl, lk⟩
theorem lk_inj {K : PySem.W.Frag} {f : Addr} {fd fd' : FuncData} (a : LkF K f fd) (b : LkF K f fd') : fd = fd' := by
  obtain ⟨oc, od, osl, e⟩ := a
  obtain ⟨oc', od', osl', e'⟩ := b
  rw [e] at e'
  injection e' with e'
  injection e' with _ _ e' _
  injection e'
theorem sp_law {K : PySem.W.Frag} {cs : VM.CS} {f : Nat} {H : Hp} {a : Addr} {is : List Int} {E : XK} (hS : SqL K H a (is.map V.int)) (h : cs f [.scr is] [] (fun v _ => v = .bl true) nox) : spOf K cs f 1 [.ref a] H (fun v _ => v = .bl true) E := by
  refine ⟨rfl, fun _ => none, fun b => if b = a then H b else none, [], [], [.scr is], _, ?_, ?_, h, fun v H' F' μ' x st' e l r q => ?_⟩
  · refine ⟨fun b o e => ?_, fun b o e => ?_, rfl, List.nodup_nil, fun _ h => (List.not_mem_nil h).elim, fun i b o h => ?_⟩
    · cases e
    · by_cases hb : b = a
      · rw [if_pos hb] at e
        exact e
      · rw [if_neg hb] at e
        cases e
    · cases h
  · refine repL_cons.mpr ⟨.ref a, [], rfl, rep_scr.mpr ⟨a, rfl, ?_⟩, repL_nil.mpr rfl⟩
    rcases hS with (h | ⟨o, h⟩) | h
    · exact .inl (.inl (by simpa using h))
    · exact .inl (.inr ⟨o, by simpa using h⟩)
    · exact .inr h
  · subst q
    exact rep_bl.mp r
end VS
end
section
namespace VS
open PySem PySem.Spec PyProof.Rows L2
theorem dv_fn {base : Heap} {P : Program} {N ps : List Str} {qual : Str} {scope : Scope} {L f : Addr} {cdv : Value} {outer : List PySem.Env} {A : Around} {n : Nat} (hS : base.NoSeer) (hT : P.given.tree = none) (S : FnScope N ps scope) (hr : Room (n + 40) (A.deeper (envOfC qual scope L f cdv))) :
    Dv base P (envOfC qual scope L f cdv :: outer) (A.deeper (envOfC qual scope L f cdv)) :=
  ⟨hS, hT, ⟨_, _, rfl, S.gen, S.co, rfl, rfl⟩, by have := hr.dp; unfold Builtin.pylongFrames; omega⟩
def LeK (K K' : PySem.W.Frag) : Prop := ∀ a o, K.lookup a = some o → K'.lookup a = some o
theorem FunD.le {K K' : PySem.W.Frag} {x qual : Str} {params : Arguments} {body : List Stmt} {scope : Scope} {f : Addr} {fd : FuncData} (F : FunD K x qual params body scope [] [] f fd) (h : LeK K K') : FunD K' x qual params body scope [] [] f fd := by
  obtain ⟨⟨oc, od, dV, kV, doc, pm, an, cdv, ct, osl, e, lk, hcd, hD, hK⟩, kp⟩ := F
  refine ⟨⟨oc, od, dV, kV, doc, pm, an, cdv, ct, osl, e, h _ _ lk, ?_, ?_, .inl rfl⟩, ?_⟩
  · unfold PySem.W.codeIn at hcd ⊢
    split at hcd
    · split at hcd
      · rename_i q
        rw [h _ _ q]
        exact hcd
      · cases hcd
    · cases hcd
  · rcases hD with hD | ⟨hD, _⟩
    · exact .inl hD
    · exact (hD rfl).elim
  · unfold PySem.W.keepIn
    show (match K'.lookup f with | some ⟨_, _, .func _, _⟩ => true | some ⟨_, _, .cls _, _⟩ => PySem.W.specialIn K' (.ref f) "__call__" == some (some (.builtin "type.__call__")) | _ => false) = true
    rw [h _ _ lk]
theorem lk_app {K E : PySem.W.Frag} {a : Addr} : (K ++ E).lookup a = (K.lookup a).or (E.lookup a) := by
  induction K with
  | nil => rfl
  | cons p K ih =>
    obtain ⟨b, o⟩ := p
    show ((b, o) :: (K ++ E)).lookup a = _
    rw [List.lookup_cons, List.lookup_cons]
    cases a == b with
    | true => rfl
    | false => exact ih
/-- a fragment widened by what a division looks at -/
theorem widen {K : PySem.W.Frag} {h : Heap} (X : K.In h) (S : h.NoSeer) : ∃ K' : PySem.W.Frag, LeK K K' ∧ K'.In h ∧ ∀ base : Heap, K'.In base → base.NoSeer := by
  obtain ⟨⟨mc, ⟨o1, es1, ep1, g1, d1⟩, c1, c2⟩, ⟨mm, ⟨o2, es2, ep2, g2, d2⟩, m1⟩, ⟨mb, ⟨o3, es3, ep3, g3, d3⟩, b1⟩, ⟨mg, bm, ob, ⟨o4, es4, ep4, g4, d4⟩, w1, w2, w3, w4⟩⟩ := S
  let E : PySem.W.Frag := [(cStatics, o1), (sysModules, o2), (builtinsNs, o3), (mainGlobals, o4), (bm, ob)]
  have hE : ∀ a o, E.lookup a = some o → h.get? a = some o := by
    intro a o q
    simp only [E, List.lookup_cons, List.lookup_nil] at q
    split at q
    · rename_i z; cases q; rw [eq_of_beq z]; exact g1
    · split at q
      · rename_i z; cases q; rw [eq_of_beq z]; exact g2
      · split at q
        · rename_i z; cases q; rw [eq_of_beq z]; exact g3
        · split at q
          · rename_i z; cases q; rw [eq_of_beq z]; exact g4
          · split at q
            · rename_i z; cases q; rw [eq_of_beq z]; exact w2
            · cases q
  have hIn : (K ++ E).In h := by
    intro a o q
    rw [lk_app] at q
    cases e : K.lookup a with
    | some o' =>
      rw [e] at q
      cases q
      exact X a _ e
    | none =>
      rw [e] at q
      exact hE a o q
  have hs : ∀ a o, h.get? a = some o → (E.lookup a).isSome = true → (K ++ E).lookup a = some o := by
    intro a o g q
    cases e : (K ++ E).lookup a with
    | some o' =>
      have := hIn a o' e
      rw [g] at this
      exact this.symm
    | none =>
      rw [lk_app] at e
      cases e2 : K.lookup a with
      | some _ => rw [e2] at e; cases e
      | none =>
        rw [e2] at e
        have e' : E.lookup a = none := e
        rw [e'] at q
        cases q
  refine ⟨K ++ E, fun a o q => by rw [lk_app, q]; rfl, hIn, fun base B => ?_⟩
  have t1 := B _ _ (hs cStatics o1 g1 (by simp [E]))
  have t2 := B _ _ (hs sysModules o2 g2 (by
    simp only [E, List.lookup_cons, List.lookup_nil]
    repeat (first | rfl | (split <;> try rfl))
    all_goals (first | rfl | (rename_i z; simp at z))))
  have t3 := B _ _ (hs builtinsNs o3 g3 (by
    simp only [E, List.lookup_cons, List.lookup_nil]
    repeat (first | rfl | (split <;> try rfl))
    all_goals (first | rfl | (rename_i z; simp at z))))
  have t4 := B _ _ (hs mainGlobals o4 g4 (by
    simp only [E, List.lookup_cons, List.lookup_nil]
    repeat (first | rfl | (split <;> try rfl))
    all_goals (first | rfl | (rename_i z; simp at z))))
  have t5 := B _ _ (hs bm ob w2 (by
    simp only [E, List.lookup_cons, List.lookup_nil]
    repeat (first | rfl | (split <;> try rfl))
    all_goals (first | rfl | (rename_i z; simp at z))))
  exact ⟨⟨mc, ⟨o1, es1, ep1, t1, d1⟩, c1, c2⟩, ⟨mm, ⟨o2, es2, ep2, t2, d2⟩, m1⟩, ⟨mb, ⟨o3, es3, ep3, t3, d3⟩, b1⟩, ⟨mg, bm, ob, ⟨o4, es4, ep4, t4, d4⟩, w1, t5, w3, w4⟩⟩
theorem walk_ofS {l : PySem.W.OpenLaw} {n k : Nat} {q : Program} {loose : List Str} {XP : (Str → Option Value) → Heap → Prop} {YP : World → Heap → Prop} {d : DefRec} {x : Str}
    (hn : l.most = some n) (hn2 : n ≤ sizeLine) (hdf : d.params.defaults = []) (hr : Room k callerA) (hq : importsNone q = true)
    (F : ∀ (w : World) (mg : Str → Option Value) (fa : Addr) (h : Heap), YP w h → h.Ns mainGlobals mg → mg d.name = some (.ref fa) →
      ∃ (K : PySem.W.Frag) (fd : FuncData), K.In h ∧ (∀ (s : Shared) (u : Value), BindsTo s fd ⟨[u], []⟩ [(x, u)]) ∧ ∀ K' : PySem.W.Frag, LeK K K' → ∃ sp : Sp,
        (∀ (H : Hp) (a : Addr) (ns : List Int), ns.length ≤ n → SqL K' H a (ns.map V.int) → sp [.ref a] H (fun v _ => v = .bl true) fun _ _ _ => False) ∧
        ∀ base : Heap, K'.In base → base.Ns mainGlobals mg → base.NoSeer → FnOk l.prog w K' mg base CX0 k fa fd [x] sp) :
    PySem.W.WalkO q loose XP YP l.row.toRowW d [] (fun f vs => PySem.call f vs) := by
  refine Att.attach_call hn hdf ?_
  intro w t0 t1 mg mb fa o pm cd doc a vs ns Gr Yh ho hd hcd hmg hobj hints hlen hg
  obtain ⟨K, fd, KX, hb, hF⟩ := F w mg fa _ Yh Gr.T.g hmg
  obtain ⟨K', le, KX', sr⟩ := widen KX (Gr.T.seer hq)
  obtain ⟨sp, hsp, hF⟩ := hF K' le
  exact law_call (CX := CX0) KX' Gr.T.g Gr.T.b Gr.T.builtins Gr.T.nolimit hg hobj hints (Nat.le_trans hlen hn2) hr (fun base h1 h2 => hF base h1 h2 (sr base h1)) hb (fun H _ hS => hsp H a ns hlen hS) fun _ _ _ z => z
end VS
end
namespace VP
open VM
def T_law_k07 (cs : CS) : TS :=
  (sCons (sSet (gName 1) (eCall cs 0 (aCons (eVar 0) aNil)))
    (sCons (sFor (iRange1 (eC (.int 3))) (gName 2)
    (sCons (sSet (gName 3) (eBin .add (eC (.int 1)) (eCall cs 1 (aCons (eVar 1) (aCons (eC (.int 4)) aNil)))))
    (sCons (sSet (gName 4) (eComp (iRange1 (eCall cs 1 (aCons (eVar 1) (aCons (eC (.int 5)) aNil)))) (gName 6) tYes (eB1 fTuple (eComp (iRange1 (eVar 3)) (gName 5) tYes (eCall cs 3 (aCons (eVar 1) aNil)) [5])) [6]))
    (sCons (sSet (gName 7) (eComp (iRange1 (eCall cs 1 (aCons (eVar 1) (aCons (eC (.int 5)) aNil)))) (gName 6) tYes (eB1 fTuple (eComp (iRange1 (eVar 3)) (gName 5) tYes (eCall cs 3 (aCons (eVar 1) aNil)) [5])) [6]))
    (sCons (sIf (tCmp .eq (eCall cs 1 (aCons (eVar 1) (aCons (eC (.int 3)) aNil))) (eC (.int 0)))
    (sSet (gName 7) (eBin .add (eComp (iE (eVar 4)) (gName 9) tYes (eB1 fTuple (eComp (iE (eVar 9)) (gName 8) tYes (eBin .mul (eBin .add (eC (.int 2)) (eVar 2)) (eVar 8)) [8])) [9]) (eSl (eVar 7) none (some (eC (.int 1))))))
    sNil)
    (sCons (sSet (gName 10) (eB1 fTuple (eComp (iRange1 (eVar 3)) (gName 5) tYes (eCall cs 3 (aCons (eVar 1) aNil)) [5])))
    (sCons (sIf (tCmp .eq (eCall cs 1 (aCons (eVar 1) (aCons (eC (.int 2)) aNil))) (eC (.int 0)))
    (sPar [4, 7] (aCons (eBin .add (eVar 4) (eLst (aCons (eVar 10) aNil))) (aCons (eBin .add (eVar 7) (eLst (aCons (eB1 fTuple (eComp (iE (eVar 10)) (gName 8) tYes (eBin .mul (eC (.int 3)) (eVar 8)) [8])) aNil))) aNil)))
    sNil)
    (sCons (sSet (gName 11) (eCall cs 19 (aCons (eB1 fList (eVar 4)) (aCons (eB1 fList (eVar 7)) aNil))))
    (sCons (sSet (gTup [(gName 12), (gName 13)]) (eTup (aCons (eCall cs 15 (aCons (eVar 4) (aCons (eVar 3) aNil))) (aCons (eCall cs 15 (aCons (eVar 7) (aCons (eVar 3) aNil))) aNil))))
    (sCons (sIf (tOr (tNot (tOf (eCall cs 16 (aCons (eVar 11) (aCons (eCall cs 20 (aCons (eVar 12) (aCons (eVar 13) (aCons (eVar 3) aNil)))) aNil))))) (tNot (tOf (eCall cs 16 (aCons (eCall cs 19 (aCons (eVar 7) (aCons (eVar 4) aNil))) (aCons (eVar 11) aNil))))))
    (sRet (eC (.bl false)))
    sNil)
    (sCons (sIf (tNot (tOf (eCall cs 16 (aCons (eLst (aCons (eCall cs 19 (aCons (eB1 fTuple (eVar 4)) (aCons (eB1 fTuple (eVar 7)) aNil))) (aCons (eCall cs 19 (aCons (eVar 4) (aCons (eB1 fTuple (eVar 7)) aNil))) aNil))) (aCons (eLst (aCons (eVar 11) (aCons (eVar 11) aNil))) aNil)))))
    (sRet (eC (.bl false)))
    sNil)
    (sCons (sSet (gName 14) (eB1 fTuple (eBin .mul (eLst (aCons (eC (.int 0)) aNil)) (eVar 3))))
    (sCons (sIf (tCmp .ne (eComp (iE (eVar 11)) (gName 15) (tOr (tCmp .ne (eCall cs 14 (aCons (eVar 15) (aCons (eVar 12) aNil))) (eVar 14)) (tCmp .ne (eCall cs 14 (aCons (eVar 15) (aCons (eVar 13) aNil))) (eVar 14))) (eVar 15) [15]) (eLst aNil))
    (sRet (eC (.bl false)))
    sNil)
    (sCons (sSet (gName 16) (eComp (iE (eVar 7)) (gName 15) (tCmp .eq (eCall cs 14 (aCons (eVar 15) (aCons (eVar 12) aNil))) (eVar 14)) (eVar 15) [15]))
    (sCons (sIf (tCmp .ne (eComp (iE (eVar 16)) (gName 15) (tCmp .ne (eCall cs 14 (aCons (eVar 15) (aCons (eVar 11) aNil))) (eVar 14)) (eVar 15) [15]) (eLst aNil))
    (sRet (eC (.bl false)))
    sNil)
    (sIf (tNot (tOf (eCall cs 16 (aCons (eLst (aCons (eCall cs 19 (aCons (eLst aNil) (aCons (eVar 4) aNil))) (aCons (eCall cs 19 (aCons (eVar 4) (aCons (eLst aNil) aNil))) (aCons (eCall cs 19 (aCons (eVar 4) (aCons (eVar 4) aNil))) aNil)))) (aCons (eLst (aCons (eLst aNil) (aCons (eLst aNil) (aCons (eVar 12) aNil)))) aNil)))))
    (sRet (eC (.bl false)))
    sNil))))))))))))))))
    (sRet (eC (.bl true)))))
def T__law_bag (cs : CS) : TS :=
  (sCons (sSet (gName 1) (eComp (iE (eSl (eVar 0) none (some (eC (.int 63))))) (gName 2) tYes (eB1 fInt (eVar 2)) [2]))
    (sCons (sSet (gName 3) (eBin .add (eC (.int 120170)) (eBin .mul (eC (.int 83)) (eB1 fLen (eVar 1)))))
    (sCons (sFor (iE (eVar 1)) (gName 2)
    (sSet (gName 3) (eBin .mod (eB1 fInt (eBin .add (eBin .mul (eVar 3) (eC (.int 6863))) (eVar 2))) (eC (.int 2147483549)))))
    (sRet (eLstM (aCons (eVar 1) (aCons (eC (.int 0)) (aCons (eC (.int 0)) (aCons (eVar 3) (aCons (eC (.int 0)) aNil))))))))))
def T_meet (cs : CS) : TS :=
  (sCons (sIf (tOr (tCmp .eq (eB1 fLen (eVar 0)) (eC (.int 0))) (tCmp .eq (eB1 fLen (eVar 1)) (eC (.int 0))))
    (sRet (eLst aNil))
    sNil)
    (sCons (sSet (gName 2) (eB1 fLen (eIx (eVar 0) (eC (.int 0)))))
    (sCons (sSet (gName 3) (eBin .add (eComp (iE (eVar 0)) (gName 4) tYes (eBin .add (eB1 fList (eVar 4)) (eB1 fList (eVar 4))) [4]) (eComp (iE (eVar 1)) (gName 4) tYes (eBin .add (eB1 fList (eVar 4)) (eBin .mul (eLst (aCons (eC (.int 0)) aNil)) (eVar 2))) [4])))
    (sCons (sSet (gTup [(gName 5), (gName 6)]) (eCall cs 9 (aCons (eVar 3) (aCons (eVar 2) aNil))))
    (sRet (eCall cs 10 (aCons (eComp (iE (eVar 6)) (gName 7) tYes (eSl (eVar 7) (some (eVar 2)) none) [7]) aNil)))))))
def T__law_take (cs : CS) : TS :=
  (sCons (sSetIx (eVar 0) (eC (.int 4)) (eBin .add (eIx (eVar 0) (eC (.int 4))) (eC (.int 1))))
    (sCons (sIf (tAnd (tCmp .lt (eIx (eVar 0) (eC (.int 2))) (eC (.int 2))) (tCmp .lt (eIx (eVar 0) (eC (.int 1))) (eB1 fLen (eIx (eVar 0) (eC (.int 0))))))
    (sCons (sSet (gName 2) (eIx (eIx (eVar 0) (eC (.int 0))) (eIx (eVar 0) (eC (.int 1)))))
    (sCons (sSetIx (eVar 0) (eC (.int 1)) (eBin .add (eIx (eVar 0) (eC (.int 1))) (eC (.int 1))))
    (sCons (sSetIx (eVar 0) (eC (.int 3)) (eBin .mod (eB1 fInt (eBin .add (eBin .add (eBin .mul (eIx (eVar 0) (eC (.int 3))) (eC (.int 40063))) (eBin .mul (eBin .mod (eB1 fInt (eVar 2)) (eC (.int 2147483497))) (eC (.int 61)))) (eIx (eVar 0) (eC (.int 1))))) (eC (.int 2147483549))))
    (sSetIx (eVar 0) (eC (.int 2)) (eIf (tCmp .ge (eVar 2) (eBin .pow (eC (.int 10)) (eC (.int 18)))) (eVar 2) (eC (.int 0)))))))
    sNil)
    (sCons (sIf (tCmp .gt (eIx (eVar 0) (eC (.int 2))) (eC (.int 1)))
    (sCons (sSet (gName 3) (eBin .mod (eB1 fInt (eIx (eVar 0) (eC (.int 2)))) (eVar 1)))
    (sCons (sSetIx (eVar 0) (eC (.int 2)) (eBin .fdiv (eIx (eVar 0) (eC (.int 2))) (eVar 1)))
    (sRet (eVar 3))))
    sNil)
    (sCons (sSet (gName 4) (eBin .mod (eB1 fInt (eBin .add (eIx (eVar 0) (eC (.int 3))) (eBin .mul (eIx (eVar 0) (eC (.int 4))) (eC (.int 9547))))) (eC (.int 2147483549))))
    (sCons (sSetIx (eVar 0) (eC (.int 3)) (eBin .mod (eB1 fInt (eBin .add (eBin .add (eBin .mul (eVar 4) (eVar 4)) (eBin .mul (eVar 4) (eC (.int 33757)))) (eC (.int 90263)))) (eC (.int 2147483549))))
    (sRet (eBin .mod (eB1 fInt (eBin .add (eBin .fdiv (eIx (eVar 0) (eC (.int 3))) (eC (.int 71))) (eBin .mul (eBin .mod (eB1 fInt (eIx (eVar 0) (eC (.int 3)))) (eC (.int 7877))) (eC (.int 191))))) (eVar 1))))))))
def T__law_form (cs : CS) : TS :=
  (sCons (sSet (gName 2) (eComp (iE (eCall cs 13 (aCons (eVar 0) (aCons (eVar 1) aNil)))) (gName 3) (tCmp .notN (eVar 3) (eC .non)) (eVar 3) [3]))
    (sCons (sSet (gName 4) (eLst aNil))
    (sCons (sFor (iRev (eVar 2)) (gName 3)
    (sCons (sSet (gName 5) (eIx (eComp (iRange1 (eVar 1)) (gName 6) (tCmp .ne (eIx (eVar 3) (eVar 6)) (eC (.int 0))) (eVar 6) [6]) (eC (.int 0))))
    (sCons (sSet (gName 7) (eIf (tCmp .gt (eIx (eVar 3) (eVar 5)) (eC (.int 0))) (eC (.int 1)) (eNeg (eC (.int 1)))))
    (sSet (gName 4) (eBin .add (eLst (aCons (eCall cs 14 (aCons (eComp (iE (eVar 3)) (gName 8) tYes (eBin .mul (eVar 7) (eVar 8)) [8]) (aCons (eVar 4) aNil))) aNil)) (eVar 4))))))
    (sRet (eVar 4)))))
def T__law_same (cs : CS) : TS :=
  (sCons (sIf (tCmp .isN (eVar 1) (eC .non))
    (sRet (eCmp .isN (eVar 0) (eC .non)))
    sNil)
    (sCons (sIf (tOr (tOf (eB1 (fIsi [.bool]) (eVar 1))) (tOf (eB1 (fIsi [.bool]) (eVar 0))))
    (sRet (eAnd (eB1 (fIsi [.bool]) (eVar 1)) (eAnd (eB1 (fIsi [.bool]) (eVar 0)) (eCmp .eq (eVar 0) (eVar 1)))))
    sNil)
    (sCons (sIf (tOf (eB1 (fIsi [.int, .str]) (eVar 1)))
    (sRet (eAnd (eB1 (fIsi [.int, .str]) (eVar 0)) (eAnd (eCmp .eq (eB1 (fIsi [.int]) (eVar 0)) (eB1 (fIsi [.int]) (eVar 1))) (eCmp .eq (eVar 0) (eVar 1)))))
    sNil)
    (sCons (sIf (tOr (tCmp .ne (eB1 (fIsi [.list]) (eVar 1)) (eB1 (fIsi [.list]) (eVar 0))) (tCmp .ne (eB1 (fIsi [.tuple]) (eVar 1)) (eB1 (fIsi [.tuple]) (eVar 0))))
    (sRet (eC (.bl false)))
    sNil)
    (sCons (sIf (tOr (tNot (tOf (eB1 (fIsi [.list, .tuple]) (eVar 0)))) (tCmp .ne (eB1 fLen (eVar 0)) (eB1 fLen (eVar 1))))
    (sRet (eC (.bl false)))
    sNil)
    (sRet (eB1 fAll (eComp (iZip (eVar 0) (eVar 1)) (gTup [(gName 2), (gName 3)]) tYes (eCall cs 16 (aCons (eVar 2) (aCons (eVar 3) aNil))) [2, 3]))))))))
def T__law_small (cs : CS) : TS :=
  (sRet (eCall cs 2 (aCons (eVar 0) (aCons (eLst (aCons (eC (.int 1)) (aCons (eC (.int 1)) (aCons (eNeg (eC (.int 1))) (aCons (eC (.int 2)) (aCons (eNeg (eC (.int 2))) (aCons (eC (.int 3)) (aCons (eNeg (eC (.int 3))) (aCons (eC (.int 4)) (aCons (eC (.int 0)) (aCons (eC (.int 6)) (aCons (eC (.int 5)) (aCons (eC (.int 12)) aNil))))))))))))) aNil))))
def T__law_meet (cs : CS) : TS :=
  (sCons (sSet (gName 3) (eBin .add (eComp (iE (eVar 0)) (gName 4) tYes (eBin .add (eB1 fList (eVar 4)) (eB1 fList (eVar 4))) [4]) (eComp (iE (eVar 1)) (gName 4) tYes (eBin .add (eB1 fList (eVar 4)) (eBin .mul (eLst (aCons (eC (.int 0)) aNil)) (eVar 2))) [4])))
    (sCons (sSet (gName 5) (eCall cs 13 (aCons (eVar 3) (aCons (eBin .mul (eC (.int 2)) (eVar 2)) aNil))))
    (sRet (eCall cs 15 (aCons (eComp (iE (eSl (eVar 5) (some (eVar 2)) none)) (gName 6) (tCmp .notN (eVar 6) (eC .non)) (eSl (eVar 6) (some (eVar 2)) none) [6]) (aCons (eVar 2) aNil))))))
def T__law_lowered (cs : CS) : TS :=
  (sCons (sSet (gName 2) (eB1 fList (eVar 0)))
    (sCons (sFor (iE (eVar 1)) (gName 3)
    (sCons (sSet (gName 4) (eIx (eComp (iRange1 (eB1 fLen (eVar 3))) (gName 5) (tCmp .ne (eIx (eVar 3) (eVar 5)) (eC (.int 0))) (eVar 5) [5]) (eC (.int 0))))
    (sCons (sSet (gName 6) (eBin .fdiv (eIx (eVar 2) (eVar 4)) (eIx (eVar 3) (eVar 4))))
    (sSet (gName 2) (eComp (iZip (eVar 2) (eVar 3)) (gTup [(gName 7), (gName 8)]) tYes (eBin .sub (eVar 7) (eBin .mul (eVar 6) (eVar 8))) [7, 8])))))
    (sRet (eB1 fTuple (eVar 2)))))
def T_echelon (cs : CS) : TS :=
  (sCons (sSet (gName 2) (eComp (iE (eVar 0)) (gName 3) tYes (eB1 fList (eVar 3)) [3]))
    (sCons (sSet (gName 4) (eLst aNil))
    (sCons (sFor (iRange1 (eVar 1)) (gName 5)
    (sCons (sSet (gTup [(gName 6), (gName 2)]) (eCall cs 7 (aCons (eVar 2) (aCons (eVar 5) aNil))))
    (sIf (tCmp .ne (eVar 6) (eLst aNil))
    (sCons (sSet (gName 7) (eIx (eVar 6) (eC (.int 0))))
    (sCons (sIf (tCmp .lt (eIx (eVar 7) (eVar 5)) (eC (.int 0)))
    (sSet (gName 7) (eCall cs 8 (aCons (eVar 7) (aCons (eNeg (eC (.int 1))) aNil))))
    sNil)
    (sSet (gName 4) (eBin .add (eVar 4) (eLst (aCons (eTup (aCons (eVar 5) (aCons (eVar 7) aNil))) aNil))))))
    sNil)))
    (sRet (eTup (aCons (eVar 4) (aCons (eVar 2) aNil)))))))
def T_reduced (cs : CS) : TS :=
  (sCons (sIf (tCmp .eq (eB1 fLen (eVar 0)) (eC (.int 0)))
    (sRet (eLst aNil))
    sNil)
    (sCons (sSet (gTup [(gName 1), (gName 2)]) (eCall cs 9 (aCons (eVar 0) (aCons (eB1 fLen (eIx (eVar 0) (eC (.int 0)))) aNil))))
    (sCons (sSet (gName 3) (eLst aNil))
    (sCons (sFor (iRange1 (eB1 fLen (eVar 1))) (gName 4)
    (sCons (sSet (gName 5) (eIx (eIx (eVar 1) (eVar 4)) (eC (.int 1))))
    (sCons (sFor (iE (eSl (eVar 1) (some (eBin .add (eVar 4) (eC (.int 1)))) none)) (gTup [(gName 6), (gName 7)])
    (sSet (gName 5) (eCall cs 6 (aCons (eVar 5) (aCons (eVar 7) (aCons (eBin .fdiv (eIx (eVar 5) (eVar 6)) (eIx (eVar 7) (eVar 6))) aNil))))))
    (sSet (gName 3) (eBin .add (eVar 3) (eLst (aCons (eB1 fTuple (eVar 5)) aNil)))))))
    (sRet (eVar 3))))))
def T__law_basis (cs : CS) : TS :=
  (sCons (sSet (gName 2) (eCompM (iRange1 (eVar 1)) (gName 3) tYes (eC .non) [3]))
    (sCons (sFor (iE (eVar 0)) (gName 4)
    (sExpr (eCall cs 12 (aCons (eVar 2) (aCons (eVar 4) aNil)))))
    (sRet (eVar 2))))
def T__law_of (cs : CS) : TS :=
  (sRet (eIx (eVar 1) (eCall cs 1 (aCons (eVar 0) (aCons (eB1 fLen (eVar 1)) aNil)))))
def T_cleared (cs : CS) : TS :=
  (sCons (sSet (gName 2) (eComp (iE (eVar 0)) (gName 3) (tCmp .ne (eIx (eVar 3) (eVar 1)) (eC (.int 0))) (eVar 3) [3]))
    (sCons (sSet (gName 4) (eComp (iE (eVar 0)) (gName 3) (tCmp .eq (eIx (eVar 3) (eVar 1)) (eC (.int 0))) (eVar 3) [3]))
    (sCons (sWhile (tCmp .gt (eB1 fLen (eVar 2)) (eC (.int 1)))
    (sCons (sSet (gName 5) (eC (.int 0)))
    (sCons (sFor (iRange1 (eB1 fLen (eVar 2))) (gName 6)
    (sIf (tCmp .lt (eB1 fAbs (eIx (eIx (eVar 2) (eVar 6)) (eVar 1))) (eB1 fAbs (eIx (eIx (eVar 2) (eVar 5)) (eVar 1))))
    (sSet (gName 5) (eVar 6))
    sNil))
    (sCons (sSet (gName 7) (eIx (eVar 2) (eVar 5)))
    (sCons (sSet (gName 8) (eLst (aCons (eVar 7) aNil)))
    (sCons (sFor (iRange1 (eB1 fLen (eVar 2))) (gName 6)
    (sIf (tCmp .ne (eVar 6) (eVar 5))
    (sCons (sSet (gName 3) (eCall cs 6 (aCons (eIx (eVar 2) (eVar 6)) (aCons (eVar 7) (aCons (eBin .fdiv (eIx (eIx (eVar 2) (eVar 6)) (eVar 1)) (eIx (eVar 7) (eVar 1))) aNil)))))
    (sIf (tCmp .ne (eIx (eVar 3) (eVar 1)) (eC (.int 0)))
    (sSet (gName 8) (eBin .add (eVar 8) (eLst (aCons (eVar 3) aNil))))
    (sSet (gName 4) (eBin .add (eVar 4) (eLst (aCons (eVar 3) aNil))))))
    sNil))
    (sSet (gName 2) (eVar 8))))))))
    (sRet (eTup (aCons (eVar 2) (aCons (eVar 4) aNil)))))))
def T_times (cs : CS) : TS :=
  (sRet (eComp (iE (eVar 0)) (gName 2) tYes (eBin .mul (eVar 2) (eVar 1)) [2]))
def T_minus (cs : CS) : TS :=
  (sRet (eComp (iZip (eVar 0) (eVar 1)) (gTup [(gName 3), (gName 4)]) tYes (eBin .sub (eVar 3) (eBin .mul (eVar 4) (eVar 2))) [3, 4]))
def T__law_insert (cs : CS) : TS :=
  (sCons (sSet (gName 2) (eB1 fList (eVar 1)))
    (sFor (iRange1 (eB1 fLen (eVar 2))) (gName 3)
    (sIf (tCmp .ne (eIx (eVar 2) (eVar 3)) (eC (.int 0)))
    (sCons (sIf (tCmp .isN (eIx (eVar 0) (eVar 3)) (eC .non))
    (sCons (sSetIx (eVar 0) (eVar 3) (eVar 2))
    sRetN)
    sNil)
    (sWhile (tCmp .ne (eIx (eVar 2) (eVar 3)) (eC (.int 0)))
    (sCons (sSet (gName 4) (eBin .fdiv (eIx (eIx (eVar 0) (eVar 3)) (eVar 3)) (eIx (eVar 2) (eVar 3))))
    (sCons (sSet (gName 5) (eComp (iZip (eIx (eVar 0) (eVar 3)) (eVar 2)) (gTup [(gName 6), (gName 7)]) tYes (eBin .sub (eVar 6) (eBin .mul (eVar 4) (eVar 7))) [6, 7]))
    (sCons (sSetIx (eVar 0) (eVar 3) (eVar 2))
    (sSet (gName 2) (eVar 5)))))))
    sNil)))
end VP
namespace VP
open VM
def T__law_big_factor (cs : CS) : TS :=
  (sRet (eIf (tCmp .gt (eCall cs 1 (aCons (eVar 0) (aCons (eC (.int 5)) aNil))) (eC (.int 0))) (eCall cs 3 (aCons (eVar 0) aNil)) (eBin .sub (eCall cs 1 (aCons (eVar 0) (aCons (eC (.int 2001)) aNil))) (eC (.int 1000)))))
def T__law_drawn_vectors (cs : CS) : TS :=
  (sCons (sSet (gName 3) (eLstM aNil))
    (sCons (sFor (iRange1 (eVar 1)) (gName 4)
    (sCons (sSet (gName 5) (eCall cs 1 (aCons (eVar 0) (aCons (eC (.int 5)) aNil))))
    (sCons (sSet (gName 6) (eComp (iRange1 (eVar 2)) (gName 7) tYes (eCall cs 4 (aCons (eVar 0) aNil)) [7]))
    (sCons (sIf (tAnd (tCmp .eq (eVar 5) (eC (.int 0))) (tCmp .ne (eVar 3) (eLst aNil)))
    (sSet (gName 6) (eComp (iE (eCall cs 2 (aCons (eVar 0) (aCons (eVar 3) aNil)))) (gName 8) tYes (eBin .mul (eC (.int 2)) (eVar 8)) [8]))
    sNil)
    (sCons (sIf (tCmp .eq (eVar 5) (eC (.int 1)))
    (sSet (gName 6) (eComp (iRange1 (eVar 2)) (gName 7) tYes (eIf (tCmp .lt (eVar 7) (eCall cs 1 (aCons (eVar 0) (aCons (eBin .add (eVar 2) (eC (.int 1))) aNil)))) (eC (.int 0)) (eIx (eVar 6) (eVar 7))) [7]))
    sNil)
    (sExpr (eAppend (eVar 3) (eB1 fTuple (eVar 6)))))))))
    (sRet (eVar 3))))
def T__law_is_form (cs : CS) : TS :=
  (sCons (sIf (tNot (tOf (eB1 (fIsi [.list]) (eVar 0))))
    (sRet (eC (.bl false)))
    sNil)
    (sCons (sSet (gName 2) (eLstM aNil))
    (sCons (sFor (iE (eVar 0)) (gName 3)
    (sCons (sIf (tOr (tNot (tOf (eB1 (fIsi [.tuple]) (eVar 3)))) (tCmp .ne (eB1 fLen (eVar 3)) (eVar 1)))
    (sRet (eC (.bl false)))
    sNil)
    (sCons (sIf (tNot (tOf (eB1 fAll (eComp (iE (eVar 3)) (gName 4) tYes (eAnd (eB1 (fIsi [.int]) (eVar 4)) (eNot (eB1 (fIsi [.bool]) (eVar 4)))) [4]))))
    (sRet (eC (.bl false)))
    sNil)
    (sCons (sSet (gName 5) (eComp (iRange1 (eVar 1)) (gName 6) (tCmp .ne (eIx (eVar 3) (eVar 6)) (eC (.int 0))) (eVar 6) [6]))
    (sCons (sIf (tOr (tCmp .eq (eVar 5) (eLst aNil)) (tCmp .lt (eIx (eVar 3) (eIx (eVar 5) (eC (.int 0)))) (eC (.int 0))))
    (sRet (eC (.bl false)))
    sNil)
    (sExpr (eAppend (eVar 2) (eIx (eVar 5) (eC (.int 0))))))))))
    (sCons (sFor (iRange1 (eB1 fLen (eVar 2))) (gName 6)
    (sFor (iRange1 (eVar 6)) (gName 7)
    (sCons (sSet (gName 8) (eIx (eVar 2) (eVar 6)))
    (sIf (tOr (tCmp .ge (eIx (eVar 2) (eVar 7)) (eVar 8)) (tNot (tChain .le .lt (eC (.int 0)) (eIx (eIx (eVar 0) (eVar 7)) (eVar 8)) (eIx (eIx (eVar 0) (eVar 6)) (eVar 8)))))
    (sRet (eC (.bl false)))
    sNil))))
    (sRet (eC (.bl true)))))))
def T__law_mixed (cs : CS) : TS :=
  (sCons (sSet (gName 2) (eLstM aNil))
    (sCons (sFor (iE (eVar 1)) (gName 3)
    (sExpr (eInsert (eVar 2) (eCall cs 1 (aCons (eVar 0) (aCons (eBin .add (eB1 fLen (eVar 2)) (eC (.int 1))) aNil))) (eVar 3))))
    (sRet (eVar 2))))
def T_divisible (cs : CS) : TS :=
  (sCons (sIf (tCmp .eq (eB1 fLen (eVar 0)) (eC (.int 0)))
    (sRet (eLst aNil))
    sNil)
    (sCons (sSet (gName 3) (eLst aNil))
    (sCons (sFor (iE (eVar 0)) (gName 4)
    (sCons (sSet (gName 5) (eB1 fSum (eComp (iZip (eVar 4) (eVar 1)) (gTup [(gName 6), (gName 7)]) tYes (eBin .mul (eVar 6) (eVar 7)) [6, 7])))
    (sSet (gName 3) (eBin .add (eVar 3) (eLst (aCons (eBin .add (eLst (aCons (eVar 5) aNil)) (eB1 fList (eVar 4))) aNil))))))
    (sCons (sIf (tCmp .gt (eVar 2) (eC (.int 0)))
    (sSet (gName 3) (eBin .add (eVar 3) (eLst (aCons (eBin .add (eLst (aCons (eVar 2) aNil)) (eBin .mul (eLst (aCons (eC (.int 0)) aNil)) (eB1 fLen (eIx (eVar 0) (eC (.int 0)))))) aNil))))
    sNil)
    (sCons (sSet (gTup [(gName 8), (gName 9)]) (eCall cs 9 (aCons (eVar 3) (aCons (eC (.int 1)) aNil))))
    (sRet (eCall cs 10 (aCons (eComp (iE (eVar 9)) (gName 10) tYes (eSl (eVar 10) (some (eC (.int 1))) none) [10]) aNil))))))))
def T__law_impose (cs : CS) : TS :=
  (sCons (sSet (gName 4) (eCompM (iE (eVar 0)) (gName 7) tYes (eBin .add (eLst (aCons (eB1 fSum (eComp (iZip (eVar 7) (eVar 1)) (gTup [(gName 5), (gName 6)]) tYes (eBin .mul (eVar 5) (eVar 6)) [5, 6])) aNil)) (eB1 fList (eVar 7))) [7]))
    (sCons (sIf (tCmp .gt (eVar 2) (eC (.int 0)))
    (sExpr (eAppend (eVar 4) (eBin .add (eLst (aCons (eVar 2) aNil)) (eBin .mul (eLst (aCons (eC (.int 0)) aNil)) (eVar 3)))))
    sNil)
    (sCons (sSet (gName 8) (eCall cs 13 (aCons (eVar 4) (aCons (eBin .add (eVar 3) (eC (.int 1))) aNil))))
    (sRet (eCall cs 15 (aCons (eComp (iE (eSl (eVar 8) (some (eC (.int 1))) none)) (gName 9) (tCmp .notN (eVar 9) (eC .non)) (eSl (eVar 9) (some (eC (.int 1))) none) [9]) (aCons (eVar 3) aNil)))))))
end VP
section
namespace VM
abbrev pvis (v : List Int) : List PV := v.map PV.int
abbrev ilst (v : List Int) : PV := .lst (v.map PV.int)
abbrev itup (v : List Int) : PV := .tup (v.map PV.int)
def D0 (k x : KV) : Ends := { nx := fun _ st => k .non st, rt := k, bk := fun _ _ => False, ct := fun _ _ => False, xk := x }
theorem call_of {FT : Nat → Option FD} {n f np ns : Nat} {body : CS → TS} {vs : List PV} {st : Store} {k x : KV} (hF : FT f = some ⟨np, ns, body⟩) (hl : vs.length = np)
    (h : body (callN FT n) (D0 k x) (vs.map some ++ List.replicate (ns - np) none) st) : callN FT (n + 1) f vs st k x := by
  unfold callN
  rw [hF]
  exact ⟨hl, h⟩
/-- what holds from some depth on -/
def At (FT : Nat → Option FD) (d : Nat) (S : CS → Prop) : Prop := ∀ n, d ≤ n → S (callN FT n)
theorem At.mono {FT : Nat → Option FD} {d d' : Nat} {S : CS → Prop} (h : At FT d S) (hd : d ≤ d') : At FT d' S := fun n hn => h n (Nat.le_trans hd hn)
theorem At.imp {FT : Nat → Option FD} {d : Nat} {S S' : CS → Prop} (h : At FT d S) (hi : ∀ cs, S cs → S' cs) : At FT d S' := fun n hn => hi _ (h n hn)
theorem at_of {FT : Nat → Option FD} {d f np ns : Nat} {body : CS → TS} {S : CS → Prop} {C : CS → Prop} (hF : FT f = some ⟨np, ns, body⟩) (hC : At FT d C)
    (h : ∀ cs cs' : CS, C cs → (∀ vs st k x, vs.length = np → body cs (D0 k x) (vs.map some ++ List.replicate (ns - np) none) st → cs' f vs st k x) → S cs') : At FT (d + 1) S := fun n hn => by
  obtain ⟨m, rfl⟩ : ∃ m, n = m + 1 := ⟨n - 1, by omega⟩
  exact h (callN FT m) _ (hC m (by omega)) fun vs st k x hl hb => call_of hF hl hb
/-- one turn of a comprehension: what it gives -/
def turn (g : TG) (t : TT) (e : TE) (ρ : Env) (st : Store) (v : PV) (k : Option PV → Store → Prop) : Prop :=
  g v ρ st fun ρ' st => t ρ' st (fun b st => if b = true then e ρ' st (fun y st => k (some y) st) (fun _ _ => False) else k none st) (fun _ _ => False)
/-- a comprehension that leaves the store -/
theorem comp_pure {g : TG} {t : TT} {e : TE} {own : List Nat} {stay : Store → Prop} {ρ : Env} {k : List PV → Store → Prop} {st : Store} (f : PV → Option PV) (hst : stay st) : ∀ (xs acc : List PV),
    (∀ v ∈ xs, ∀ k' : Option PV → Store → Prop, k' (f v) st → turn g t e ρ st v k') → acc.length + xs.length ≤ SZ → k (acc ++ xs.filterMap f) st → compGo g t e own stay xs acc ρ st k
  | [], acc, h, hl, hk => by
    unfold compGo
    rw [List.filterMap_nil, List.append_nil] at hk
    exact ⟨hst, hk⟩
  | v :: r, acc, h, hl, hk => by
    unfold compGo
    rw [List.length_cons] at hl
    refine ⟨hst, ?_⟩
    refine h v (List.mem_cons_self ..) (fun o st => match o with | some y => acc.length < SZ ∧ compGo g t e own stay r (acc ++ [y]) ρ st k | none => compGo g t e own stay r acc ρ st k) ?_
    have hr : ∀ v ∈ r, ∀ k' : Option PV → Store → Prop, k' (f v) st → turn g t e ρ st v k' := fun x m => h x (List.mem_cons_of_mem _ m)
    cases e1 : f v with
    | none =>
      rw [List.filterMap_cons_none e1] at hk
      exact comp_pure f hst r acc hr (by omega) hk
    | some y =>
      rw [List.filterMap_cons_some e1] at hk
      refine ⟨by omega, comp_pure f hst r (acc ++ [y]) hr (by rw [List.length_append, List.length_singleton]; omega) ?_⟩
      rw [List.append_assoc]
      exact hk
theorem comp_map {g : TG} {t : TT} {e : TE} {own : List Nat} {stay : Store → Prop} {ρ : Env} {k : List PV → Store → Prop} {st : Store} (f : PV → PV) (hst : stay st) (xs : List PV)
    (h : ∀ v ∈ xs, ∀ k' : Option PV → Store → Prop, k' (some (f v)) st → turn g t e ρ st v k') (hl : xs.length ≤ SZ) (hk : k (xs.map f) st) : compGo g t e own stay xs [] ρ st k :=
  comp_pure (fun v => some (f v)) hst xs [] h (by simpa using hl) (by
    have e : xs.filterMap (fun v => some (f v)) = xs.map f := by rw [← List.filterMap_eq_map]; rfl
    rw [List.nil_append, e]
    exact hk)
/-- the invariant version: each turn ends in whatever continuation -/
theorem comp_inv {g : TG} {t : TT} {e : TE} {own : List Nat} {stay : Store → Prop} {ρ : Env} {k : List PV → Store → Prop} (J : List PV → List PV → Store → Prop)
    (hs : ∀ v r acc st, J (v :: r) acc st → stay st ∧ ∀ k' : Option PV → Store → Prop, (∀ o st', (match o with | some y => acc.length < SZ ∧ J r (acc ++ [y]) st' | none => J r acc st') → k' o st') → turn g t e ρ st v k')
    (hn : ∀ acc st, J [] acc st → stay st ∧ k acc st) : ∀ xs acc st, J xs acc st → compGo g t e own stay xs acc ρ st k
  | [], acc, st, j => by
    unfold compGo
    exact hn acc st j
  | v :: r, acc, st, j => by
    unfold compGo
    obtain ⟨h1, h2⟩ := hs v r acc st j
    refine ⟨h1, ?_⟩
    refine h2 (fun o st => match o with | some y => acc.length < SZ ∧ compGo g t e own stay r (acc ++ [y]) ρ st k | none => compGo g t e own stay r acc ρ st k) fun o st' ho => ?_
    cases o with
    | some y => exact ⟨ho.1, comp_inv J hs hn r _ st' ho.2⟩
    | none => exact comp_inv J hs hn r acc st' ho
/-- a for by an invariant -/
theorem for_inv {g : TG} {b : TS} {stay : Store → Prop} {D : Ends} (J : List PV → Env → Store → Prop)
    (hs : ∀ v r ρ st, J (v :: r) ρ st → stay st ∧ ∀ D' : Ends, D'.rt = D.rt → D'.xk = D.xk → D'.bk = D.nx → (∀ ρ' st', J r ρ' st' → D'.nx ρ' st') → (∀ ρ' st', J r ρ' st' → D'.ct ρ' st') → g v ρ st fun ρ st => b D' ρ st)
    (hn : ∀ ρ st, J [] ρ st → stay st ∧ D.nx ρ st) : ∀ xs ρ st, J xs ρ st → forGo g b stay xs D ρ st
  | [], ρ, st, j => by
    unfold forGo
    exact hn ρ st j
  | v :: r, ρ, st, j => by
    unfold forGo
    obtain ⟨h1, h2⟩ := hs v r ρ st j
    exact ⟨h1, h2 { D with nx := forGo g b stay r D, ct := forGo g b stay r D, bk := D.nx } rfl rfl rfl (fun ρ' st' j' => for_inv J hs hn r ρ' st' j') fun ρ' st' j' => for_inv J hs hn r ρ' st' j'⟩
/-- without monotonicity: the bound by the measure -/
theorem while_meas {t : TT} {b : TS} {D : Ends} (J : Nat → Env → Store → Prop)
    (hs : ∀ m ρ st, J m ρ st → ∀ D' : Ends, D'.rt = D.rt → D'.xk = D.xk → D'.bk = D.nx → (∀ m' ρ' st', m' < m → J m' ρ' st' → D'.nx ρ' st') → (∀ m' ρ' st', m' < m → J m' ρ' st' → D'.ct ρ' st') → t ρ st (fun r st => if r = true then b D' ρ st else D.nx ρ st) D.xk)
    (m0 : Nat) (ρ : Env) (st : Store) (j : J m0 ρ st) : sWhile t b D ρ st := by
  have key : ∀ n m ρ st, m < n → J m ρ st → whileGo t b n D ρ st := by
    intro n
    induction n with
    | zero => intro m ρ st hm; omega
    | succ n ih =>
      intro m ρ st hm j
      unfold whileGo
      exact hs m ρ st j { D with nx := whileGo t b n D, ct := whileGo t b n D, bk := D.nx } rfl rfl rfl (fun m' ρ' st' h1 h2 => ih m' ρ' st' (by omega) h2) fun m' ρ' st' h1 h2 => ih m' ρ' st' (by omega) h2
  exact ⟨m0 + 1, key _ m0 ρ st (by omega) j⟩
theorem log_lt {a : Nat} {e : Nat} (h : a < 2 ^ e) (he : 0 < e) : a.log2 < e := by
  by_cases h0 : a = 0
  · subst h0
    simpa using he
  · exact (Nat.log2_lt h0).mpr h
theorem mulOk_of {i j : Int} {a b : Nat} (hi : i.natAbs < 2 ^ a) (hj : j.natAbs < 2 ^ b) (ha : 0 < a) (hb : 0 < b) (h : a + b ≤ 100000000) : MulOk i j := by
  have h1 := log_lt hi ha
  have h2 := log_lt hj hb
  unfold MulOk
  omega
theorem mulOk64 {i j : Int} (hi : i.natAbs < 2 ^ 64) (hj : j.natAbs < 2 ^ 64) : MulOk i j := mulOk_of hi hj (by decide) (by decide) (by decide)
end VM
end
section
namespace ML
abbrev Vec := List Int
def nth (u : Vec) (i : Nat) : Int := u.getD i 0
/-- u - c v -/
def sub1 (u v : Vec) (c : Int) : Vec := List.zipWith (fun a b => a - b * c) u v
def zv (w : Nat) : Vec := List.replicate w 0
theorem sub1_len {u v : Vec} {c : Int} (h : u.length = v.length) : (sub1 u v c).length = u.length := by simp [sub1, h]
theorem nth_sub1 {u v : Vec} {c : Int} (h : u.length = v.length) (i : Nat) : nth (sub1 u v c) i = nth u i - nth v i * c := by
  unfold nth sub1
  simp only [List.getD_eq_getElem?_getD, List.getElem?_zipWith]
  by_cases hi : i < u.length
  · have hv : i < v.length := by omega
    simp [hi, hv]
  · have hv : ¬ i < v.length := by omega
    simp [hi, hv]
theorem nth_zv {w i : Nat} : nth (zv w) i = 0 := by
  unfold nth zv
  simp only [List.getD_eq_getElem?_getD, List.getElem?_replicate]
  split <;> rfl
theorem nth_ge {u : Vec} {i : Nat} (h : u.length ≤ i) : nth u i = 0 := by
  unfold nth
  simp [List.getD_eq_getElem?_getD, List.getElem?_eq_none h]
theorem nth_get {u : Vec} {i : Nat} (h : i < u.length) : u[i]? = some (nth u i) := by
  unfold nth
  simp [List.getD_eq_getElem?_getD, h]
theorem vext {u v : Vec} (h : u.length = v.length) (e : ∀ i, i < u.length → nth u i = nth v i) : u = v := by
  apply List.ext_getElem?
  intro i
  by_cases hi : i < u.length
  · rw [nth_get hi, nth_get (h ▸ hi), e i hi]
  · rw [List.getElem?_eq_none (by omega), List.getElem?_eq_none (by omega)]
/-- integer combinations -/
inductive Span (w : Nat) (vs : List Vec) : Vec → Prop where
  | zero : Span w vs (zv w)
  | step {u v : Vec} (c : Int) (h : Span w vs u) (m : v ∈ vs) : Span w vs (sub1 u v c)
def Len (w : Nat) (vs : List Vec) : Prop := ∀ v ∈ vs, v.length = w
section
variable {w : Nat} {vs vs' : List Vec} {u v : Vec}
theorem Span.len (hl : Len w vs) (h : Span w vs u) : u.length = w := by
  induction h with
  | zero => simp [zv]
  | step c h m ih => rw [sub1_len (ih.trans (hl _ m).symm)]; exact ih
theorem sub_zv (h : u.length = w) (c : Int) : sub1 u (zv w) c = u := by
  have hl : u.length = (zv w).length := by simp [zv, h]
  exact vext (sub1_len hl) fun i _ => by rw [nth_sub1 hl, nth_zv]; simp
theorem Span.sub (hl : Len w vs) (hu : Span w vs u) (hv : Span w vs v) (c : Int) : Span w vs (sub1 u v c) := by
  induction hv generalizing c with
  | zero => rw [sub_zv (hu.len hl)]; exact hu
  | @step v' x d hv m ih =>
    have l1 := hu.len hl
    have l2 := hv.len hl
    have l3 := hl _ m
    have e : sub1 u (sub1 v' x d) c = sub1 (sub1 u v' c) x (-(d * c)) := by
      have a1 : v'.length = x.length := l2.trans l3.symm
      have a2 : u.length = (sub1 v' x d).length := by rw [sub1_len a1]; exact l1.trans l2.symm
      have a3 : u.length = v'.length := l1.trans l2.symm
      have a4 : (sub1 u v' c).length = x.length := by rw [sub1_len a3]; exact l1.trans l3.symm
      refine vext (by rw [sub1_len a2, sub1_len a4, sub1_len a3]) fun i _ => ?_
      rw [nth_sub1 a2, nth_sub1 a1, nth_sub1 a4, nth_sub1 a3, Int.sub_mul, Int.mul_neg, Int.mul_assoc]
      omega
    rw [e]
    exact Span.step _ (ih c) m
theorem Span.mem (hl : Len w vs) (m : v ∈ vs) : Span w vs v := by
  have l := hl v m
  have lz : (zv w).length = v.length := by simp [zv, l]
  have e : v = sub1 (zv w) v (-1) := vext (by rw [sub1_len lz, lz]) fun i _ => by
    rw [nth_sub1 lz, nth_zv]
    omega
  rw [e]
  exact Span.step _ .zero m
theorem Span.mono (hl : Len w vs') (h : ∀ v ∈ vs, Span w vs' v) (hu : Span w vs u) : Span w vs' u := by
  induction hu with
  | zero => exact .zero
  | step c _ m ih => exact ih.sub hl (h _ m) c
theorem Span.imp (h : ∀ v ∈ vs, v ∈ vs') (hu : Span w vs u) : Span w vs' u := by
  induction hu with
  | zero => exact .zero
  | step c _ m ih => exact .step c ih (h _ m)
/-- what all rows have at zero -/
theorem Span.nth0 (hl : Len w vs) {i : Nat} (h : ∀ v ∈ vs, nth v i = 0) (hu : Span w vs u) : nth u i = 0 := by
  induction hu with
  | zero => exact nth_zv
  | step c hu m ih => rw [nth_sub1 ((hu.len hl).trans (hl _ m).symm), ih, h _ m]; simp
theorem span_cons {a : Vec} (hl : Len w (a :: vs)) (h : Span w (a :: vs) v) : ∃ c u, Span w vs u ∧ v = sub1 u a c := by
  have la : a.length = w := hl a (List.mem_cons_self ..)
  have lv : Len w vs := fun x m => hl x (List.mem_cons_of_mem _ m)
  induction h with
  | zero => exact ⟨0, zv w, .zero, vext (by rw [sub1_len (by simp [zv, la])]) fun i _ => by rw [nth_sub1 (by simp [zv, la])]; simp⟩
  | @step x y d hx m ih =>
    obtain ⟨c, u, hu, rfl⟩ := ih
    have lu := hu.len lv
    have a1 : u.length = a.length := lu.trans la.symm
    rcases List.mem_cons.mp m with rfl | m
    · refine ⟨c + d, u, hu, vext ?_ fun i _ => ?_⟩
      · rw [sub1_len (by rw [sub1_len a1]; exact a1), sub1_len a1, sub1_len a1]
      · rw [nth_sub1 (by rw [sub1_len a1]; exact a1), nth_sub1 a1, nth_sub1 a1, Int.mul_add]
        omega
    · have ly : y.length = w := lv _ m
      have a2 : u.length = y.length := lu.trans ly.symm
      have a3 : (sub1 u y d).length = a.length := by rw [sub1_len a2]; exact a1
      refine ⟨c, sub1 u y d, .step d hu m, vext ?_ fun i _ => ?_⟩
      · rw [sub1_len (by rw [sub1_len a1]; exact a2), sub1_len a1, sub1_len a3, sub1_len a2]
      · rw [nth_sub1 (by rw [sub1_len a1]; exact a2), nth_sub1 a1, nth_sub1 a3, nth_sub1 a2]
        omega
end
abbrev Ps := List (Nat × Vec)
def Z (p : Nat) (v : Vec) : Prop := ∀ i, i < p → nth v i = 0
/-- a lattice: rows of one length, closed -/
structure Lat (w : Nat) (L : Vec → Prop) : Prop where
  len : ∀ v, L v → v.length = w
  sub : ∀ u v c, L u → L v → L (sub1 u v c)
theorem span_lat {w : Nat} {vs : List Vec} (hl : Len w vs) : Lat w (Span w vs) := ⟨fun _ h => h.len hl, fun _ _ c h h' => h.sub hl h' c⟩
/-- heads and rows, triangular, that give the lattice -/
structure Tri (w : Nat) (L : Vec → Prop) (ps : Ps) : Prop where
  sorted : ps.Pairwise (fun x y => x.1 < y.1)
  row : ∀ p a, (p, a) ∈ ps → p < w ∧ L a ∧ Z p a ∧ nth a p ≠ 0
  div : ∀ p v, p < w → L v → Z p v → (∀ a, (p, a) ∈ ps → nth a p ∣ nth v p) ∧ ((∀ a, (p, a) ∉ ps) → nth v p = 0)
structure Form (w : Nat) (L : Vec → Prop) (ps : Ps) : Prop extends Tri w L ps where
  pos : ∀ p a, (p, a) ∈ ps → 0 < nth a p
  red : ∀ p a q b, (p, a) ∈ ps → (q, b) ∈ ps → p < q → 0 ≤ nth a q ∧ nth a q < nth b q
theorem dvd_eq {a b : Int} (ha : 0 < a) (hb : 0 < b) (h1 : a ∣ b) (h2 : b ∣ a) : a = b := by
  have l1 := Int.le_of_dvd hb h1
  have l2 := Int.le_of_dvd ha h2
  omega
theorem dvd_small {a b : Int} (h : a ∣ b) (hl : b.natAbs < a.natAbs) : b = 0 := by
  obtain ⟨k, rfl⟩ := h
  by_cases hk : k = 0
  · subst hk; simp
  · rw [Int.natAbs_mul] at hl
    have : 1 ≤ k.natAbs := by omega
    have := Nat.mul_le_mul_left a.natAbs this
    omega
section
variable {w : Nat} {L : Vec → Prop} {ps qs : Ps}
/-- a vector of the lattice whose head is taken stands in the form -/
theorem Tri.has (t : Tri w L ps) {p : Nat} {v : Vec} (hp : p < w) (hv : L v) (hz : Z p v) (hn : nth v p ≠ 0) : ∃ a, (p, a) ∈ ps := by
  refine Classical.byContradiction fun h => ?_
  exact hn ((t.div p v hp hv hz).2 fun a m => h ⟨a, m⟩)
theorem Form.head (t : Form w L ps) (t' : Form w L qs) {p : Nat} {a b : Vec} (ha : (p, a) ∈ ps) (hb : (p, b) ∈ qs) : nth a p = nth b p := by
  obtain ⟨h1, h2, h3, _⟩ := t.row p a ha
  obtain ⟨_, h5, h6, _⟩ := t'.row p b hb
  exact dvd_eq (t.pos p a ha) (t'.pos p b hb) ((t.div p b h1 h5 h6).1 a ha) ((t'.div p a h1 h2 h3).1 b hb)
theorem Form.same (hL : Lat w L) (t : Form w L ps) (t' : Form w L qs) {p : Nat} {a : Vec} (ha : (p, a) ∈ ps) : (p, a) ∈ qs := by
  obtain ⟨h1, h2, h3, h4⟩ := t.row p a ha
  obtain ⟨b, hb⟩ := t'.toTri.has h1 h2 h3 h4
  obtain ⟨_, h5, h6, h7⟩ := t'.row p b hb
  have la := hL.len a h2
  have lb := hL.len b h5
  have lab : a.length = b.length := la.trans lb.symm
  have hd : L (sub1 a b 1) := hL.sub a b 1 h2 h5
  have z : ∀ n i, i < n → i < w → nth a i = nth b i := by
    intro n
    induction n with
    | zero => intro i hi; omega
    | succ n ih =>
      intro i hi hw
      by_cases hin : i < n
      · exact ih i hin hw
      have hz : Z i (sub1 a b 1) := fun j hj => by rw [nth_sub1 lab, ih j (by omega) (by omega)]; omega
      have ed : nth (sub1 a b 1) i = nth a i - nth b i := by rw [nth_sub1 lab]; omega
      by_cases hip : i < p
      · rw [h3 i hip, h6 i hip]
      by_cases hie : i = p
      · subst hie
        exact t.head t' ha hb
      have hpi : p < i := by omega
      have dv := t.div i _ hw hd hz
      by_cases hc : ∃ c, (i, c) ∈ ps
      · obtain ⟨c, hc⟩ := hc
        obtain ⟨_, k2, k3, k4⟩ := t.row i c hc
        obtain ⟨c', hc'⟩ := t'.toTri.has hw k2 k3 k4
        have e := t.head t' hc hc'
        have r1 := t.red p a i c ha hc hpi
        have r2 := t'.red p b i c' hb hc' hpi
        have := dvd_small (dv.1 c hc) (by rw [ed]; omega)
        omega
      · have := dv.2 fun c m => hc ⟨c, m⟩
        omega
  have : a = b := vext lab fun i hi => z (i + 1) i (by omega) (by omega)
  rw [this]
  exact hb
theorem sorted_eq : ∀ {ps qs : Ps}, ps.Pairwise (fun x y => x.1 < y.1) → qs.Pairwise (fun x y => x.1 < y.1) → (∀ x, x ∈ ps ↔ x ∈ qs) → ps = qs
  | [], [], _, _, _ => rfl
  | [], y :: qs, _, _, h => by have := (h y).mpr (List.mem_cons_self ..); cases this
  | x :: ps, [], _, _, h => by have := (h x).mp (List.mem_cons_self ..); cases this
  | x :: ps, y :: qs, h1, h2, h => by
    obtain ⟨a1, b1⟩ := List.pairwise_cons.mp h1
    obtain ⟨a2, b2⟩ := List.pairwise_cons.mp h2
    have e : x = y := by
      rcases List.mem_cons.mp ((h x).mp (List.mem_cons_self ..)) with e | m
      · exact e
      · rcases List.mem_cons.mp ((h y).mpr (List.mem_cons_self ..)) with e | m'
        · exact e.symm
        · have := a1 y m'
          have := a2 x m
          omega
    subst e
    have : ps = qs := sorted_eq b1 b2 fun z => by
      constructor
      · intro m
        rcases List.mem_cons.mp ((h z).mp (List.mem_cons_of_mem _ m)) with e | m'
        · subst e; exact absurd (a1 z m) (by omega)
        · exact m'
      · intro m
        rcases List.mem_cons.mp ((h z).mpr (List.mem_cons_of_mem _ m)) with e | m'
        · subst e; exact absurd (a2 z m) (by omega)
        · exact m'
    rw [this]
theorem Form.uniq (hL : Lat w L) (t : Form w L ps) (t' : Form w L qs) : ps = qs :=
  sorted_eq t.sorted t'.sorted fun ⟨p, a⟩ => ⟨fun m => t.same hL t' m, fun m => t'.same hL t m⟩
theorem Form.congr {L' : Vec → Prop} (t : Form w L ps) (h : ∀ v, L v ↔ L' v) : Form w L' ps where
  sorted := t.sorted
  row := fun p a m => by
    obtain ⟨h1, h2, h3⟩ := t.row p a m
    exact ⟨h1, (h a).mp h2, h3⟩
  div := fun p v hp hv hz => t.div p v hp ((h v).mpr hv) hz
  pos := t.pos
  red := t.red
end
def low1 (v : Vec) (x : Nat × Vec) : Vec := sub1 v x.2 ((nth v x.1).fdiv (nth x.2 x.1))
def lower (v : Vec) (ps : Ps) : Vec := ps.foldl low1 v
theorem fdiv_rem {a b : Int} (hb : 0 < b) : 0 ≤ a - b * a.fdiv b ∧ a - b * a.fdiv b < b := by
  rw [Int.fdiv_eq_ediv_of_nonneg a (by omega)]
  have h1 := Int.emod_nonneg a (show b ≠ 0 by omega)
  have h2 := Int.emod_lt_of_pos a hb
  have h3 := Int.emod_def a b
  omega
section
variable {w : Nat} {L : Vec → Prop} {ps qs : Ps}
theorem low1_len {v : Vec} {x : Nat × Vec} (h : v.length = x.2.length) : (low1 v x).length = v.length := sub1_len h
theorem low1_before {v : Vec} {x : Nat × Vec} (h : v.length = x.2.length) (hz : Z x.1 x.2) {i : Nat} (hi : i < x.1) : nth (low1 v x) i = nth v i := by
  unfold low1
  rw [nth_sub1 h, hz i hi]
  simp
/-- lowering: what stays, what it comes to -/
theorem lower_spec : ∀ (ps : Ps) (v : Vec) (n : Nat), v.length = n → (∀ p a, (p, a) ∈ ps → a.length = n ∧ Z p a ∧ 0 < nth a p) → ps.Pairwise (fun x y => x.1 < y.1) →
    (lower v ps).length = n ∧ (∀ i, (∀ p a, (p, a) ∈ ps → i < p) → nth (lower v ps) i = nth v i) ∧ (∀ q b, (q, b) ∈ ps → 0 ≤ nth (lower v ps) q ∧ nth (lower v ps) q < nth b q)
  | [], v, n, hv, _, _ => ⟨hv, fun _ _ => rfl, fun _ _ m => by cases m⟩
  | (p, a) :: ps, v, n, hv, h, hs => by
    obtain ⟨la, za, pa⟩ := h p a (List.mem_cons_self ..)
    obtain ⟨s1, s2⟩ := List.pairwise_cons.mp hs
    have lva : v.length = a.length := hv.trans la.symm
    obtain ⟨k1, k2, k3⟩ := lower_spec ps (low1 v (p, a)) n ((low1_len lva).trans hv) (fun q b m => h q b (List.mem_cons_of_mem _ m)) s2
    refine ⟨k1, fun i hi => ?_, fun q b m => ?_⟩
    · exact (k2 i fun q b m => hi q b (List.mem_cons_of_mem _ m)).trans (low1_before lva za (hi p a (List.mem_cons_self ..)))
    · rcases List.mem_cons.mp m with e | m
      · cases e
        have e1 := k2 p fun q b m => s1 (q, b) m
        have e2 : nth (lower v ((p, a) :: ps)) p = nth (lower (low1 v (p, a)) ps) p := rfl
        rw [e2, e1]
        unfold low1
        rw [nth_sub1 lva]
        exact fdiv_rem pa
      · exact k3 q b m
theorem lower_in (hL : Lat w L) : ∀ (ps : Ps) (v : Vec), L v → (∀ p a, (p, a) ∈ ps → L a) → L (lower v ps)
  | [], v, hv, _ => hv
  | (p, a) :: ps, v, hv, h => lower_in hL ps (low1 v (p, a)) (hL.sub _ _ _ hv (h p a (List.mem_cons_self ..))) fun q b m => h q b (List.mem_cons_of_mem _ m)
/-- a vector of the lattice comes to nothing -/
theorem lower_zero (hL : Lat w L) (t : Form w L ps) {v : Vec} (hv : L v) : lower v ps = zv w := by
  obtain ⟨k1, k2, k3⟩ := lower_spec ps v w (hL.len v hv) (fun p a m => by
    obtain ⟨_, h2, h3, _⟩ := t.row p a m
    exact ⟨hL.len a h2, h3, t.pos p a m⟩) t.sorted
  have hl := lower_in hL ps v hv fun p a m => (t.row p a m).2.1
  have z : ∀ n i, i < n → i < w → nth (lower v ps) i = 0 := by
    intro n
    induction n with
    | zero => intro i hi; omega
    | succ n ih =>
      intro i hi hw
      by_cases hin : i < n
      · exact ih i hin hw
      have dv := t.div i _ hw hl fun j hj => ih j (by omega) (by omega)
      by_cases hc : ∃ c, (i, c) ∈ ps
      · obtain ⟨c, hc⟩ := hc
        have := k3 i c hc
        exact dvd_small (dv.1 c hc) (by omega)
      · exact dv.2 fun c m => hc ⟨c, m⟩
  refine vext (by simp [zv, k1]) fun i hi => ?_
  rw [nth_zv]
  exact z (i + 1) i (by omega) (by omega)
/-- heads with positive rows, each lowered by those behind it, as it stands (program) -/
def redA : Ps → Ps
  | [] => []
  | (p, a) :: ps => (p, lower a ps) :: redA ps
/-- the same by rows that are lowered already (law) -/
def redB : Ps → Ps
  | [] => []
  | (p, a) :: ps => (p, lower a (redB ps)) :: redB ps
end
end ML
end
section
namespace ML
def Bb (e : Nat) (v : Vec) : Prop := ∀ a ∈ v, a.natAbs < 2 ^ e
theorem Bb.mono {e e' : Nat} {v : Vec} (h : Bb e v) (he : e ≤ e') : Bb e' v := fun a m => Nat.lt_of_lt_of_le (h a m) (Nat.pow_le_pow_right (by decide) he)
theorem Bb.nth {e : Nat} {v : Vec} (h : Bb e v) (i : Nat) : (nth v i).natAbs < 2 ^ e := by
  by_cases hi : i < v.length
  · exact h _ (List.mem_of_getElem? (nth_get hi))
  · rw [nth_ge (by omega)]
    exact Nat.two_pow_pos e
theorem mem_sub1 {u v : Vec} {c z : Int} (h : z ∈ sub1 u v c) : ∃ a b, a ∈ u ∧ b ∈ v ∧ z = a - b * c := by
  obtain ⟨i, hi, e⟩ := List.mem_iff_getElem.mp h
  unfold sub1 at hi e
  rw [List.getElem_zipWith] at e
  exact ⟨_, _, List.getElem_mem _, List.getElem_mem _, e.symm⟩
def red (at_ : Nat) (s head : Vec) : Vec := sub1 s head ((nth s at_).fdiv (nth head at_))
theorem fdiv_facts {s h : Int} (hh : 0 < h) : s = h * s.fdiv h + s.fmod h ∧ 0 ≤ s.fmod h ∧ s.fmod h < h ∧ (s.fdiv h).natAbs ≤ s.natAbs := by
  have e := Int.mul_fdiv_add_fmod s h
  have h1 := Int.fmod_nonneg_of_pos s hh
  have h2 := Int.fmod_lt_of_pos s hh
  refine ⟨e.symm, h1, h2, ?_⟩
  generalize s.fdiv h = q at e
  generalize s.fmod h = r at e h1 h2
  by_cases hq : 0 ≤ q
  · have : q * 1 ≤ h * q := by rw [Int.mul_comm h q]; exact Int.mul_le_mul_of_nonneg_left (by omega) hq
    omega
  · have : (-q - 1) * 1 ≤ (-q - 1) * h := Int.mul_le_mul_of_nonneg_left (by omega) (by omega)
    have e2 : (-q - 1) * h = -(h * q) - h := by rw [Int.sub_mul, Int.neg_mul, Int.mul_comm q h]; omega
    omega
/-- the same, the divisor of any sign -/
theorem fdiv_sign {s h σ : Int} (hσ : σ = 1 ∨ σ = -1) (hh : 0 < σ * h) : 0 ≤ σ * (s - h * s.fdiv h) ∧ σ * (s - h * s.fdiv h) < σ * h ∧ (s.fdiv h).natAbs ≤ s.natAbs := by
  rcases hσ with rfl | rfl
  · have f := fdiv_facts (s := s) (h := h) (by omega)
    refine ⟨by omega, by omega, f.2.2.2⟩
  · have f := fdiv_facts (s := -s) (h := -h) (by omega)
    have e : (-s).fdiv (-h) = s.fdiv h := Int.neg_fdiv_neg _ _
    rw [e] at f
    have e2 : -h * s.fdiv h = -(h * s.fdiv h) := Int.neg_mul _ _
    rw [e2] at f
    refine ⟨by omega, by omega, by have := f.2.2.2; omega⟩
structure Itr (at_ : Nat) (head : Vec) (left rest late rest' : List Vec) : Prop where
  l1 : head ∈ late
  l2 : ∀ r ∈ late, r = head ∨ ∃ s ∈ left, r = red at_ s head ∧ nth r at_ ≠ 0
  l3 : ∀ r ∈ rest', r ∈ rest ∨ ∃ s ∈ left, r = red at_ s head ∧ nth r at_ = 0
  l4 : ∀ s ∈ left, s = head ∨ red at_ s head ∈ late ++ rest'
  l5 : ∀ r ∈ rest, r ∈ rest'
  l6 : late.length + rest'.length ≤ left.length + rest.length
  l7 : ∃ stay, late = head :: stay ∧ ∀ r ∈ stay, ∃ s ∈ left, r = red at_ s head ∧ nth r at_ ≠ 0
def Ph (at_ e : Nat) (left : List Vec) : Prop := ∃ (σ : Int) (M h : Nat), (σ = 1 ∨ σ = -1) ∧ 1 ≤ h ∧ (∀ r ∈ left, (h : Int) ≤ σ * nth r at_ ∧ σ * nth r at_ ≤ (M : Int) ∧ ∀ a ∈ r, a.natAbs * M * h ≤ 2 ^ (4 * e)) ∧ ∃ r ∈ left, σ * nth r at_ = (h : Int)
structure Cl (w at_ e : Nat) (rows left rest : List Vec) : Prop where
  lw : Len w (left ++ rest)
  nz : ∀ r ∈ left, nth r at_ ≠ 0
  zr : ∀ r ∈ rest, nth r at_ = 0
  s1 : ∀ r ∈ left ++ rest, Span w rows r
  s2 : ∀ r ∈ rows, Span w (left ++ rest) r
  cnt : left.length + rest.length ≤ rows.length
  bl : (∀ r ∈ left, Bb e r) ∨ Ph at_ e left
  br : ∀ r ∈ rest, Bb (4 * e + 2) r
theorem red_nth {at_ : Nat} {s head : Vec} (h : s.length = head.length) : nth (red at_ s head) at_ = nth s at_ - nth head at_ * (nth s at_).fdiv (nth head at_) := nth_sub1 h at_
theorem Ph.small {at_ e : Nat} {left : List Vec} (p : Ph at_ e left) : ∀ r ∈ left, Bb (4 * e + 1) r := by
  obtain ⟨σ, M, h, hσ, h1, hr, _⟩ := p
  intro r m a ha
  obtain ⟨k1, k2, k3⟩ := hr r m
  have := k3 a ha
  have hM : 1 ≤ M := by omega
  have e1 : a.natAbs * 1 * 1 ≤ a.natAbs * M * h := Nat.mul_le_mul (Nat.mul_le_mul_left _ hM) h1
  have e2 : 2 ^ (4 * e + 1) = 2 ^ (4 * e) * 2 := Nat.pow_succ ..
  have e3 := Nat.two_pow_pos (4 * e)
  omega
theorem Cl.small {w at_ e : Nat} {rows left rest : List Vec} (c : Cl w at_ e rows left rest) : ∀ r ∈ left, Bb (4 * e + 1) r := by
  rcases c.bl with h | h
  · exact fun r m => (h r m).mono (by omega)
  · exact h.small
/-- one row lowered, first turn -/
theorem red_b1 {at_ e : Nat} {s head : Vec} {σ : Int} (hs : Bb e s) (hh : Bb e head) (hσ : σ = 1 ∨ σ = -1) (hp : 0 < σ * nth head at_) : Bb (2 * e) (red at_ s head) := by
  intro z hz
  obtain ⟨a, b, ha, hb, rfl⟩ := mem_sub1 hz
  have q := (fdiv_sign (s := nth s at_) hσ hp).2.2
  have q2 := hs.nth at_
  have h1 := hs a ha
  have h2 := hh b hb
  generalize (nth s at_).fdiv (nth head at_) = c at *
  have e1 : (a - b * c).natAbs ≤ a.natAbs + b.natAbs * c.natAbs := by
    have := Int.natAbs_sub_le a (b * c)
    rw [Int.natAbs_mul] at this
    exact this
  have e2 : b.natAbs * c.natAbs ≤ (2 ^ e - 1) * (2 ^ e - 1) := Nat.mul_le_mul (by omega) (by omega)
  have e3 : 2 ^ (2 * e) = 2 ^ e * 2 ^ e := by rw [← Nat.pow_add]; congr 1; omega
  have e4 := Nat.two_pow_pos e
  rw [e3]
  generalize 2 ^ e = p at *
  obtain ⟨p', rfl⟩ : ∃ p', p = p' + 1 := ⟨p - 1, by omega⟩
  rw [Nat.add_sub_cancel] at e2
  have e5 : (p' + 1) * (p' + 1) = p' * p' + p' + p' + 1 := by rw [Nat.add_mul, Nat.mul_add]; omega
  omega
/-- one row lowered, all of one sign -/
theorem red_b2 {at_ : Nat} {s head : Vec} {σ : Int} {M h C : Nat} (hσ : σ = 1 ∨ σ = -1) (hl : s.length = head.length) (h1 : 1 ≤ h) (hh : σ * nth head at_ = (h : Int)) (s1 : (h : Int) ≤ σ * nth s at_) (s2 : σ * nth s at_ ≤ (M : Int))
    (bs : ∀ a ∈ s, a.natAbs * M * h ≤ C) (bh : ∀ a ∈ head, a.natAbs * M * h ≤ C) :
    ∃ q r : Nat, q * h + r ≤ M ∧ 1 ≤ q ∧ r < h ∧ σ * nth (red at_ s head) at_ = (r : Int) ∧ ∀ z ∈ red at_ s head, ∃ X : Nat, X * M * h ≤ C ∧ z.natAbs ≤ X * (1 + q) := by
  have key : ∃ q r : Nat, (nth s at_).fdiv (nth head at_) = (q : Int) ∧ σ * nth s at_ = (q : Int) * h + r ∧ r < h ∧ 1 ≤ q := by
    have f := fdiv_facts (s := σ * nth s at_) (h := (h : Int)) (by omega)
    have e : (σ * nth s at_).fdiv (h : Int) = (nth s at_).fdiv (nth head at_) := by
      rw [← hh]
      rcases hσ with rfl | rfl
      · rw [Int.one_mul, Int.one_mul]
      · rw [Int.neg_one_mul, Int.neg_one_mul]; exact Int.neg_fdiv_neg _ _
    rw [e] at f
    generalize (nth s at_).fdiv (nth head at_) = q at *
    generalize (σ * nth s at_).fmod (h : Int) = r at *
    have hq : 1 ≤ q := by
      refine Classical.byContradiction fun hn => ?_
      have : (h : Int) * q ≤ (h : Int) * 0 := Int.mul_le_mul_of_nonneg_left (by omega) (by omega)
      omega
    refine ⟨q.toNat, r.toNat, by omega, ?_, by omega, by omega⟩
    have e1 : ((q.toNat : Nat) : Int) = q := by omega
    have e2 : ((r.toNat : Nat) : Int) = r := by omega
    rw [e1, e2, Int.mul_comm q]
    exact f.1
  obtain ⟨q, r, e1, e2, e3, e4⟩ := key
  refine ⟨q, r, ?_, e4, e3, ?_, fun z hz => ?_⟩
  · have : ((q * h + r : Nat) : Int) ≤ (M : Int) := by
      rw [Int.natCast_add, Int.natCast_mul]
      omega
    omega
  · rw [red_nth hl, e1, Int.mul_sub, ← Int.mul_assoc, hh, e2, Int.mul_comm (h : Int)]
    omega
  · unfold red at hz
    rw [e1] at hz
    obtain ⟨a, b, ha, hb, rfl⟩ := mem_sub1 hz
    have m1 := bs a ha
    have m2 := bh b hb
    refine ⟨max a.natAbs b.natAbs, ?_, ?_⟩
    · rcases Nat.le_total a.natAbs b.natAbs with h | h
      · rw [Nat.max_eq_right h]; exact m2
      · rw [Nat.max_eq_left h]; exact m1
    · have t1 := Int.natAbs_sub_le a (b * q)
      rw [Int.natAbs_mul, Int.natAbs_natCast] at t1
      have t2 : a.natAbs ≤ max a.natAbs b.natAbs := Nat.le_max_left ..
      have t3 : b.natAbs * q ≤ max a.natAbs b.natAbs * q := Nat.mul_le_mul_right _ (Nat.le_max_right ..)
      rw [Nat.mul_add, Nat.mul_one]
      omega
/-- a list has a least -/
theorem least_of {α : Type} (f : α → Nat) : ∀ l : List α, l ≠ [] → ∃ x ∈ l, ∀ y ∈ l, f x ≤ f y
  | [], h => (h rfl).elim
  | [x], _ => ⟨x, List.mem_cons_self .., fun y m => by rw [List.mem_singleton.mp m]; exact Nat.le_refl _⟩
  | x :: y :: l, _ => by
    obtain ⟨z, hz, h⟩ := least_of f (y :: l) (by simp)
    by_cases hx : f x ≤ f z
    · exact ⟨x, List.mem_cons_self .., fun u m => (List.mem_cons.mp m).elim (fun e => by rw [e]; exact Nat.le_refl _) fun m => Nat.le_trans hx (h u m)⟩
    · exact ⟨z, List.mem_cons_of_mem _ hz, fun u m => (List.mem_cons.mp m).elim (fun e => by rw [e]; omega) fun m => h u m⟩
theorem Cl.step {w at_ e : Nat} {rows left rest late rest' : List Vec} {head : Vec} (hr : Len w rows) (c : Cl w at_ e rows left rest) (hm : head ∈ left) (hl : ∀ s ∈ left, (nth head at_).natAbs ≤ (nth s at_).natAbs) (I : Itr at_ head left rest late rest') : Cl w at_ e rows late rest' := by
  have lh : head.length = w := c.lw head (List.mem_append_left _ hm)
  have ls : ∀ s ∈ left, s.length = head.length := fun s m => (c.lw s (List.mem_append_left _ m)).trans lh.symm
  have lr : ∀ s ∈ left, (red at_ s head).length = w := fun s m => (sub1_len (ls s m)).trans ((ls s m).trans lh)
  have sr : ∀ s ∈ left, Span w rows (red at_ s head) := fun s m => (c.s1 s (List.mem_append_left _ m)).sub hr (c.s1 head (List.mem_append_left _ hm)) _
  have LW : Len w (late ++ rest') := fun r m => by
    rcases List.mem_append.mp m with m | m
    · rcases I.l2 r m with rfl | ⟨s, hs, rfl, _⟩
      · exact lh
      · exact lr s hs
    · rcases I.l3 r m with m | ⟨s, hs, rfl, _⟩
      · exact c.lw r (List.mem_append_right _ m)
      · exact lr s hs
  have nzh := c.nz head hm
  obtain ⟨σ0, hσ0, hp0⟩ : ∃ σ : Int, (σ = 1 ∨ σ = -1) ∧ 0 < σ * nth head at_ := by
    by_cases h : 0 < nth head at_
    · exact ⟨1, .inl rfl, by omega⟩
    · exact ⟨-1, .inr rfl, by omega⟩
  refine ⟨LW, fun r m => ?_, fun r m => ?_, fun r m => ?_, fun r m => ?_, Nat.le_trans I.l6 c.cnt, ?_, fun r m => ?_⟩
  · rcases I.l2 r m with rfl | ⟨s, hs, _, h⟩
    · exact nzh
    · exact h
  · rcases I.l3 r m with m | ⟨s, hs, _, h⟩
    · exact c.zr r m
    · exact h
  · rcases List.mem_append.mp m with m | m
    · rcases I.l2 r m with rfl | ⟨s, hs, rfl, _⟩
      · exact c.s1 _ (List.mem_append_left _ hm)
      · exact sr s hs
    · rcases I.l3 r m with m | ⟨s, hs, rfl, _⟩
      · exact c.s1 r (List.mem_append_right _ m)
      · exact sr s hs
  · refine Span.mono LW (fun v mv => ?_) (c.s2 r m)
    have hS : Span w (late ++ rest') head := Span.mem LW (List.mem_append_left _ I.l1)
    rcases List.mem_append.mp mv with mv | mv
    · rcases I.l4 v mv with rfl | h
      · exact hS
      · have := (Span.mem LW h).sub LW hS (-((nth v at_).fdiv (nth head at_)))
        have e1 : sub1 (red at_ v head) head (-((nth v at_).fdiv (nth head at_))) = v := by
          have lv := ls v mv
          refine vext (by rw [sub1_len ((lr v mv).trans lh.symm), lr v mv]; exact (lv.trans lh).symm) fun i _ => ?_
          rw [nth_sub1 ((lr v mv).trans lh.symm)]
          unfold red
          rw [nth_sub1 lv, Int.mul_neg]
          omega
        rw [e1] at this
        exact this
    · exact Span.mem LW (List.mem_append_right _ (I.l5 v mv))
  · right
    rcases c.bl with b1 | ⟨σ, M, h, hσ, h1, hrw, r0, m0, e0⟩
    · -- the first turn
      obtain ⟨x, hx, hxl⟩ := least_of (fun r => (nth r at_).natAbs) late (List.ne_nil_of_mem I.l1)
      have sg : ∀ r ∈ late, 0 < σ0 * nth r at_ ∧ σ0 * nth r at_ ≤ σ0 * nth head at_ ∧ Bb (2 * e) r := fun r m => by
        rcases I.l2 r m with rfl | ⟨s, hs, rfl, hn⟩
        · exact ⟨hp0, Int.le_refl _, (b1 _ hm).mono (by omega)⟩
        · have f := fdiv_sign (s := nth s at_) hσ0 hp0
          rw [red_nth (ls s hs)] at hn ⊢
          refine ⟨?_, by omega, red_b1 (b1 s hs) (b1 head hm) hσ0 hp0⟩
          rcases hσ0 with rfl | rfl <;> omega
      have hM := (b1 head hm).nth at_
      have ab : ∀ r ∈ late, σ0 * nth r at_ = ((nth r at_).natAbs : Int) := fun r m => by
        have := (sg r m).1
        rcases hσ0 with rfl | rfl <;> omega
      have abh : σ0 * nth head at_ = ((nth head at_).natAbs : Int) := by rcases hσ0 with rfl | rfl <;> omega
      refine ⟨σ0, (nth head at_).natAbs, (nth x at_).natAbs, hσ0, by have := (sg x hx).1; have := ab x hx; omega, fun r m => ⟨?_, ?_, fun a ha => ?_⟩, x, hx, ab x hx⟩
      · rw [ab r m]
        have := hxl r m
        omega
      · rw [← abh]; exact (sg r m).2.1
      · have a1 := (sg r m).2.2 a ha
        have a2 : (nth x at_).natAbs ≤ (nth head at_).natAbs := hxl head I.l1
        have e3 : 2 ^ (4 * e) = 2 ^ (2 * e) * 2 ^ e * 2 ^ e := by rw [← Nat.pow_add, ← Nat.pow_add]; congr 1; omega
        rw [e3]
        exact Nat.mul_le_mul (Nat.mul_le_mul (by omega) (by omega)) (by omega)
    · -- a later turn
      have hh : σ * nth head at_ = (h : Int) := by
        have k1 := hrw head hm
        have k2 := hl r0 m0
        have : σ * nth head at_ = ((nth head at_).natAbs : Int) := by rcases hσ with rfl | rfl <;> omega
        have : σ * nth r0 at_ = ((nth r0 at_).natAbs : Int) := by rcases hσ with rfl | rfl <;> omega
        omega
      obtain ⟨x, hx, hxl⟩ := least_of (fun r => (nth r at_).natAbs) late (List.ne_nil_of_mem I.l1)
      have hMh : h ≤ M := by have := hrw head hm; omega
      have sg : ∀ r ∈ late, 0 < σ * nth r at_ ∧ σ * nth r at_ ≤ (h : Int) := fun r m => by
        rcases I.l2 r m with rfl | ⟨s, hs, rfl, hn⟩
        · omega
        · obtain ⟨q, rr, _, _, k3, k4, _⟩ := red_b2 (at_ := at_) hσ (ls s hs) h1 hh (hrw s hs).1 (hrw s hs).2.1 (hrw s hs).2.2 (hrw head hm).2.2
          have : σ * nth (red at_ s head) at_ ≠ 0 := by rcases hσ with rfl | rfl <;> omega
          omega
      have ab : ∀ r ∈ late, σ * nth r at_ = ((nth r at_).natAbs : Int) := fun r m => by
        have := (sg r m).1
        rcases hσ with rfl | rfl <;> omega
      refine ⟨σ, h, (nth x at_).natAbs, hσ, by have := (sg x hx).1; have := ab x hx; omega, fun r m => ⟨?_, (sg r m).2, fun a ha => ?_⟩, x, hx, ab x hx⟩
      · rw [ab r m]
        have := hxl r m
        omega
      · have hx1 := hxl r m
        have xh : (nth x at_).natAbs ≤ h := by have := (sg x hx).2; have := ab x hx; omega
        rcases I.l2 r m with rfl | ⟨s, hs, rfl, hn⟩
        · have := (hrw _ hm).2.2 a ha
          refine Nat.le_trans (Nat.mul_le_mul (Nat.mul_le_mul_left _ hMh) xh) this
        · obtain ⟨q, rr, k1, k2, k3, k4, k5⟩ := red_b2 (at_ := at_) hσ (ls s hs) h1 hh (hrw s hs).1 (hrw s hs).2.1 (hrw s hs).2.2 (hrw head hm).2.2
          obtain ⟨X, hX, hz⟩ := k5 a ha
          have e5 : (nth x at_).natAbs ≤ rr := by
            have := ab _ m
            omega
          -- X (1 + q) rr ≤ X (q h + rr) ≤ X M
          have t1 : (1 + q) * rr ≤ M := by
            have : q * rr ≤ q * h := Nat.mul_le_mul_left _ (by omega)
            rw [Nat.add_mul, Nat.one_mul]
            omega
          have t2 : a.natAbs * h * (nth x at_).natAbs ≤ X * (1 + q) * h * rr := Nat.mul_le_mul (Nat.mul_le_mul_right _ hz) e5
          have t3 : X * (1 + q) * h * rr = X * ((1 + q) * rr) * h := by
            rw [Nat.mul_assoc X (1 + q) h, Nat.mul_assoc X, Nat.mul_assoc X, Nat.mul_assoc (1 + q) h rr, Nat.mul_assoc (1 + q) rr h, Nat.mul_comm h rr]
          rw [t3] at t2
          exact Nat.le_trans t2 (Nat.le_trans (Nat.mul_le_mul_right _ (Nat.mul_le_mul_left _ t1)) hX)
  · rcases I.l3 r m with m | ⟨s, hs, rfl, hz⟩
    · exact c.br r m
    · rcases c.bl with b1 | ⟨σ, M, h, hσ, h1, hrw, r0, m0, e0⟩
      · exact (red_b1 (b1 s hs) (b1 head hm) hσ0 hp0).mono (by omega)
      · have hh : σ * nth head at_ = (h : Int) := by
          have k1 := hrw head hm
          have k2 := hl r0 m0
          have : σ * nth head at_ = ((nth head at_).natAbs : Int) := by rcases hσ with rfl | rfl <;> omega
          have : σ * nth r0 at_ = ((nth r0 at_).natAbs : Int) := by rcases hσ with rfl | rfl <;> omega
          omega
        obtain ⟨q, rr, k1, k2, k3, k4, k5⟩ := red_b2 (at_ := at_) hσ (ls s hs) h1 hh (hrw s hs).1 (hrw s hs).2.1 (hrw s hs).2.2 (hrw head hm).2.2
        intro a ha
        obtain ⟨X, hX, hz⟩ := k5 a ha
        have t0 : q * 1 ≤ q * h := Nat.mul_le_mul_left _ h1
        have t1 : X * (1 + q) ≤ X * (M * 2) := Nat.mul_le_mul_left _ (by omega)
        have t2 : X * M * 1 ≤ X * M * h := Nat.mul_le_mul_left _ h1
        have t3 : X * (M * 2) = X * M * 2 := by rw [Nat.mul_assoc]
        have e2 : 2 ^ (4 * e + 2) = 2 ^ (4 * e) * 4 := by rw [Nat.pow_add]
        have e3 := Nat.two_pow_pos (4 * e)
        omega
/-- the measure goes down -/
theorem Itr.less {w at_ e : Nat} {rows left rest late rest' : List Vec} {head : Vec} (c : Cl w at_ e rows left rest) (hm : head ∈ left) (I : Itr at_ head left rest late rest') (h : 1 < late.length) : ∃ r ∈ late, (nth r at_).natAbs < (nth head at_).natAbs := by
  obtain ⟨stay, rfl, hs⟩ := I.l7
  have nzh := c.nz head hm
  obtain ⟨σ0, hσ0, hp0⟩ : ∃ σ : Int, (σ = 1 ∨ σ = -1) ∧ 0 < σ * nth head at_ := by
    by_cases h : 0 < nth head at_
    · exact ⟨1, .inl rfl, by omega⟩
    · exact ⟨-1, .inr rfl, by omega⟩
  cases stay with
  | nil => simp at h
  | cons r stay =>
    obtain ⟨s, hms, rfl, hn⟩ := hs r (List.mem_cons_self ..)
    refine ⟨_, List.mem_cons_of_mem _ (List.mem_cons_self ..), ?_⟩
    have ls : s.length = head.length := (c.lw s (List.mem_append_left _ hms)).trans (c.lw head (List.mem_append_left _ hm)).symm
    have f := fdiv_sign (s := nth s at_) hσ0 hp0
    rw [red_nth ls]
    rw [red_nth ls] at hn
    rcases hσ0 with rfl | rfl <;> omega
end ML
end
section
namespace ML
structure Ech (w : Nat) (L : Vec → Prop) (at_ : Nat) (ps : Ps) (rest : List Vec) : Prop where
  sorted : ps.Pairwise (fun x y => x.1 < y.1)
  row : ∀ p a, (p, a) ∈ ps → p < at_ ∧ L a ∧ Z p a ∧ 0 < nth a p
  div : ∀ p v, p < at_ → L v → Z p v → (∀ a, (p, a) ∈ ps → nth a p ∣ nth v p) ∧ ((∀ a, (p, a) ∉ ps) → nth v p = 0)
  lr : Len w rest
  rin : ∀ r ∈ rest, L r ∧ Z at_ r
  gen : ∀ v, L v → Z at_ v → Span w rest v
theorem Z.span {w n : Nat} {vs : List Vec} {v : Vec} (hl : Len w vs) (h : ∀ r ∈ vs, Z n r) (hv : Span w vs v) : Z n v := fun i hi => hv.nth0 hl fun r m => h r m i hi
theorem Lat.span {w : Nat} {L : Vec → Prop} {vs : List Vec} {v : Vec} (hL : Lat w L) (h0 : L (zv w)) (h : ∀ r ∈ vs, L r) (hv : Span w vs v) : L v := by
  induction hv with
  | zero => exact h0
  | step c _ m ih => exact hL.sub _ _ c ih (h _ m)
theorem ech_start {w : Nat} {vs : List Vec} (hl : Len w vs) : Ech w (Span w vs) 0 [] vs := ⟨List.Pairwise.nil, fun _ _ m => (nomatch m), fun p v h => absurd h (Nat.not_lt_zero p), hl, fun r m => ⟨Span.mem hl m, fun i hi => by omega⟩, fun v hv _ => hv⟩
section
variable {w at_ : Nat} {L : Vec → Prop} {ps : Ps} {rest rest' : List Vec}
theorem Ech.none (hL : Lat w L) (h0 : L (zv w)) (E : Ech w L at_ ps rest) (hl : Len w rest') (s1 : ∀ r ∈ rest', Span w rest r) (s2 : ∀ r ∈ rest, Span w rest' r) (hz : ∀ r ∈ rest', nth r at_ = 0) : Ech w L (at_ + 1) ps rest' := by
  have z0 : ∀ v, L v → Z at_ v → nth v at_ = 0 := fun v hv hz' => (Span.mono hl s2 (E.gen v hv hz')).nth0 hl hz
  refine ⟨E.sorted, fun p a m => ?_, fun p v hp hv hz' => ?_, hl, fun r m => ?_, fun v hv hz' => ?_⟩
  · obtain ⟨h1, h2⟩ := E.row p a m
    exact ⟨by omega, h2⟩
  · by_cases h : p < at_
    · exact E.div p v h hv hz'
    · have : p = at_ := by omega
      subst this
      exact ⟨fun a m => by have := (E.row p a m).1; omega, fun _ => z0 v hv hz'⟩
  · have hr := s1 r m
    refine ⟨hL.span h0 (fun r m => (E.rin r m).1) hr, fun i hi => ?_⟩
    by_cases h : i < at_
    · exact Z.span E.lr (fun r m => (E.rin r m).2) hr i h
    · have : i = at_ := by omega
      subst this
      exact hz r m
  · exact Span.mono hl s2 (E.gen v hv fun i hi => hz' i (by omega))
theorem Ech.some {a : Vec} (hL : Lat w L) (h0 : L (zv w)) (E : Ech w L at_ ps rest) (hl : Len w (a :: rest')) (s1 : ∀ r ∈ a :: rest', Span w rest r) (s2 : ∀ r ∈ rest, Span w (a :: rest') r) (hz : ∀ r ∈ rest', nth r at_ = 0) (hp : 0 < nth a at_) : Ech w L (at_ + 1) (ps ++ [(at_, a)]) rest' := by
  have hl' : Len w rest' := fun r m => hl r (List.mem_cons_of_mem _ m)
  have la : a.length = w := hl a (List.mem_cons_self ..)
  have key : ∀ v, L v → Z at_ v → ∃ c u, Span w rest' u ∧ v = sub1 u a c ∧ nth v at_ = - (nth a at_ * c) := fun v hv hz' => by
    obtain ⟨c, u, hu, e⟩ := span_cons hl (Span.mono hl s2 (E.gen v hv hz'))
    refine ⟨c, u, hu, e, ?_⟩
    rw [e, nth_sub1 ((hu.len hl').trans la.symm), hu.nth0 hl' hz]
    omega
  have inL : ∀ r ∈ a :: rest', L r ∧ Z at_ r := fun r m => ⟨hL.span h0 (fun r m => (E.rin r m).1) (s1 r m), Z.span E.lr (fun r m => (E.rin r m).2) (s1 r m)⟩
  refine ⟨?_, fun p b m => ?_, fun p v hpp hv hz' => ?_, hl', fun r m => ?_, fun v hv hz' => ?_⟩
  · refine List.pairwise_append.mpr ⟨E.sorted, List.pairwise_singleton .., fun x hx y hy => ?_⟩
    rw [List.mem_singleton.mp hy]
    exact (E.row x.1 x.2 hx).1
  · rcases List.mem_append.mp m with m | m
    · obtain ⟨h1, h2⟩ := E.row p b m
      exact ⟨by omega, h2⟩
    · cases List.mem_singleton.mp m
      obtain ⟨k1, k2⟩ := inL a (List.mem_cons_self ..)
      exact ⟨by omega, k1, k2, hp⟩
  · by_cases h : p < at_
    · obtain ⟨d1, d2⟩ := E.div p v h hv hz'
      refine ⟨fun b m => ?_, fun hn => d2 fun b m => hn b (List.mem_append_left _ m)⟩
      rcases List.mem_append.mp m with m | m
      · exact d1 b m
      · cases List.mem_singleton.mp m
        omega
    · have : p = at_ := by omega
      subst this
      refine ⟨fun b m => ?_, fun hn => absurd (List.mem_append_right _ (List.mem_singleton.mpr rfl)) (hn a)⟩
      rcases List.mem_append.mp m with m | m
      · have := (E.row p b m).1
        omega
      · cases List.mem_singleton.mp m
        obtain ⟨c, u, _, _, e⟩ := key v hv hz'
        rw [e]
        exact ⟨-c, by rw [Int.mul_neg]⟩
  · obtain ⟨k1, k2⟩ := inL r (List.mem_cons_of_mem _ m)
    refine ⟨k1, fun i hi => ?_⟩
    by_cases h : i < at_
    · exact k2 i h
    · have : i = at_ := by omega
      subst this
      exact hz r m
  · obtain ⟨c, u, hu, e, e2⟩ := key v hv fun i hi => hz' i (by omega)
    have hc : c = 0 := by
      have := hz' at_ (by omega)
      rw [this] at e2
      rcases Int.mul_eq_zero.mp (show nth a at_ * c = 0 by omega) with h | h
      · omega
      · exact h
    subst hc
    have : sub1 u a 0 = u := vext (sub1_len ((hu.len hl').trans la.symm)) fun i _ => by rw [nth_sub1 ((hu.len hl').trans la.symm)]; omega
    rw [e, this]
    exact hu
theorem Ech.tri (E : Ech w L w ps rest) : Tri w L ps := ⟨E.sorted, fun p a m => by obtain ⟨h1, h2, h3, h4⟩ := E.row p a m; exact ⟨h1, h2, h3, by omega⟩, fun p v hp hv hz => E.div p v hp hv hz⟩
structure Rd (w : Nat) (L : Vec → Prop) (ps qs : Ps) : Prop where
  heads : qs.map (·.1) = ps.map (·.1)
  row : ∀ p b, (p, b) ∈ qs → L b ∧ Z p b ∧ ∃ a, (p, a) ∈ ps ∧ nth b p = nth a p
  red : ∀ p a q b, (p, a) ∈ qs → (q, b) ∈ qs → p < q → 0 ≤ nth a q ∧ nth a q < nth b q
theorem fst_mem {ps qs : Ps} (h : qs.map (·.1) = ps.map (·.1)) {p : Nat} {a : Vec} (m : (p, a) ∈ ps) : ∃ b, (p, b) ∈ qs := by
  have : p ∈ qs.map (·.1) := by rw [h]; exact List.mem_map.mpr ⟨(p, a), m, rfl⟩
  obtain ⟨⟨q, b⟩, m', e⟩ := List.mem_map.mp this
  cases e
  exact ⟨b, m'⟩
theorem sorted_fst {ps : Ps} : ps.Pairwise (fun x y => x.1 < y.1) ↔ (ps.map (·.1)).Pairwise (· < ·) := by rw [List.pairwise_map]
theorem sorted_uniq : ∀ {ps : Ps}, ps.Pairwise (fun x y => x.1 < y.1) → ∀ {p : Nat} {a b : Vec}, (p, a) ∈ ps → (p, b) ∈ ps → a = b
  | [], _, _, _, _, m, _ => by cases m
  | x :: ps, h, p, a, b, m, m' => by
    obtain ⟨h1, h2⟩ := List.pairwise_cons.mp h
    rcases List.mem_cons.mp m with e | m
    · rcases List.mem_cons.mp m' with e' | m'
      · rw [← e] at e'; cases e'; rfl
      · have := h1 _ m'; rw [← e] at this; simp at this
    · rcases List.mem_cons.mp m' with e' | m'
      · have := h1 _ m; rw [← e'] at this; simp at this
      · exact sorted_uniq h2 m m'
theorem Rd.form {qs : Ps} (t : Tri w L ps) (hp : ∀ p a, (p, a) ∈ ps → 0 < nth a p) (R : Rd w L ps qs) : Form w L qs where
  sorted := by rw [sorted_fst, R.heads, ← sorted_fst]; exact t.sorted
  row := fun p b m => by
    obtain ⟨h1, h2, a, ha, e⟩ := R.row p b m
    obtain ⟨k1, _, _, k4⟩ := t.row p a ha
    exact ⟨k1, h1, h2, by rw [e]; exact k4⟩
  div := fun p v hpw hv hz => by
    obtain ⟨d1, d2⟩ := t.div p v hpw hv hz
    refine ⟨fun b m => ?_, fun hn => d2 fun a m => ?_⟩
    · obtain ⟨_, _, a, ha, e⟩ := R.row p b m
      rw [e]
      exact d1 a ha
    · obtain ⟨b, hb⟩ := fst_mem R.heads m
      exact hn b hb
  pos := fun p b m => by
    obtain ⟨_, _, a, ha, e⟩ := R.row p b m
    rw [e]
    exact hp p a ha
  red := R.red
theorem redA_rd (hL : Lat w L) : ∀ (ps : Ps), ps.Pairwise (fun x y => x.1 < y.1) → (∀ p a, (p, a) ∈ ps → L a ∧ Z p a ∧ 0 < nth a p) → Rd w L ps (redA ps)
  | [], _, _ => ⟨rfl, fun _ _ m => (nomatch m), fun _ _ _ _ m => (nomatch m)⟩
  | (p, a) :: ps, hs, h => by
    obtain ⟨s1, s2⟩ := List.pairwise_cons.mp hs
    have h' : ∀ q b, (q, b) ∈ ps → L b ∧ Z q b ∧ 0 < nth b q := fun q b m => h q b (List.mem_cons_of_mem _ m)
    have ih := redA_rd hL ps s2 h'
    obtain ⟨la, za, pa⟩ := h p a (List.mem_cons_self ..)
    obtain ⟨k1, k2, k3⟩ := lower_spec ps a w (hL.len a la) (fun q b m => ⟨hL.len b (h' q b m).1, (h' q b m).2.1, (h' q b m).2.2⟩) s2
    refine ⟨?_, fun q b m => ?_, fun q b q' b' m m' hq => ?_⟩
    · show p :: (redA ps).map (·.1) = p :: ps.map (·.1)
      rw [ih.heads]
    · rcases List.mem_cons.mp m with e | m
      · cases e
        refine ⟨lower_in hL ps a la fun q b m => (h' q b m).1, fun i hi => ?_, a, List.mem_cons_self .., k2 p fun q b m => s1 (q, b) m⟩
        rw [k2 i fun q b m => Nat.lt_trans hi (s1 (q, b) m)]
        exact za i hi
      · obtain ⟨g1, g2, c, g3, g4⟩ := ih.row q b m
        exact ⟨g1, g2, c, List.mem_cons_of_mem _ g3, g4⟩
    · rcases List.mem_cons.mp m with e | m
      · cases e
        rcases List.mem_cons.mp m' with e' | m'
        · cases e'; omega
        · obtain ⟨_, _, c, g3, g4⟩ := ih.row q' b' m'
          rw [g4]
          exact k3 q' c g3
      · rcases List.mem_cons.mp m' with e' | m'
        · cases e'
          obtain ⟨_, _, c, g3, _⟩ := ih.row q b m
          have := s1 (q, c) g3
          omega
        · exact ih.red q b q' b' m m' hq
theorem redB_rd (hL : Lat w L) : ∀ (ps : Ps), ps.Pairwise (fun x y => x.1 < y.1) → (∀ p a, (p, a) ∈ ps → L a ∧ Z p a ∧ 0 < nth a p) → Rd w L ps (redB ps)
  | [], _, _ => ⟨rfl, fun _ _ m => (nomatch m), fun _ _ _ _ m => (nomatch m)⟩
  | (p, a) :: ps, hs, h => by
    obtain ⟨s1, s2⟩ := List.pairwise_cons.mp hs
    have h' : ∀ q b, (q, b) ∈ ps → L b ∧ Z q b ∧ 0 < nth b q := fun q b m => h q b (List.mem_cons_of_mem _ m)
    have ih := redB_rd hL ps s2 h'
    obtain ⟨la, za, pa⟩ := h p a (List.mem_cons_self ..)
    have s3 : ∀ q b, (q, b) ∈ redB ps → p < q := fun q b m => by
      obtain ⟨_, _, c, g3, _⟩ := ih.row q b m
      exact s1 (q, c) g3
    obtain ⟨k1, k2, k3⟩ := lower_spec (redB ps) a w (hL.len a la) (fun q b m => by
      obtain ⟨g1, g2, c, g3, g4⟩ := ih.row q b m
      exact ⟨hL.len b g1, g2, by rw [g4]; exact (h' q c g3).2.2⟩) (by rw [sorted_fst, ih.heads, ← sorted_fst]; exact s2)
    refine ⟨?_, fun q b m => ?_, fun q b q' b' m m' hq => ?_⟩
    · show p :: (redB ps).map (·.1) = p :: ps.map (·.1)
      rw [ih.heads]
    · rcases List.mem_cons.mp m with e | m
      · cases e
        refine ⟨lower_in hL (redB ps) a la fun q b m => (ih.row q b m).1, fun i hi => ?_, a, List.mem_cons_self .., k2 p fun q b m => s3 q b m⟩
        rw [k2 i fun q b m => Nat.lt_trans hi (s3 q b m)]
        exact za i hi
      · obtain ⟨g1, g2, c, g3, g4⟩ := ih.row q b m
        exact ⟨g1, g2, c, List.mem_cons_of_mem _ g3, g4⟩
    · rcases List.mem_cons.mp m with e | m
      · cases e
        rcases List.mem_cons.mp m' with e' | m'
        · cases e'; omega
        · exact k3 q' b' m'
      · rcases List.mem_cons.mp m' with e' | m'
        · cases e'
          have := s3 q b m
          omega
        · exact ih.red q b q' b' m m' hq
end
/-- sizes: a column makes 4 e + 2 of e bits -/
def ex (e : Nat) : Nat → Nat
  | 0 => e
  | n + 1 => 4 * ex e n + 2
theorem ex_le (e : Nat) : ∀ {m n : Nat}, m ≤ n → ex e m ≤ ex e n := by
  intro m n h
  induction h with
  | refl => exact Nat.le_refl _
  | step _ ih => exact Nat.le_trans ih (by show _ ≤ 4 * ex e _ + 2; omega)
/-- lowering by heads of H bits -/
theorem low1_bits {v : Vec} {x : Nat × Vec} {b H : Nat} (hv : Bb b v) (hx : Bb H x.2) (hp : 0 < nth x.2 x.1) : Bb (b + H + 1) (low1 v x) := by
  intro z hz
  obtain ⟨a, c, ha, hc, rfl⟩ := mem_sub1 hz
  have q := (fdiv_facts (s := nth v x.1) hp).2.2.2
  have q2 := hv.nth x.1
  have h1 := hv a ha
  have h2 := hx c hc
  generalize (nth v x.1).fdiv (nth x.2 x.1) = k at *
  have t1 := Int.natAbs_sub_le a (c * k)
  rw [Int.natAbs_mul] at t1
  have t2 : c.natAbs * k.natAbs ≤ 2 ^ H * 2 ^ b := Nat.mul_le_mul (Nat.le_of_lt h2) (by omega)
  have e1 : 2 ^ (b + H + 1) = 2 ^ H * 2 ^ b * 2 := by rw [Nat.pow_succ, Nat.pow_add, Nat.mul_comm (2 ^ b)]
  have e2 : 2 ^ b ≤ 2 ^ H * 2 ^ b := Nat.le_mul_of_pos_left _ (Nat.two_pow_pos _)
  omega
end ML
end
section
namespace ML
abbrev Bs := List (Option Vec)
def rws (bs : Bs) : List Vec := bs.filterMap id
theorem mem_rws {bs : Bs} {x : Vec} : x ∈ rws bs ↔ ∃ i : Nat, bs[i]? = some (some x) := by
  unfold rws
  rw [List.mem_filterMap]
  constructor
  · rintro ⟨o, h, e⟩
    have e' : o = some x := e
    subst e'
    exact List.mem_iff_getElem?.mp h
  · rintro ⟨i, h⟩
    exact ⟨some x, List.mem_of_getElem? h, rfl⟩
def BsOk (w : Nat) (bs : Bs) : Prop := ∀ (i : Nat) (a : Vec), bs[i]? = some (some a) → a.length = w ∧ Z i a ∧ nth a i ≠ 0
theorem BsOk.len {w : Nat} {bs : Bs} (h : BsOk w bs) : Len w (rws bs) := fun x m => by
  obtain ⟨i, e⟩ := mem_rws.mp m
  exact (h i x e).1
/-- one span -/
def SE (w : Nat) (vs us : List Vec) : Prop := (∀ x ∈ vs, Span w us x) ∧ ∀ x ∈ us, Span w vs x
theorem SE.refl {w : Nat} {vs : List Vec} (h : Len w vs) : SE w vs vs := ⟨fun _ m => Span.mem h m, fun _ m => Span.mem h m⟩
theorem SE.symm {w : Nat} {vs us : List Vec} (h : SE w vs us) : SE w us vs := ⟨h.2, h.1⟩
theorem SE.trans {w : Nat} {vs us ts : List Vec} (h : SE w vs us) (h' : SE w us ts) (l1 : Len w vs) (l3 : Len w ts) : SE w vs ts := ⟨fun x m => Span.mono l3 h'.1 (h.1 x m), fun x m => Span.mono l1 h.2 (h'.2 x m)⟩
theorem SE.iff {w : Nat} {vs us : List Vec} (h : SE w vs us) (l1 : Len w vs) (l2 : Len w us) (v : Vec) : Span w vs v ↔ Span w us v := ⟨fun x => Span.mono l2 h.1 x, fun x => Span.mono l1 h.2 x⟩
theorem SE.cons {w : Nat} {vs us : List Vec} {x : Vec} (h : SE w vs us) (l : x.length = w) (l1 : Len w vs) (l2 : Len w us) : SE w (x :: vs) (x :: us) := by
  have L1 : Len w (x :: vs) := fun y m => (List.mem_cons.mp m).elim (fun e => e ▸ l) (l1 y)
  have L2 : Len w (x :: us) := fun y m => (List.mem_cons.mp m).elim (fun e => e ▸ l) (l2 y)
  refine ⟨fun y m => ?_, fun y m => ?_⟩
  · rcases List.mem_cons.mp m with rfl | m
    · exact Span.mem L2 (List.mem_cons_self ..)
    · exact (h.1 y m).imp fun _ m => List.mem_cons_of_mem _ m
  · rcases List.mem_cons.mp m with rfl | m
    · exact Span.mem L1 (List.mem_cons_self ..)
    · exact (h.2 y m).imp fun _ m => List.mem_cons_of_mem _ m
theorem len_cons {w : Nat} {vs : List Vec} {x : Vec} (l : x.length = w) (l1 : Len w vs) : Len w (x :: vs) := fun y m => (List.mem_cons.mp m).elim (fun e => e ▸ l) (l1 y)
theorem rws_set {bs : Bs} {c : Nat} {r x : Vec} (h : c < bs.length) : x ∈ rws (bs.set c (some r)) ↔ x = r ∨ ∃ i : Nat, i ≠ c ∧ bs[i]? = some (some x) := by
  rw [mem_rws]
  constructor
  · rintro ⟨i, e⟩
    by_cases hi : c = i
    · subst hi
      rw [List.getElem?_set_self h] at e
      cases e
      exact .inl rfl
    · rw [List.getElem?_set_ne hi] at e
      exact .inr ⟨i, Ne.symm hi, e⟩
  · rintro (rfl | ⟨i, hi, e⟩)
    · exact ⟨c, List.getElem?_set_self h⟩
    · exact ⟨i, by rw [List.getElem?_set_ne (Ne.symm hi)]; exact e⟩
/-- where nothing stood the row is set -/
theorem set_none {w : Nat} {bs : Bs} {c : Nat} {r : Vec} (ok : BsOk w bs) (h : bs[c]? = some none) (l : r.length = w) : SE w (r :: rws bs) (rws (bs.set c (some r))) := by
  have hc := (List.getElem?_eq_some_iff.mp h).1
  have L1 := len_cons l ok.len
  have L2 : Len w (rws (bs.set c (some r))) := fun x m => by
    rcases (rws_set hc).mp m with rfl | ⟨i, _, e⟩
    · exact l
    · exact (ok i x e).1
  refine ⟨fun x m => Span.mem L2 ((rws_set hc).mpr ?_), fun x m => Span.mem L1 ?_⟩
  · rcases List.mem_cons.mp m with e | m
    · exact .inl e
    · obtain ⟨i, e⟩ := mem_rws.mp m
      exact .inr ⟨i, (fun z => by rw [z, h] at e; cases e), e⟩
  · rcases (rws_set hc).mp m with rfl | ⟨i, _, e⟩
    · exact List.mem_cons_self ..
    · exact List.mem_cons_of_mem _ (mem_rws.mpr ⟨i, e⟩)
/-- one turn of Euclid at a column -/
theorem set_turn {w : Nat} {bs : Bs} {c : Nat} {b r : Vec} (ok : BsOk w bs) (h : bs[c]? = some (some b)) (l : r.length = w) : SE w (r :: rws bs) (red c b r :: rws (bs.set c (some r))) := by
  have hc := (List.getElem?_eq_some_iff.mp h).1
  have lb := (ok c b h).1
  have lbr : b.length = r.length := lb.trans l.symm
  have lred : (red c b r).length = w := (sub1_len lbr).trans lb
  have L1 := len_cons l ok.len
  have L2 : Len w (rws (bs.set c (some r))) := fun x m => by
    rcases (rws_set hc).mp m with rfl | ⟨i, _, e⟩
    · exact l
    · exact (ok i x e).1
  have L3 := len_cons lred L2
  have hb : b ∈ rws bs := mem_rws.mpr ⟨c, h⟩
  have mr : r ∈ rws (bs.set c (some r)) := (rws_set hc).mpr (.inl rfl)
  refine ⟨fun x m => ?_, fun x m => ?_⟩
  · rcases List.mem_cons.mp m with e | m
    · exact Span.mem L3 (List.mem_cons_of_mem _ (e ▸ mr))
    · obtain ⟨i, e⟩ := mem_rws.mp m
      by_cases hi : i = c
      · subst hi
        rw [h] at e
        cases e
        have := (Span.mem L3 (List.mem_cons_self ..)).sub L3 (Span.mem L3 (List.mem_cons_of_mem _ mr)) (-((nth b i).fdiv (nth r i)))
        have e1 : sub1 (red i b r) r (-((nth b i).fdiv (nth r i))) = b := by
          refine vext (by rw [sub1_len (lred.trans l.symm), lred]; exact lb.symm) fun j _ => ?_
          rw [nth_sub1 (lred.trans l.symm)]
          unfold red
          rw [nth_sub1 lbr, Int.mul_neg]
          omega
        rw [e1] at this
        exact this
      · exact Span.mem L3 (List.mem_cons_of_mem _ ((rws_set hc).mpr (.inr ⟨i, hi, e⟩)))
  · rcases List.mem_cons.mp m with rfl | m
    · exact (Span.mem L1 (List.mem_cons_of_mem _ hb)).sub L1 (Span.mem L1 (List.mem_cons_self ..)) _
    · rcases (rws_set hc).mp m with rfl | ⟨i, _, e⟩
      · exact Span.mem L1 (List.mem_cons_self ..)
      · exact Span.mem L1 (List.mem_cons_of_mem _ (mem_rws.mpr ⟨i, e⟩))
theorem ok_set {w : Nat} {bs : Bs} {c : Nat} {r : Vec} (ok : BsOk w bs) (l : r.length = w) (hz : Z c r) (hn : nth r c ≠ 0) : BsOk w (bs.set c (some r)) := fun i a e => by
  by_cases hi : c = i
  · subst hi
    by_cases hc : c < bs.length
    · rw [List.getElem?_set_self hc] at e
      cases e
      exact ⟨l, hz, hn⟩
    · rw [List.getElem?_eq_none (by rw [List.length_set]; omega)] at e
      cases e
  · rw [List.getElem?_set_ne hi] at e
    exact ok i a e
theorem z_red {c : Nat} {b r : Vec} (l : b.length = r.length) (hb : Z c b) (hr : Z c r) : Z c (red c b r) := fun i hi => by
  unfold red
  rw [nth_sub1 l, hb i hi, hr i hi]
  simp
structure PrOk (c C : Nat) (b r : Vec) : Prop where
  sign : ∃ σ : Int, (σ = 1 ∨ σ = -1) ∧ 0 < σ * nth b c ∧ 0 ≤ σ * nth r c
  size : ∃ U V : Nat, U ≤ C ∧ V ≤ C ∧ (∀ a ∈ b, a.natAbs ≤ U) ∧ (∀ a ∈ r, a.natAbs ≤ V) ∧ U * (nth r c).natAbs + V * (nth b c).natAbs ≤ C
theorem red_size {c U V : Nat} {b r : Vec} (hb : ∀ a ∈ b, a.natAbs ≤ U) (hr : ∀ a ∈ r, a.natAbs ≤ V) : ∀ z ∈ red c b r, z.natAbs ≤ U + V * ((nth b c).fdiv (nth r c)).natAbs := fun z hz => by
  obtain ⟨x, y, hx, hy, rfl⟩ := mem_sub1 hz
  have t1 := Int.natAbs_sub_le x (y * (nth b c).fdiv (nth r c))
  rw [Int.natAbs_mul] at t1
  have := hb x hx
  have := Nat.mul_le_mul_right ((nth b c).fdiv (nth r c)).natAbs (hr y hy)
  omega
theorem PrOk.step {c C : Nat} {b r : Vec} (l : b.length = r.length) (P : PrOk c C b r) (hn : nth r c ≠ 0) : PrOk c C r (red c b r) ∧ (nth (red c b r) c).natAbs < (nth r c).natAbs := by
  obtain ⟨⟨σ, hσ, s1, s2⟩, U, V, u1, u2, u3, u4, u5⟩ := P
  have hp : 0 < σ * nth r c := by rcases hσ with rfl | rfl <;> omega
  have f := fdiv_sign (s := nth b c) hσ hp
  have hr := red_nth (at_ := c) l
  have hz := red_size (c := c) u3 u4
  generalize hq : (nth b c).fdiv (nth r c) = q at *
  -- q is not below 0
  have q0 : 0 ≤ q := by
    have e : q = (σ * nth b c).fdiv (σ * nth r c) := by
      rw [← hq]
      rcases hσ with rfl | rfl
      · rw [Int.one_mul, Int.one_mul]
      · rw [Int.neg_one_mul, Int.neg_one_mul]; exact (Int.neg_fdiv_neg _ _).symm
    rw [e]
    exact Int.fdiv_nonneg (by omega) (by omega)
  have key : (nth b c).natAbs = q.natAbs * (nth r c).natAbs + (nth (red c b r) c).natAbs := by
    rw [hr]
    have e1 : ((nth r c) * q).natAbs = q.natAbs * (nth r c).natAbs := by rw [Int.natAbs_mul, Nat.mul_comm]
    rw [← e1]
    have e2 : 0 ≤ σ * (nth r c * q) := by
      rw [← Int.mul_assoc]
      exact Int.mul_nonneg (by omega) q0
    rcases hσ with rfl | rfl <;> omega
  have lt : (nth (red c b r) c).natAbs < (nth r c).natAbs := by
    rw [hr]
    rcases hσ with rfl | rfl <;> omega
  refine ⟨⟨⟨σ, hσ, hp, by rw [hr]; exact f.1⟩, V, U + V * q.natAbs, u2, ?_, u4, hz, ?_⟩, lt⟩
  · have a1 : U ≤ U * (nth r c).natAbs := Nat.le_mul_of_pos_right _ (by omega)
    have a2 : V * q.natAbs ≤ V * (q.natAbs * (nth r c).natAbs) := Nat.mul_le_mul_left _ (Nat.le_mul_of_pos_right _ (by omega))
    have t2 : V * (q.natAbs * (nth r c).natAbs) ≤ V * (nth b c).natAbs := Nat.mul_le_mul_left _ (by omega)
    omega
  · have e1 : V * (nth b c).natAbs = V * (q.natAbs * (nth r c).natAbs) + V * (nth (red c b r) c).natAbs := by rw [key, Nat.mul_add]
    rw [Nat.add_mul, Nat.mul_assoc]
    omega
theorem PrOk.first {c B R : Nat} {b r : Vec} (l : b.length = r.length) (hb : Bb B b) (hr : Bb R r) (hn : nth r c ≠ 0) : PrOk c (2 ^ (max B R + R + 2)) r (red c b r) ∧ (nth (red c b r) c).natAbs < (nth r c).natAbs := by
  obtain ⟨σ, hσ, hp⟩ : ∃ σ : Int, (σ = 1 ∨ σ = -1) ∧ 0 < σ * nth r c := by
    by_cases h : 0 < nth r c
    · exact ⟨1, .inl rfl, by omega⟩
    · exact ⟨-1, .inr rfl, by omega⟩
  have f := fdiv_sign (s := nth b c) hσ hp
  have hrn := red_nth (at_ := c) l
  have hz := red_size (c := c) (U := 2 ^ B) (V := 2 ^ R) (fun a m => Nat.le_of_lt (hb a m)) (fun a m => Nat.le_of_lt (hr a m))
  have hr' : ∀ a ∈ r, a.natAbs < 2 ^ R := hr
  have nb := hb.nth c
  have nr := hr.nth c
  generalize hq : (nth b c).fdiv (nth r c) = q at *
  have lt : (nth (red c b r) c).natAbs < (nth r c).natAbs := by
    rw [hrn]
    rcases hσ with rfl | rfl <;> omega
  -- |q| |r_c| <= |b_c| + |r_c|
  have qh : q.natAbs * (nth r c).natAbs ≤ (nth b c).natAbs + (nth r c).natAbs := by
    have e1 : ((nth r c) * q).natAbs = q.natAbs * (nth r c).natAbs := by rw [Int.natAbs_mul, Nat.mul_comm]
    rw [← e1]
    rw [hrn] at lt
    omega
  have p1 : 2 ^ B ≤ 2 ^ max B R := Nat.pow_le_pow_right (by decide) (Nat.le_max_left ..)
  have p2 : 2 ^ R ≤ 2 ^ max B R := Nat.pow_le_pow_right (by decide) (Nat.le_max_right ..)
  have e2 : 2 ^ (max B R + R + 2) = 2 ^ max B R * 2 ^ R * 4 := by rw [Nat.pow_add, Nat.pow_add]
  have p3 := Nat.two_pow_pos R
  have p4 := Nat.two_pow_pos (max B R)
  rw [e2]
  generalize 2 ^ max B R = m at *
  generalize 2 ^ R = ρ at *
  generalize 2 ^ B = β at *
  have g1 : m * 1 ≤ m * ρ := Nat.mul_le_mul_left _ p3
  have g2 : ρ * 1 ≤ m * ρ := by rw [Nat.mul_comm m]; exact Nat.mul_le_mul_left _ p4
  have g3 : ρ * q.natAbs ≤ ρ * β := Nat.mul_le_mul_left _ (by omega)
  have g4 : ρ * β ≤ m * ρ := by rw [Nat.mul_comm m]; exact Nat.mul_le_mul_left _ p1
  refine ⟨⟨⟨σ, hσ, hp, by rw [hrn]; exact f.1⟩, ρ, β + ρ * q.natAbs, by omega, by omega, fun a m' => Nat.le_of_lt (hr' a m'), hz, ?_⟩, lt⟩
  rw [Nat.add_mul, Nat.mul_assoc]
  have h1 : ρ * (nth (red c b r) c).natAbs ≤ ρ * ρ := Nat.mul_le_mul_left _ (by omega)
  have h2 : β * (nth r c).natAbs ≤ m * ρ := Nat.mul_le_mul p1 (by omega)
  have h3 : ρ * (q.natAbs * (nth r c).natAbs) ≤ ρ * (β + ρ) := Nat.mul_le_mul_left _ (by omega)
  have h4 : ρ * ρ ≤ m * ρ := Nat.mul_le_mul_right _ p2
  rw [Nat.mul_add] at h3
  omega
theorem PrOk.bits {c E : Nat} {b r : Vec} (P : PrOk c (2 ^ E) b r) : Bb (E + 1) b ∧ Bb (E + 1) r := by
  obtain ⟨_, U, V, u1, u2, u3, u4, _⟩ := P
  have e : 2 ^ (E + 1) = 2 ^ E * 2 := Nat.pow_succ ..
  have p := Nat.two_pow_pos E
  exact ⟨fun a m => by have := u3 a m; omega, fun a m => by have := u4 a m; omega⟩
/-- the row's bits at a column -/
def rc (β : Nat → Nat) (R : Nat) : Nat → Nat
  | 0 => R
  | c + 1 => max (β c) (rc β R c) + rc β R c + 3
theorem rc_mono (β : Nat → Nat) (R : Nat) : ∀ {m n : Nat}, m ≤ n → rc β R m ≤ rc β R n := by
  intro m n h
  induction h with
  | refl => exact Nat.le_refl _
  | step _ ih => exact Nat.le_trans ih (by show _ ≤ max _ _ + _ + 3; omega)
def BsB (bs : Bs) (β : Nat → Nat) : Prop := ∀ (i : Nat) (a : Vec), bs[i]? = some (some a) → Bb (β i) a
def pairsOf : Nat → Bs → Ps
  | _, [] => []
  | lo, none :: bs => pairsOf (lo + 1) bs
  | lo, some a :: bs => (lo, a) :: pairsOf (lo + 1) bs
theorem mem_pairs : ∀ {bs : Bs} {lo p : Nat} {a : Vec}, (p, a) ∈ pairsOf lo bs ↔ ∃ i, p = lo + i ∧ bs[i]? = some (some a)
  | [], lo, p, a => by simp [pairsOf]
  | none :: bs, lo, p, a => by
    rw [pairsOf, mem_pairs]
    constructor
    · rintro ⟨i, rfl, e⟩
      exact ⟨i + 1, by omega, by simpa using e⟩
    · rintro ⟨i, rfl, e⟩
      cases i with
      | zero => simp at e
      | succ i => exact ⟨i, by omega, by simpa using e⟩
  | some b :: bs, lo, p, a => by
    rw [pairsOf, List.mem_cons, mem_pairs]
    constructor
    · rintro (h | ⟨i, rfl, e⟩)
      · cases h; exact ⟨0, rfl, rfl⟩
      · exact ⟨i + 1, by omega, by simpa using e⟩
    · rintro ⟨i, rfl, e⟩
      cases i with
      | zero => simp at e; exact .inl (by rw [e]; rfl)
      | succ i => exact .inr ⟨i, by omega, by simpa using e⟩
theorem pairs_sorted : ∀ (bs : Bs) (lo : Nat), (pairsOf lo bs).Pairwise (fun x y => x.1 < y.1)
  | [], _ => List.Pairwise.nil
  | none :: bs, lo => pairs_sorted bs (lo + 1)
  | some b :: bs, lo => List.pairwise_cons.mpr ⟨fun x m => by
      obtain ⟨p, a⟩ := x
      obtain ⟨i, rfl, _⟩ := mem_pairs.mp m
      show lo < _
      omega, pairs_sorted bs (lo + 1)⟩
theorem pairs_snd : ∀ (bs : Bs) (lo : Nat), (pairsOf lo bs).map (·.2) = rws bs
  | [], _ => rfl
  | none :: bs, lo => by
    have := pairs_snd bs (lo + 1)
    simpa [pairsOf, rws] using this
  | some b :: bs, lo => by
    have := pairs_snd bs (lo + 1)
    simpa [pairsOf, rws] using this
theorem bs_div {w : Nat} : ∀ (bs : Bs) (lo p : Nat) (v : Vec), (∀ (i : Nat) (a : Vec), bs[i]? = some (some a) → a.length = w ∧ Z (lo + i) a ∧ nth a (lo + i) ≠ 0) → lo ≤ p → p < lo + bs.length → Span w (rws bs) v → Z p v →
    (∀ a, bs[p - lo]? = some (some a) → nth a p ∣ nth v p) ∧ (bs[p - lo]? = some none → nth v p = 0)
  | [], lo, p, v, _, h1, h2, _, _ => by simp at h2; omega
  | o :: bs, lo, p, v, ok, h1, h2, hv, hz => by
    have ok' : ∀ (i : Nat) (a : Vec), bs[i]? = some (some a) → a.length = w ∧ Z (lo + 1 + i) a ∧ nth a (lo + 1 + i) ≠ 0 := fun i a e => by
      have := ok (i + 1) a (by simpa using e)
      rw [show lo + 1 + i = lo + (i + 1) by omega]
      exact this
    have L : Len w (rws bs) := fun x m => by
      obtain ⟨i, e⟩ := mem_rws.mp m
      exact (ok' i x e).1
    have z0 : ∀ x ∈ rws bs, nth x lo = 0 := fun x m => by
      obtain ⟨i, e⟩ := mem_rws.mp m
      exact (ok' i x e).2.1 lo (by omega)
    -- the vector without the first row
    have key : ∀ a, o = some a → ∃ c u, Span w (rws bs) u ∧ v = sub1 u a c ∧ nth v lo = -(nth a lo * c) := fun a e => by
      subst e
      have la := (ok 0 a rfl).1
      have hv' : Span w (a :: rws bs) v := hv
      obtain ⟨c, u, hu, e⟩ := span_cons (len_cons la L) hv'
      refine ⟨c, u, hu, e, ?_⟩
      rw [e, nth_sub1 ((hu.len L).trans la.symm), hu.nth0 L z0]
      omega
    by_cases hp : p = lo
    · subst hp
      rw [Nat.sub_self]
      refine ⟨fun a e => ?_, fun e => ?_⟩
      · have e' : o = some a := by simpa using e
        obtain ⟨c, u, _, _, e2⟩ := key a e'
        rw [e2]
        exact ⟨-c, by rw [Int.mul_neg]⟩
      · have e' : o = none := by simpa using e
        subst e'
        have hv' : Span w (rws bs) v := hv
        exact hv'.nth0 L z0
    · have hv' : Span w (rws bs) v := by
        cases o with
        | none => exact hv
        | some a =>
          obtain ⟨c, u, hu, e, e2⟩ := key a rfl
          have ha := ok 0 a rfl
          rw [Nat.add_zero] at ha
          rw [hz lo (by omega)] at e2
          have hc : c = 0 := by
            rcases Int.mul_eq_zero.mp (show nth a lo * c = 0 by omega) with h | h
            · exact (ha.2.2 h).elim
            · exact h
          subst hc
          have l1 := (hu.len L).trans ha.1.symm
          have : sub1 u a 0 = u := vext (sub1_len l1) fun i _ => by rw [nth_sub1 l1]; omega
          rw [e, this]
          exact hu
      have ih := bs_div bs (lo + 1) p v ok' (by omega) (by rw [List.length_cons] at h2; omega) hv' hz
      have e : p - lo = (p - (lo + 1)) + 1 := by omega
      rw [e, List.getElem?_cons_succ]
      exact ih
theorem bs_tri {w : Nat} {bs : Bs} (hw : bs.length = w) (ok : BsOk w bs) : Tri w (Span w (rws bs)) (pairsOf 0 bs) where
  sorted := pairs_sorted bs 0
  row := fun p a m => by
    obtain ⟨i, rfl, e⟩ := mem_pairs.mp m
    rw [Nat.zero_add]
    obtain ⟨h1, h2, h3⟩ := ok i a e
    exact ⟨by rw [← hw]; exact (List.getElem?_eq_some_iff.mp e).1, Span.mem ok.len (mem_rws.mpr ⟨i, e⟩), h2, h3⟩
  div := fun p v hp hv hz => by
    obtain ⟨d1, d2⟩ := bs_div bs 0 p v (fun i a e => by rw [Nat.zero_add]; exact ok i a e) (Nat.zero_le _) (by omega) hv hz
    rw [Nat.sub_zero] at d1 d2
    refine ⟨fun a m => ?_, fun hn => ?_⟩
    · obtain ⟨i, e1, e⟩ := mem_pairs.mp m
      rw [Nat.zero_add] at e1
      subst e1
      exact d1 a e
    · refine d2 ?_
      have hl : p < bs.length := by omega
      rw [List.getElem?_eq_getElem hl]
      cases e : bs[p] with
      | none => rfl
      | some a => exact (hn a (mem_pairs.mpr ⟨p, (Nat.zero_add p).symm, by rw [List.getElem?_eq_getElem hl, e]⟩)).elim
/-- rows with the sign of their heads -/
def sgn (x : Nat × Vec) : Nat × Vec := (x.1, x.2.map fun a => (if 0 < nth x.2 x.1 then 1 else -1) * a)
end ML
namespace ML
theorem sgn_cases (x : Nat × Vec) : (sgn x).1 = x.1 ∧ ((0 < nth x.2 x.1 ∧ (sgn x).2 = x.2) ∨ (¬ 0 < nth x.2 x.1 ∧ (sgn x).2 = x.2.map fun a => a * -1)) := by
  refine ⟨rfl, ?_⟩
  by_cases h : 0 < nth x.2 x.1
  · refine .inl ⟨h, ?_⟩
    unfold sgn
    simp only [if_pos h]
    rw [show (fun a : Int => 1 * a) = id from funext fun a => by simp, List.map_id]
  · refine .inr ⟨h, ?_⟩
    unfold sgn
    simp only [if_neg h]
    congr 1
    funext a
    omega
theorem nth_neg1 (v : Vec) (i : Nat) : nth (v.map fun a => a * -1) i = - nth v i := by
  unfold nth
  rw [List.getD_eq_getElem?_getD, List.getD_eq_getElem?_getD, List.getElem?_map]
  cases v[i]? with
  | none => simp
  | some a => simp
theorem neg_sub1 {v : Vec} {w : Nat} (h : v.length = w) : v.map (fun a => a * -1) = sub1 (zv w) v 1 := by
  have hl : (zv w).length = v.length := by simp [zv, h]
  refine vext (by rw [sub1_len hl, List.length_map]; exact hl.symm) fun i _ => ?_
  rw [nth_neg1, nth_sub1 hl, nth_zv]
  omega
theorem sgn_row {w : Nat} {L : Vec → Prop} (hL : Lat w L) (h0 : L (zv w)) {p : Nat} {a : Vec} (h2 : L a) (h3 : Z p a) (h4 : nth a p ≠ 0) : L (sgn (p, a)).2 ∧ Z p (sgn (p, a)).2 ∧ 0 < nth (sgn (p, a)).2 p ∧ (nth (sgn (p, a)).2 p = nth a p ∨ nth (sgn (p, a)).2 p = - nth a p) := by
  obtain ⟨_, ⟨h, e⟩ | ⟨h, e⟩⟩ := sgn_cases (p, a)
  · rw [e]
    exact ⟨h2, h3, h, .inl rfl⟩
  · rw [e]
    refine ⟨by rw [neg_sub1 (hL.len a h2)]; exact hL.sub _ _ _ h0 h2, fun i hi => by rw [nth_neg1, h3 i hi]; rfl, ?_, .inr (nth_neg1 a p)⟩
    show 0 < nth (a.map fun a => a * -1) p
    rw [nth_neg1]
    have : ¬ 0 < nth a p := h
    omega
theorem sgn_tri {w : Nat} {L : Vec → Prop} {ps : Ps} (hL : Lat w L) (h0 : L (zv w)) (t : Tri w L ps) : Tri w L (ps.map sgn) ∧ ∀ p a, (p, a) ∈ ps.map sgn → L a ∧ Z p a ∧ 0 < nth a p := by
  have mem : ∀ p a, (p, a) ∈ ps.map sgn → ∃ b, (p, b) ∈ ps ∧ a = (sgn (p, b)).2 := fun p a m => by
    obtain ⟨⟨q, b⟩, hm, e⟩ := List.mem_map.mp m
    cases e
    exact ⟨b, hm, rfl⟩
  refine ⟨⟨?_, fun p a m => ?_, fun p v hp hv hz => ?_⟩, fun p a m => ?_⟩
  · rw [List.pairwise_map]
    exact t.sorted
  · obtain ⟨b, hb, rfl⟩ := mem p a m
    obtain ⟨h1, h2, h3, h4⟩ := t.row p b hb
    obtain ⟨k1, k2, k3, _⟩ := sgn_row hL h0 h2 h3 h4
    exact ⟨h1, k1, k2, by omega⟩
  · obtain ⟨d1, d2⟩ := t.div p v hp hv hz
    refine ⟨fun a m => ?_, fun hn => d2 fun b m => hn (sgn (p, b)).2 (List.mem_map.mpr ⟨(p, b), m, rfl⟩)⟩
    obtain ⟨b, hb, rfl⟩ := mem p a m
    obtain ⟨_, h2, h3, h4⟩ := t.row p b hb
    obtain ⟨_, _, _, e | e⟩ := sgn_row hL h0 h2 h3 h4
    · rw [e]; exact d1 b hb
    · rw [e]; exact Int.neg_dvd.mpr (d1 b hb)
  · obtain ⟨b, hb, rfl⟩ := mem p a m
    obtain ⟨_, h2, h3, h4⟩ := t.row p b hb
    obtain ⟨k1, k2, k3, _⟩ := sgn_row hL h0 h2 h3 h4
    exact ⟨k1, k2, k3⟩
theorem sgn_bits {X : Nat} {x : Nat × Vec} (h : Bb X x.2) : Bb X (sgn x).2 := by
  obtain ⟨_, ⟨_, e⟩ | ⟨_, e⟩⟩ := sgn_cases x
  · rw [e]; exact h
  · rw [e]
    intro z hz
    obtain ⟨a, ha, rfl⟩ := List.mem_map.mp hz
    have := h a ha
    omega
/-- bits of rows lowered by lowered rows -/
def hb (X : Nat) : Nat → Nat
  | 0 => X
  | k + 1 => X + (k + 1) * (hb X k + 1)
theorem hb_mono (X : Nat) : ∀ {m n : Nat}, m ≤ n → hb X m ≤ hb X n := by
  intro m n h
  induction h with
  | refl => exact Nat.le_refl _
  | step h' ih =>
    rename_i n
    refine Nat.le_trans ih ?_
    show hb X n ≤ X + (n + 1) * (hb X n + 1)
    rw [Nat.add_mul, Nat.one_mul]
    omega
/-- bits after n vectors -/
def bn (R : Nat) : Nat → Nat → Nat
  | 0 => fun _ => 0
  | n + 1 => fun i => rc (bn R n) R (i + 1)
end ML
end
section
namespace ML
theorem nth_drop (v : Vec) (d i : Nat) : nth (v.drop d) i = nth v (d + i) := by
  unfold nth
  rw [List.getD_eq_getElem?_getD, List.getD_eq_getElem?_getD, List.getElem?_drop]
theorem drop_sub1 (u v : Vec) (c : Int) (d : Nat) : (sub1 u v c).drop d = sub1 (u.drop d) (v.drop d) c := by
  unfold sub1
  rw [List.drop_zipWith]
theorem drop_zv (d w : Nat) : (zv (d + w)).drop d = zv w := by
  unfold zv
  rw [List.drop_replicate]
  congr 1
  omega
/-- zeros ahead -/
def pad (d : Nat) (v : Vec) : Vec := zv d ++ v
theorem pad_len {d : Nat} {v : Vec} {w : Nat} (h : v.length = w) : (pad d v).length = d + w := by simp [pad, zv, h]
theorem pad_drop (d : Nat) (v : Vec) : (pad d v).drop d = v := by
  unfold pad
  rw [List.drop_append_of_le_length (by simp [zv]), List.drop_of_length_le (by simp [zv]), List.nil_append]
theorem pad_z (d : Nat) (v : Vec) : Z d (pad d v) := fun i hi => by
  unfold pad nth
  rw [List.getD_eq_getElem?_getD, List.getElem?_append_left (by simp [zv]; exact hi)]
  unfold zv
  rw [List.getElem?_replicate, if_pos hi]
  rfl
theorem drop_pad {d w : Nat} {v : Vec} (hl : v.length = d + w) (hz : Z d v) : pad d (v.drop d) = v := by
  have l1 : (v.drop d).length = w := by rw [List.length_drop, hl]; omega
  refine vext (by rw [pad_len l1, hl]) fun i hi => ?_
  by_cases h : i < d
  · rw [pad_z d _ i h, hz i h]
  · have e : nth (pad d (v.drop d)) (d + (i - d)) = nth (v.drop d) (i - d) := by rw [← nth_drop, pad_drop]
    rw [show d + (i - d) = i by omega] at e
    rw [e, nth_drop]
    congr 1
    omega
def Tail (d : Nat) (M : Vec → Prop) (v : Vec) : Prop := M (pad d v)
theorem span_drop {d w : Nat} {vs : List Vec} {v : Vec} (h : Span (d + w) vs v) : Span w (vs.map fun r => r.drop d) (v.drop d) := by
  induction h with
  | zero => rw [drop_zv]; exact .zero
  | step c _ m ih =>
    rw [drop_sub1]
    exact .step c ih (List.mem_map.mpr ⟨_, m, rfl⟩)
theorem span_pad {d w : Nat} {vs : List Vec} (hl : Len (d + w) vs) (hz : ∀ r ∈ vs, Z d r) {v : Vec} (h : Span w (vs.map fun r => r.drop d) v) : Span (d + w) vs (pad d v) := by
  induction h with
  | zero =>
    have e : pad d (zv w) = zv (d + w) := by simp [pad, zv, List.replicate_append_replicate]
    rw [e]
    exact .zero
  | @step u x c hu m ih =>
    obtain ⟨r, mr, rfl⟩ := List.mem_map.mp m
    have lr := hl r mr
    have ldr : (r.drop d).length = w := by rw [List.length_drop, lr]; omega
    have lu : u.length = w := by
      have := ih.len hl
      simp [pad, zv] at this
      omega
    have e : pad d (sub1 u (r.drop d) c) = sub1 (pad d u) r c := by
      have hlu : u.length = (r.drop d).length := lu.trans ldr.symm
      have hlp : (pad d u).length = r.length := by rw [pad_len lu, lr]
      refine vext (by rw [pad_len ((sub1_len hlu).trans lu), sub1_len hlp, pad_len lu]) fun i hi => ?_
      rw [nth_sub1 hlp]
      by_cases h : i < d
      · rw [pad_z d _ i h, pad_z d _ i h, hz r mr i h]
        simp
      · have e1 : ∀ z : Vec, nth (pad d z) i = nth z (i - d) := fun z => by
          have := nth_drop (pad d z) d (i - d)
          rw [pad_drop, show d + (i - d) = i by omega] at this
          exact this.symm
        rw [e1, e1, nth_sub1 hlu, nth_drop, show d + (i - d) = i by omega]
    rw [e]
    exact .step c ih mr
/-- behind echelon -/
theorem tail_ech {d w : Nat} {M : Vec → Prop} {ps : Ps} {rest : List Vec} (hM : Lat (d + w) M) (h0 : M (zv (d + w))) (E : Ech (d + w) M d ps rest) (v : Vec) : Tail d M v ↔ Span w (rest.map fun r => r.drop d) v := by
  constructor
  · intro h
    have := span_drop (E.gen _ h (pad_z d v))
    rw [pad_drop] at this
    exact this
  · intro h
    exact hM.span h0 (fun r m => (E.rin r m).1) (span_pad E.lr (fun r m => (E.rin r m).2) h)
/-- behind a basis -/
theorem span_low {w : Nat} : ∀ (bs : Bs) (lo d : Nat) (v : Vec), (∀ (i : Nat) (a : Vec), bs[i]? = some (some a) → a.length = w ∧ Z (lo + i) a ∧ nth a (lo + i) ≠ 0) → Span w (rws bs) v → Z (lo + d) v → Span w (rws (bs.drop d)) v
  | bs, lo, 0, v, _, hv, _ => by rw [List.drop_zero]; exact hv
  | [], lo, d + 1, v, _, hv, _ => by rw [List.drop_nil]; exact hv
  | o :: bs, lo, d + 1, v, ok, hv, hz => by
    have ok' : ∀ (i : Nat) (a : Vec), bs[i]? = some (some a) → a.length = w ∧ Z (lo + 1 + i) a ∧ nth a (lo + 1 + i) ≠ 0 := fun i a e => by
      have := ok (i + 1) a (by simpa using e)
      rw [show lo + 1 + i = lo + (i + 1) by omega]
      exact this
    have L : Len w (rws bs) := fun x m => by
      obtain ⟨i, e⟩ := mem_rws.mp m
      exact (ok' i x e).1
    have z0 : ∀ x ∈ rws bs, nth x lo = 0 := fun x m => by
      obtain ⟨i, e⟩ := mem_rws.mp m
      exact (ok' i x e).2.1 lo (by omega)
    have hv' : Span w (rws bs) v := by
      cases o with
      | none => exact hv
      | some a =>
        have ha := ok 0 a rfl
        rw [Nat.add_zero] at ha
        have hv' : Span w (a :: rws bs) v := hv
        obtain ⟨c, u, hu, e⟩ := span_cons (len_cons ha.1 L) hv'
        have l1 := (hu.len L).trans ha.1.symm
        have e2 : nth v lo = -(nth a lo * c) := by rw [e, nth_sub1 l1, hu.nth0 L z0]; omega
        rw [hz lo (by omega)] at e2
        have hc : c = 0 := by
          rcases Int.mul_eq_zero.mp (show nth a lo * c = 0 by omega) with h | h
          · exact (ha.2.2 h).elim
          · exact h
        subst hc
        have : sub1 u a 0 = u := vext (sub1_len l1) fun i _ => by rw [nth_sub1 l1]; omega
        rw [e, this]
        exact hu
    exact span_low bs (lo + 1) d v ok' hv' (by rw [show lo + 1 + d = lo + (d + 1) by omega]; exact hz)
theorem mem_rws_drop {bs : Bs} {d : Nat} {x : Vec} : x ∈ rws (bs.drop d) ↔ ∃ i : Nat, d ≤ i ∧ bs[i]? = some (some x) := by
  rw [mem_rws]
  constructor
  · rintro ⟨i, e⟩
    rw [List.getElem?_drop] at e
    exact ⟨d + i, by omega, e⟩
  · rintro ⟨i, hi, e⟩
    exact ⟨i - d, by rw [List.getElem?_drop, show d + (i - d) = i by omega]; exact e⟩
theorem tail_bs {d w : Nat} {bs : Bs} (ok : BsOk (d + w) bs) (v : Vec) : Tail d (Span (d + w) (rws bs)) v ↔ Span w ((rws (bs.drop d)).map fun r => r.drop d) v := by
  have L2 : Len (d + w) (rws (bs.drop d)) := fun x m => by
    obtain ⟨i, _, e⟩ := mem_rws_drop.mp m
    exact (ok i x e).1
  have Z2 : ∀ r ∈ rws (bs.drop d), Z d r := fun x m => by
    obtain ⟨i, hi, e⟩ := mem_rws_drop.mp m
    exact fun j hj => (ok i x e).2.1 j (by omega)
  constructor
  · intro h
    have h1 := span_low bs 0 d (pad d v) (fun i a e => by rw [Nat.zero_add]; exact ok i a e) h (by rw [Nat.zero_add]; exact pad_z d v)
    have := span_drop h1
    rw [pad_drop] at this
    exact this
  · intro h
    refine Span.mono ok.len (fun x m => ?_) (span_pad L2 Z2 h)
    obtain ⟨i, _, e⟩ := mem_rws_drop.mp m
    exact Span.mem ok.len (mem_rws.mpr ⟨i, e⟩)
theorem tail_lat {d w : Nat} {M : Vec → Prop} (hM : Lat (d + w) M) : Lat w (fun v => Tail d M v ∧ v.length = w) := ⟨fun _ h => h.2, fun u v c h h' => by
  have hl : u.length = v.length := h.2.trans h'.2.symm
  refine ⟨?_, (sub1_len hl).trans h.2⟩
  have := hM.sub _ _ c h.1 h'.1
  have e : pad d (sub1 u v c) = sub1 (pad d u) (pad d v) c := by
    have hlp : (pad d u).length = (pad d v).length := by rw [pad_len h.2, pad_len h'.2]
    refine vext (by rw [pad_len ((sub1_len hl).trans h.2), sub1_len hlp, pad_len h.2]) fun i _ => ?_
    rw [nth_sub1 hlp]
    by_cases hi : i < d
    · rw [pad_z d _ i hi, pad_z d _ i hi, pad_z d _ i hi]; simp
    · have e1 : ∀ z : Vec, nth (pad d z) i = nth z (i - d) := fun z => by
        have := nth_drop (pad d z) d (i - d)
        rw [pad_drop, show d + (i - d) = i by omega] at this
        exact this.symm
      rw [e1, e1, e1, nth_sub1 hl]
  show M (pad d (sub1 u v c))
  rw [e]
  exact this⟩
end ML
end
section
namespace ML
def dot (u fs : Vec) : Int := (List.zipWith (fun a b => a * b) u fs).sum
theorem dot_sub1 : ∀ (u v fs : Vec) (c : Int), u.length = v.length → dot (sub1 u v c) fs = dot u fs - dot v fs * c
  | [], [], fs, c, _ => by simp [dot, sub1]
  | a :: u, b :: v, [], c, _ => by simp [dot, sub1]
  | a :: u, b :: v, f :: fs, c, h => by
    have ih := dot_sub1 u v fs c (by simpa using h)
    unfold dot sub1 at ih ⊢
    simp only [List.zipWith_cons_cons, List.sum_cons]
    rw [ih, Int.sub_mul, Int.add_mul, Int.mul_assoc, Int.mul_assoc, Int.mul_comm c f]
    omega
  | [], _ :: _, _, _, h => by simp at h
  | _ :: _, [], _, _, h => by simp at h
theorem dot_zv (w : Nat) (fs : Vec) : dot (zv w) fs = 0 := by
  induction w generalizing fs with
  | zero => simp [dot, zv]
  | succ w ih =>
    cases fs with
    | nil => simp [dot, zv]
    | cons f fs =>
      have := ih fs
      unfold dot zv at this ⊢
      rw [List.replicate_succ, List.zipWith_cons_cons, List.sum_cons, this]
      simp
def aug (fs u : Vec) : Vec := dot u fs :: u
def rowsK (fs : Vec) (m : Int) (w : Nat) (vs : List Vec) : List Vec := vs.map (aug fs) ++ (if 0 < m then [m :: zv w] else [])
section
variable {fs : Vec} {m : Int} {w : Nat} {vs : List Vec}
theorem rowsK_len (hl : Len w vs) : Len (1 + w) (rowsK fs m w vs) := fun v mv => by
  unfold rowsK at mv
  rcases List.mem_append.mp mv with h | h
  · obtain ⟨u, hu, rfl⟩ := List.mem_map.mp h
    simp [aug, hl u hu]
    omega
  · split at h
    · rw [List.mem_singleton.mp h]
      simp [zv]
      omega
    · cases h
theorem nth_cons0 (a : Int) (u : Vec) : nth (a :: u) 0 = a := rfl
theorem rowsK_in (hl : Len w vs) {u : Vec} (h : Span (1 + w) (rowsK fs m w vs) u) : Span w vs (u.drop 1) ∧ ∃ k, nth u 0 = dot (u.drop 1) fs + m * k := by
  have L := rowsK_len (fs := fs) (m := m) hl
  induction h with
  | zero =>
    rw [drop_zv]
    exact ⟨.zero, 0, by rw [nth_zv, dot_zv]; omega⟩
  | @step u v c hu mv ih =>
    obtain ⟨i1, k, i2⟩ := ih
    have lu := hu.len L
    have lv := L v mv
    have luv : u.length = v.length := lu.trans lv.symm
    have ld : (u.drop 1).length = (v.drop 1).length := by rw [List.length_drop, List.length_drop, luv]
    rw [drop_sub1, nth_sub1 luv, dot_sub1 _ _ _ _ ld, i2]
    unfold rowsK at mv
    rcases List.mem_append.mp mv with h | h
    · obtain ⟨x, hx, rfl⟩ := List.mem_map.mp h
      refine ⟨.step c i1 hx, k, ?_⟩
      show dot (u.drop 1) fs + m * k - dot x fs * c = dot (u.drop 1) fs - dot x fs * c + m * k
      omega
    · split at h
      · rw [List.mem_singleton.mp h]
        have e : sub1 (u.drop 1) (zv w) c = u.drop 1 := sub_zv (by rw [List.length_drop, lu]; omega) c
        refine ⟨?_, k - c, ?_⟩
        · show Span w vs (sub1 (u.drop 1) (zv w) c)
          rw [e]
          exact i1
        · show dot (u.drop 1) fs + m * k - m * c = dot (u.drop 1) fs - dot (zv w) fs * c + m * (k - c)
          rw [dot_zv, Int.mul_sub]
          omega
      · cases h
theorem rowsK_zero (hl : Len w vs) {v : Vec} (mv : v ∈ vs) (h : dot v fs = 0) : Tail 1 (Span (1 + w) (rowsK fs m w vs)) v := by
  have : aug fs v ∈ rowsK fs m w vs := List.mem_append_left _ (List.mem_map.mpr ⟨v, mv, rfl⟩)
  have h1 := Span.mem (rowsK_len hl) this
  unfold aug at h1
  rw [h] at h1
  exact h1
theorem rowsK_mul (hl : Len w vs) {v : Vec} (mv : v ∈ vs) (hm : 0 < m) : Tail 1 (Span (1 + w) (rowsK fs m w vs)) (v.map fun a => m * a) := by
  have L := rowsK_len (fs := fs) (m := m) hl
  have m1 : aug fs v ∈ rowsK fs m w vs := List.mem_append_left _ (List.mem_map.mpr ⟨v, mv, rfl⟩)
  have m2 : m :: zv w ∈ rowsK fs m w vs := List.mem_append_right _ (by rw [if_pos hm]; exact List.mem_singleton.mpr rfl)
  have lv := hl v mv
  have s1 := Span.step (-m) (Span.zero (w := 1 + w) (vs := rowsK fs m w vs)) m1
  have s2 := Span.step (dot v fs) s1 m2
  have la : (aug fs v).length = 1 + w := L _ m1
  have lz : (zv (1 + w)).length = (aug fs v).length := by rw [la]; simp [zv]
  have l1 : (sub1 (zv (1 + w)) (aug fs v) (-m)).length = (m :: zv w).length := by rw [sub1_len lz]; simp [zv]; omega
  have e : sub1 (sub1 (zv (1 + w)) (aug fs v) (-m)) (m :: zv w) (dot v fs) = pad 1 (v.map fun a => m * a) := by
    have lp : (v.map fun a => m * a).length = w := by rw [List.length_map]; exact lv
    refine vext (by rw [sub1_len l1, sub1_len lz, pad_len lp]; simp [zv]) fun i _ => ?_
    rw [nth_sub1 l1, nth_sub1 lz, nth_zv]
    cases i with
    | zero =>
      show 0 - dot v fs * -m - m * dot v fs = 0
      rw [Int.mul_neg, Int.mul_comm m]
      omega
    | succ i =>
      have e1 : nth (pad 1 (v.map fun a => m * a)) (i + 1) = nth (v.map fun a => m * a) i := by
        have := nth_drop (pad 1 (v.map fun a => m * a)) 1 i
        rw [pad_drop, Nat.add_comm 1 i] at this
        exact this.symm
      have e2 : nth (v.map fun a => m * a) i = m * nth v i := by
        unfold nth
        rw [List.getD_eq_getElem?_getD, List.getD_eq_getElem?_getD, List.getElem?_map]
        cases v[i]? <;> simp
      have e3 : nth (aug fs v) (i + 1) = nth v i := by unfold aug nth; simp
      have e4 : nth (m :: zv w) (i + 1) = 0 := by
        have : nth (m :: zv w) (i + 1) = nth (zv w) i := by unfold nth; simp
        rw [this, nth_zv]
      rw [e1, e2, e3, e4, Int.mul_neg, Int.mul_comm m]
      omega
  show Span (1 + w) _ (pad 1 _)
  rw [← e]
  exact s2
end
end ML
end
section
namespace ML
/-- a*u - b*v -/
def lin (a : Int) (u : Vec) (b : Int) (v : Vec) : Vec := List.zipWith (fun x y => a * x - b * y) u v
theorem lin_len {a b : Int} {u v : Vec} (h : u.length = v.length) : (lin a u b v).length = u.length := by simp [lin, h]
theorem nth_lin {a b : Int} {u v : Vec} (h : u.length = v.length) (i : Nat) : nth (lin a u b v) i = a * nth u i - b * nth v i := by
  unfold lin nth
  rw [List.getD_eq_getElem?_getD, List.getD_eq_getElem?_getD, List.getD_eq_getElem?_getD, List.getElem?_zipWith]
  by_cases hi : i < u.length
  · have hj : i < v.length := by omega
    rw [List.getElem?_eq_getElem hi, List.getElem?_eq_getElem hj]
    rfl
  · rw [List.getElem?_eq_none (by omega), List.getElem?_eq_none (by omega)]
    simp
section
variable {w : Nat} {L : Vec → Prop} {ps : Ps} {u v x : Vec}
theorem Lat.zero (hL : Lat w L) (h : L u) : L (zv w) := by
  have h1 := hL.sub u u 1 h h
  have lu := hL.len u h
  have e : sub1 u u 1 = zv w := vext (by rw [sub1_len rfl, lu]; simp [zv]) fun i _ => by
    rw [nth_sub1 rfl, nth_zv]
    omega
  rw [e] at h1
  exact h1
theorem Lat.lin (hL : Lat w L) (hu : L u) (hv : L v) (a b : Int) : L (lin a u b v) := by
  have lu := hL.len u hu
  have lv := hL.len v hv
  have lz : (zv w).length = u.length := by rw [lu]; simp [zv]
  have l1 : (sub1 (zv w) u (-a)).length = v.length := by rw [sub1_len lz, lv]; simp [zv]
  have h := hL.sub _ v b (hL.sub _ u (-a) (hL.zero hu) hu) hv
  have e : sub1 (sub1 (zv w) u (-a)) v b = ML.lin a u b v := vext (by rw [sub1_len l1, lin_len (lu.trans lv.symm), l1, lu, lv]) fun i _ => by
    rw [nth_sub1 l1, nth_sub1 lz, nth_zv, nth_lin (lu.trans lv.symm), Int.mul_neg, Int.mul_comm a, Int.mul_comm b]
    omega
  rw [e] at h
  exact h
/-- a vector with zeros at all heads is zero -/
theorem Form.zero_of (F : Form w L ps) (hx : L x) (h : ∀ p a, (p, a) ∈ ps → nth x p = 0) : ∀ i, i < w → nth x i = 0 := by
  have key : ∀ n, n ≤ w → Z n x := by
    intro n
    induction n with
    | zero => exact fun _ i hi => by omega
    | succ n ih =>
      intro hn i hi
      have hz := ih (by omega)
      by_cases e : i < n
      · exact hz i e
      · obtain rfl : i = n := by omega
        by_cases hc : ∃ a, (i, a) ∈ ps
        · obtain ⟨a, ha⟩ := hc
          exact h i a ha
        · exact (F.div i x (by omega) hx hz).2 fun a ha => hc ⟨a, ha⟩
  exact fun i hi => key w (Nat.le_refl _) i hi
/-- a small vector at a head -/
def AtHead (L : Vec → Prop) (ps : Ps) (V : Nat) (p : Nat) (v : Vec) : Prop := L v ∧ nth v p ≠ 0 ∧ (∀ q b, (q, b) ∈ ps → q ≠ p → nth v q = 0) ∧ ∀ i, (nth v i).natAbs ≤ V
theorem form_bound (hL : Lat w L) (F : Form w L ps) {V : Nat} (hv : ∀ p a, (p, a) ∈ ps → ∃ v, AtHead L ps V p v) {p : Nat} {a : Vec} (hp : (p, a) ∈ ps) (i : Nat) : (nth a i).natAbs ≤ ps.length * V := by
  obtain ⟨pw, pL, pz, pn⟩ := F.row p a hp
  have la := hL.len a pL
  -- the heads one after the other
  have key : ∀ qs rs : Ps, qs ++ rs = ps → ∃ (D : Int) (x : Vec), 0 < D ∧ L x ∧ (∀ q b, (q, b) ∈ qs → nth x q = 0) ∧ (∀ q b, (q, b) ∈ rs → nth x q = D * nth a q) ∧ ∀ i, (D * nth a i - nth x i).natAbs ≤ D.natAbs * (qs.length * V) := by
    intro qs
    generalize hn : qs.length = n
    induction n generalizing qs with
    | zero =>
      intro rs _
      have : qs = [] := List.length_eq_zero_iff.mp hn
      subst this
      exact ⟨1, a, by decide, pL, fun _ _ m => (nomatch m), fun _ _ _ => by omega, fun i => by
        have : (1 : Int) * nth a i - nth a i = 0 := by omega
        rw [this]; simp⟩
    | succ n ih =>
      intro rs e
      obtain ⟨qs', x0, rfl⟩ : ∃ qs' x0, qs = qs' ++ [x0] := ⟨qs.dropLast, qs.getLast (by intro h; rw [h] at hn; simp at hn), (List.dropLast_concat_getLast _).symm⟩
      obtain ⟨q, b⟩ := x0
      have hl : qs'.length = n := by simpa using hn
      obtain ⟨D, x, hD, hx, h1, h2, h3⟩ := ih qs' hl ((q, b) :: rs) (by rw [← e]; simp)
      have hq : (q, b) ∈ ps := by rw [← e]; simp
      obtain ⟨v0, v1, v2, v3, v4⟩ := hv q b hq
      obtain ⟨qw, qL, qz, qn⟩ := F.row q b hq
      -- the sign of v0
      obtain ⟨v, hvL, hd, v3, v4⟩ : ∃ v, L v ∧ 0 < nth v q ∧ (∀ q' b', (q', b') ∈ ps → q' ≠ q → nth v q' = 0) ∧ ∀ i, (nth v i).natAbs ≤ V := by
        by_cases hs : 0 < nth v0 q
        · exact ⟨v0, v1, hs, v3, v4⟩
        · refine ⟨lin (-1) v0 0 v0, hL.lin v1 v1 _ _, by rw [nth_lin rfl]; omega, fun q' b' m hne => by rw [nth_lin rfl, v3 q' b' m hne]; omega, fun i => by rw [nth_lin rfl]; have := v4 i; omega⟩
      have lv := hL.len v hvL
      have lx := hL.len x hx
      have lxv : x.length = v.length := lx.trans lv.symm
      have hxq : nth x q = D * nth a q := h2 q b (List.mem_cons_self ..)
      -- v is small at q, a smaller still
      have hvz : Z q v := by
        intro j hj
        have : ∀ n, n ≤ q → Z n v := by
          intro n
          induction n with
          | zero => exact fun _ i hi => by omega
          | succ n ih2 =>
            intro hn i hi
            have hz := ih2 (by omega)
            by_cases e : i < n
            · exact hz i e
            · obtain rfl : i = n := by omega
              by_cases hc : ∃ a, (i, a) ∈ ps
              · obtain ⟨a', ha'⟩ := hc
                exact v3 i a' ha' (by omega)
              · exact (F.div i v (by omega) hvL hz).2 fun a' ha' => hc ⟨a', ha'⟩
        exact this q (Nat.le_refl _) j hj
      have hdvd := (F.div q v qw hvL hvz).1 b hq
      have hle : nth b q ≤ nth v q := Int.le_of_dvd hd hdvd
      have haq : 0 ≤ nth a q ∧ nth a q ≤ nth v q := by
        rcases Nat.lt_trichotomy q p with h | h | h
        · rw [pz q h]; omega
        · subst h
          have := F.head F hp hq
          have := F.pos q a hp
          omega
        · have := F.red p a q b hp hq h
          omega
      refine ⟨nth v q * D, lin (nth v q) x (nth x q) v, Int.mul_pos hd hD, hL.lin hx hvL _ _, ?_, ?_, ?_⟩
      · intro q' b' m
        rw [nth_lin lxv]
        rcases List.mem_append.mp m with m1 | m1
        · have hx1 := h1 q' b' m1
          rw [hx1]
          by_cases hqq : q' = q
          · rw [← hqq, hx1]
            omega
          · rw [v3 q' b' (by rw [← e]; simp [m1]) hqq]
            omega
        · have := List.mem_singleton.mp m1
          cases this
          rw [Int.mul_comm]
          omega
      · intro q' b' m
        have hqq : q' ≠ q := by
          intro h
          subst h
          have hs := F.sorted
          rw [← e, List.append_assoc] at hs
          have := (List.pairwise_append.mp hs).2.1
          have := (List.pairwise_append.mp this).2.2 (q', b) (List.mem_singleton.mpr rfl) (q', b') m
          exact Nat.lt_irrefl _ this
        rw [nth_lin lxv, h2 q' b' (List.mem_cons_of_mem _ m), v3 q' b' (by rw [← e]; simp [m]) hqq, Int.mul_assoc]
        omega
      · intro j
        rw [nth_lin lxv]
        have e1 : nth v q * D * nth a j - (nth v q * nth x j - nth x q * nth v j) = nth v q * (D * nth a j - nth x j) + nth x q * nth v j := by
          rw [Int.mul_sub, Int.mul_assoc]
          omega
        rw [e1]
        have t1 := Int.natAbs_add_le (nth v q * (D * nth a j - nth x j)) (nth x q * nth v j)
        have t2 : (nth v q * (D * nth a j - nth x j)).natAbs ≤ (nth v q).natAbs * (D.natAbs * (n * V)) := by
          rw [Int.natAbs_mul]
          exact Nat.mul_le_mul_left _ (h3 j)
        have t3 : (nth x q * nth v j).natAbs ≤ D.natAbs * (nth v q).natAbs * V := by
          rw [Int.natAbs_mul, hxq, Int.natAbs_mul]
          refine Nat.mul_le_mul (Nat.mul_le_mul_left _ (by omega)) (v4 j)
        have e2 : (nth v q * D).natAbs * ((n + 1) * V) = (nth v q).natAbs * (D.natAbs * (n * V)) + D.natAbs * (nth v q).natAbs * V := by
          rw [Int.natAbs_mul, Nat.add_mul, Nat.one_mul, Nat.mul_add, Nat.mul_assoc, Nat.mul_comm D.natAbs (nth v q).natAbs]
        rw [e2]
        omega
  obtain ⟨D, x, hD, hx, h1, _, h3⟩ := key ps [] (List.append_nil _)
  by_cases hi : i < w
  · have hx0 := F.zero_of hx (fun q b m => h1 q b m) i hi
    have := h3 i
    rw [hx0, Int.sub_zero, Int.natAbs_mul] at this
    exact Nat.le_of_mul_le_mul_left this (by omega)
  · rw [nth_ge (by omega)]
    simp
end
end ML
end
section
namespace ML
abbrev scl (k : Int) (x : Vec) : Vec := lin k x 0 x
theorem nth_scl (k : Int) (x : Vec) (i : Nat) : nth (scl k x) i = k * nth x i := by rw [nth_lin rfl]; omega
theorem scl_len (k : Int) (x : Vec) : (scl k x).length = x.length := lin_len rfl
/-- each vector of L, multiplied, is a sum of the gs -/
def Gen (w : Nat) (L : Vec → Prop) (gs : List Vec) : Prop := ∀ x, L x → ∃ k : Int, k ≠ 0 ∧ Span w gs (scl k x)
theorem span_scl {w : Nat} {gs gs' : List Vec} {c : Int} (hl : Len w gs) (hl' : Len w gs') (h : ∀ g ∈ gs, Span w gs' (scl c g)) {y : Vec} (hy : Span w gs y) : Span w gs' (scl c y) := by
  induction hy with
  | zero =>
    have e : scl c (zv w) = zv w := vext (by rw [scl_len]) fun i _ => by rw [nth_scl, nth_zv]; omega
    rw [e]
    exact .zero
  | @step u v d hu mv ih =>
    have lu := hu.len hl
    have lv := hl v mv
    have luv : u.length = v.length := lu.trans lv.symm
    have e : scl c (sub1 u v d) = sub1 (scl c u) (scl c v) d := vext (by rw [scl_len, sub1_len luv, sub1_len (by rw [scl_len, scl_len]; exact luv), scl_len]) fun i _ => by
      rw [nth_scl, nth_sub1 luv, nth_sub1 (by rw [scl_len, scl_len]; exact luv), nth_scl, nth_scl, Int.mul_sub, Int.mul_assoc]
    rw [e]
    exact ih.sub hl' (h v mv) d
theorem gen_step {w : Nat} {L : Vec → Prop} {gs gs' : List Vec} {c : Int} (hL : Lat w L) (hc : c ≠ 0) (hl : Len w gs) (hl' : Len w gs') (h : ∀ g ∈ gs, Span w gs' (scl c g)) (G : Gen w L gs) : Gen w L gs' := fun x hx => by
  obtain ⟨k, hk, hs⟩ := G x hx
  refine ⟨c * k, Int.mul_ne_zero hc hk, ?_⟩
  have := span_scl hl hl' h hs
  have e : scl c (scl k x) = scl (c * k) x := vext (by rw [scl_len, scl_len, scl_len]) fun i _ => by rw [nth_scl, nth_scl, nth_scl, Int.mul_assoc]
  rw [e] at this
  exact this
structure GJ (w : Nat) (L : Vec → Prop) (c : Nat) (ds : Ps) (rs : List Vec) (M : Nat) : Prop where
  m1 : 1 ≤ M
  dk : ∀ p d, (p, d) ∈ ds → p < c ∧ L d ∧ Z p d ∧ nth d p ≠ 0
  dz : ∀ p d q e, (p, d) ∈ ds → (q, e) ∈ ds → q ≠ p → nth d q = 0
  so : ds.Pairwise (fun x y => x.1 < y.1)
  rk : ∀ r ∈ rs, L r ∧ Z c r
  bd : ∀ p d, (p, d) ∈ ds → ∀ i, (nth d i).natAbs ≤ M
  br : ∀ r ∈ rs, ∀ i, (nth r i).natAbs ≤ M
  gen : Gen w L (ds.map (·.2) ++ rs)
theorem le_sq {M : Nat} (h : 1 ≤ M) : M ≤ 2 * M * M := by
  have := Nat.mul_le_mul (show 1 ≤ 2 * M by omega) (Nat.le_refl M)
  omega
theorem lin_bd {a b : Int} {u v : Vec} {M : Nat} (h : u.length = v.length) (ha : a.natAbs ≤ M) (hb : b.natAbs ≤ M) (hu : ∀ i, (nth u i).natAbs ≤ M) (hv : ∀ i, (nth v i).natAbs ≤ M) (i : Nat) : (nth (lin a u b v) i).natAbs ≤ 2 * M * M := by
  rw [nth_lin h]
  have t := Int.natAbs_sub_le (a * nth u i) (b * nth v i)
  rw [Int.natAbs_mul, Int.natAbs_mul] at t
  have t1 := Nat.mul_le_mul ha (hu i)
  have t2 := Nat.mul_le_mul hb (hv i)
  have e : 2 * M * M = M * M + M * M := by rw [Nat.mul_assoc, Nat.two_mul]
  omega
theorem gj_step {w : Nat} {L : Vec → Prop} {c : Nat} {ds : Ps} {rs : List Vec} {M : Nat} (hL : Lat w L) (G : GJ w L c ds rs M) : ∃ ds' rs', GJ w L (c + 1) ds' rs' (2 * M * M) := by
  have hM := le_sq G.m1
  have hlen : Len w (ds.map (·.2) ++ rs) := fun v m => by
    rcases List.mem_append.mp m with m | m
    · obtain ⟨⟨p, d⟩, h, rfl⟩ := List.mem_map.mp m
      exact hL.len d (G.dk p d h).2.1
    · exact hL.len v (G.rk v m).1
  by_cases hc : ∃ u, u ∈ rs ∧ nth u c ≠ 0
  · obtain ⟨u, mu, hu⟩ := hc
    obtain ⟨uL, uz⟩ := G.rk u mu
    have bu := G.br u mu
    have lu := hL.len u uL
    let f : Vec → Vec := fun d => lin (nth u c) d (nth d c) u
    have fL : ∀ d, L d → L (f d) := fun d hd => hL.lin hd uL _ _
    have fn : ∀ d i, L d → nth (f d) i = nth u c * nth d i - nth d c * nth u i := fun d i hd => nth_lin ((hL.len d hd).trans lu.symm) i
    have fc : ∀ d, L d → nth (f d) c = 0 := fun d hd => by rw [fn d c hd, Int.mul_comm]; omega
    have flow : ∀ d i, L d → i < c → nth (f d) i = nth u c * nth d i := fun d i hd hi => by rw [fn d i hd, uz i hi]; omega
    have fb : ∀ d, L d → (∀ i, (nth d i).natAbs ≤ M) → ∀ i, (nth (f d) i).natAbs ≤ 2 * M * M := fun d hd hb i => lin_bd ((hL.len d hd).trans lu.symm) (bu c) (hb c) hb bu i
    have mem : ∀ p d, (p, d) ∈ ds.map (fun x => (x.1, f x.2)) ++ [(c, u)] → (∃ e, (p, e) ∈ ds ∧ d = f e) ∨ (p = c ∧ d = u) := fun p d m => by
      rcases List.mem_append.mp m with m | m
      · obtain ⟨⟨q, e⟩, h, h2⟩ := List.mem_map.mp m
        cases h2
        exact .inl ⟨e, h, rfl⟩
      · have := List.mem_singleton.mp m
        cases this
        exact .inr ⟨rfl, rfl⟩
    refine ⟨ds.map (fun x => (x.1, f x.2)) ++ [(c, u)], rs.map f, ⟨Nat.le_trans G.m1 hM, fun p d m => ?_, fun p d q e m m' hne => ?_, ?_, fun r m => ?_, fun p d m => ?_, fun r m => ?_, ?_⟩⟩
    · rcases mem p d m with ⟨e, h, rfl⟩ | ⟨rfl, rfl⟩
      · obtain ⟨g1, g2, g3, g4⟩ := G.dk p e h
        refine ⟨by omega, fL e g2, fun i hi => ?_, ?_⟩
        · rw [flow e i g2 (by omega), g3 i hi]; omega
        · rw [flow e p g2 g1]
          exact Int.mul_ne_zero hu g4
      · exact ⟨by omega, uL, uz, hu⟩
    · rcases mem p d m with ⟨d', h, rfl⟩ | ⟨rfl, rfl⟩
      · obtain ⟨g1, g2, g3, g4⟩ := G.dk p d' h
        rcases mem q e m' with ⟨e', h', rfl⟩ | ⟨rfl, rfl⟩
        · obtain ⟨g1', _⟩ := G.dk q e' h'
          rw [flow d' q g2 g1', G.dz p d' q e' h h' hne]; omega
        · exact fc d' g2
      · rcases mem q e m' with ⟨e', h', rfl⟩ | ⟨rfl, rfl⟩
        · obtain ⟨g1', _⟩ := G.dk q e' h'
          exact uz q g1'
        · exact (hne rfl).elim
    · refine List.pairwise_append.mpr ⟨List.pairwise_map.mpr (G.so.imp fun h => h), List.pairwise_singleton _ _, fun x mx y my => ?_⟩
      obtain ⟨⟨q, e⟩, h, rfl⟩ := List.mem_map.mp mx
      rw [List.mem_singleton.mp my]
      exact (G.dk q e h).1
    · obtain ⟨r', h, rfl⟩ := List.mem_map.mp m
      obtain ⟨g1, g2⟩ := G.rk r' h
      refine ⟨fL r' g1, fun i hi => ?_⟩
      by_cases e : i = c
      · rw [e]; exact fc r' g1
      · rw [flow r' i g1 (by omega), g2 i (by omega)]; omega
    · rcases mem p d m with ⟨e, h, rfl⟩ | ⟨rfl, rfl⟩
      · exact fb e (G.dk p e h).2.1 (G.bd p e h)
      · exact fun i => Nat.le_trans (bu i) hM
    · obtain ⟨r', h, rfl⟩ := List.mem_map.mp m
      exact fb r' (G.rk r' h).1 (G.br r' h)
    · have hl' : Len w ((ds.map (fun x => (x.1, f x.2)) ++ [(c, u)]).map (·.2) ++ rs.map f) := fun v m => by
        rcases List.mem_append.mp m with m | m
        · obtain ⟨⟨p, d⟩, h, rfl⟩ := List.mem_map.mp m
          rcases mem p d h with ⟨e, h', rfl⟩ | ⟨rfl, rfl⟩
          · exact hL.len _ (fL e (G.dk p e h').2.1)
          · exact lu
        · obtain ⟨r', h, rfl⟩ := List.mem_map.mp m
          exact hL.len _ (fL r' (G.rk r' h).1)
      have mu' : u ∈ (ds.map (fun x => (x.1, f x.2)) ++ [(c, u)]).map (·.2) ++ rs.map f := by simp
      have one : ∀ g, L g → f g ∈ (ds.map (fun x => (x.1, f x.2)) ++ [(c, u)]).map (·.2) ++ rs.map f → Span w ((ds.map (fun x => (x.1, f x.2)) ++ [(c, u)]).map (·.2) ++ rs.map f) (scl (nth u c) g) := fun g hg m => by
        have h := (Span.mem hl' m).sub hl' (Span.mem hl' mu') (- nth g c)
        have lg := hL.len g hg
        have l1 : (f g).length = u.length := (hL.len _ (fL g hg)).trans lu.symm
        have e : sub1 (f g) u (- nth g c) = scl (nth u c) g := vext (by rw [sub1_len l1, scl_len, l1, lu, lg]) fun i _ => by
          rw [nth_sub1 l1, fn g i hg, nth_scl, Int.mul_neg, Int.mul_comm (nth u i)]
          omega
        rw [e] at h
        exact h
      refine gen_step hL hu hlen hl' (fun g m => ?_) G.gen
      rcases List.mem_append.mp m with m | m
      · obtain ⟨⟨p, d⟩, h, rfl⟩ := List.mem_map.mp m
        refine one d (G.dk p d h).2.1 (List.mem_append_left _ (List.mem_map.mpr ⟨(p, f d), List.mem_append_left _ (List.mem_map.mpr ⟨(p, d), h, rfl⟩), rfl⟩))
      · exact one g (G.rk g m).1 (List.mem_append_right _ (List.mem_map.mpr ⟨g, m, rfl⟩))
  · refine ⟨ds, rs, ⟨Nat.le_trans G.m1 hM, fun p d m => ?_, G.dz, G.so, fun r m => ⟨(G.rk r m).1, fun i hi => ?_⟩, fun p d m i => Nat.le_trans (G.bd p d m i) hM, fun r m i => Nat.le_trans (G.br r m i) hM, G.gen⟩⟩
    · obtain ⟨g1, g2⟩ := G.dk p d m
      exact ⟨by omega, g2⟩
    · by_cases e : i = c
      · rw [e]
        exact Decidable.byContradiction fun h => hc ⟨r, m, h⟩
      · exact (G.rk r m).2 i (by omega)
def gj (B : Nat) : Nat → Nat
  | 0 => B
  | n + 1 => 2 * gj B n * gj B n
theorem gj_run {w : Nat} {L : Vec → Prop} {gs : List Vec} {B : Nat} (hL : Lat w L) (h1 : 1 ≤ B) (hg : ∀ g ∈ gs, L g) (hb : ∀ g ∈ gs, ∀ i, (nth g i).natAbs ≤ B) (hG : Gen w L gs) : ∀ n, ∃ ds rs, GJ w L n ds rs (gj B n)
  | 0 => ⟨[], gs, ⟨h1, fun _ _ m => (nomatch m), fun _ _ _ _ m => (nomatch m), List.Pairwise.nil, fun r m => ⟨hg r m, fun i hi => by omega⟩, fun _ _ m => (nomatch m), hb, hG⟩⟩
  | n + 1 => by
    obtain ⟨ds, rs, G⟩ := gj_run hL h1 hg hb hG n
    exact gj_step hL G
/-- where a sum of the done rows ends -/
theorem span_key {w c : Nat} {L : Vec → Prop} {ds : Ps} {rs : List Vec} {M : Nat} (hL : Lat w L) (G : GJ w L c ds rs M) (h0 : ∀ r ∈ rs, ∀ i, nth r i = 0) {p : Nat} (hp : ∀ d, (p, d) ∉ ds) {y : Vec} (hy : Span w (ds.map (·.2) ++ rs) y) (hz : Z p y) : nth y p = 0 := by
  -- y[p] times all heads is a sum over the heads below p, with y there
  have key : ∃ D : Int, D ≠ 0 ∧ ∃ e : Nat → Int, ∀ y, Span w (ds.map (·.2) ++ rs) y → D * nth y p = ((ds.filter fun x => decide (x.1 < p)).map fun x => e x.1 * nth y x.1).sum := by
    have hlen : Len w (ds.map (·.2) ++ rs) := fun v m => by
      rcases List.mem_append.mp m with m | m
      · obtain ⟨⟨p, d⟩, h, rfl⟩ := List.mem_map.mp m
        exact hL.len d (G.dk p d h).2.1
      · exact hL.len v (G.rk v m).1
    -- the product of the heads and its parts
    have hprod : ∀ qs : Ps, (∀ x ∈ qs, x ∈ ds) → qs.Pairwise (fun x y => x.1 < y.1) → ∃ D : Int, D ≠ 0 ∧ ∃ e : Nat → Int, ∀ q d, (q, d) ∈ qs → e q * nth d q = D * nth d p := by
      intro qs
      induction qs with
      | nil => exact fun _ _ => ⟨1, by decide, fun _ => 0, fun _ _ m => (nomatch m)⟩
      | cons x qs ih =>
        intro hm hs
        obtain ⟨q, d⟩ := x
        obtain ⟨s1, s2⟩ := List.pairwise_cons.mp hs
        obtain ⟨D, hD, e, he⟩ := ih (fun x m => hm x (List.mem_cons_of_mem _ m)) s2
        have hd := (G.dk q d (hm _ (List.mem_cons_self ..))).2.2.2
        refine ⟨nth d q * D, Int.mul_ne_zero hd hD, fun j => if j = q then D * nth d p else nth d q * e j, fun q' d' m => ?_⟩
        rcases List.mem_cons.mp m with m | m
        · cases m
          show (if q = q then _ else _) * _ = _
          rw [if_pos rfl, Int.mul_assoc, Int.mul_assoc, Int.mul_comm (nth d p), Int.mul_left_comm]
        · have hne : q' ≠ q := by
            have := s1 (q', d') m
            intro h
            rw [h] at this
            exact Nat.lt_irrefl _ this
          show (if q' = q then _ else _) * _ = _
          rw [if_neg hne, Int.mul_assoc, he q' d' m, Int.mul_assoc]
    obtain ⟨D, hD, e, he⟩ := hprod ds (fun _ m => m) G.so
    refine ⟨D, hD, e, fun y hy => ?_⟩
    induction hy with
    | zero =>
      rw [nth_zv]
      have : ∀ l : Ps, (l.map fun x => e x.1 * nth (zv w) x.1).sum = 0 := by
        intro l
        induction l with
        | nil => rfl
        | cons x l ih => rw [List.map_cons, List.sum_cons, ih, nth_zv]; omega
      rw [this]; omega
    | @step u v k hu mv ih =>
      have lu := hu.len hlen
      have lv := hlen v mv
      have luv : u.length = v.length := lu.trans lv.symm
      have dist : ∀ l : Ps, (l.map fun x => e x.1 * nth (sub1 u v k) x.1).sum = (l.map fun x => e x.1 * nth u x.1).sum - (l.map fun x => e x.1 * nth v x.1).sum * k := by
        intro l
        induction l with
        | nil => simp
        | cons x l ih =>
          rw [List.map_cons, List.sum_cons, ih, List.map_cons, List.sum_cons, List.map_cons, List.sum_cons, nth_sub1 luv, Int.mul_sub, Int.add_mul, Int.mul_assoc]
          omega
      rw [dist, ← ih, nth_sub1 luv, Int.mul_sub]
      have hv : D * nth v p = ((ds.filter fun x => decide (x.1 < p)).map fun x => e x.1 * nth v x.1).sum := by
        rcases List.mem_append.mp mv with m | m
        · obtain ⟨⟨q, d⟩, h, rfl⟩ := List.mem_map.mp m
          obtain ⟨g1, g2, g3, g4⟩ := G.dk q d h
          -- only q counts
          have one : ∀ l : Ps, (∀ x ∈ l, x ∈ ds) → l.Pairwise (fun x y => x.1 < y.1) → (l.map fun x => e x.1 * nth d x.1).sum = if (q, d) ∈ l then e q * nth d q else 0 := by
            intro l
            induction l with
            | nil => intro _ _; simp
            | cons x l ih =>
              intro hm hs
              obtain ⟨q', d'⟩ := x
              obtain ⟨s1, s2⟩ := List.pairwise_cons.mp hs
              have ih' := ih (fun x m => hm x (List.mem_cons_of_mem _ m)) s2
              rw [List.map_cons, List.sum_cons, ih']
              by_cases hq : q' = q
              · subst hq
                have n1 : (q', d) ∉ l := fun m => Nat.lt_irrefl _ (s1 (q', d) m)
                have hdd : (q', d) = (q', d') := by
                  have hm' := hm (q', d') (List.mem_cons_self ..)
                  refine Decidable.byContradiction fun hne => ?_
                  have : ∀ l : Ps, l.Pairwise (fun x y => x.1 < y.1) → (q', d) ∈ l → (q', d') ∈ l → (q', d) = (q', d') := by
                    intro l
                    induction l with
                    | nil => intro _ m; cases m
                    | cons z l ihl =>
                      intro hs' m m'
                      obtain ⟨t1, t2⟩ := List.pairwise_cons.mp hs'
                      rcases List.mem_cons.mp m with m | m
                      · rcases List.mem_cons.mp m' with m' | m'
                        · rw [m, m']
                        · have := t1 _ m'; rw [← m] at this; exact (Nat.lt_irrefl _ this).elim
                      · rcases List.mem_cons.mp m' with m' | m'
                        · have := t1 _ m; rw [← m'] at this; exact (Nat.lt_irrefl _ this).elim
                        · exact ihl t2 m m'
                  exact hne (this ds G.so h hm')
                rw [if_neg n1, if_pos (by rw [hdd]; exact List.mem_cons_self ..)]
                show e q' * nth d q' + 0 = _
                omega
              · have hz : nth d q' = 0 := G.dz q d q' d' h (hm _ (List.mem_cons_self ..)) hq
                show e q' * nth d q' + _ = _
                rw [hz]
                by_cases hm2 : (q, d) ∈ l
                · rw [if_pos hm2, if_pos (List.mem_cons_of_mem _ hm2)]; omega
                · rw [if_neg hm2, if_neg (fun m => by
                    rcases List.mem_cons.mp m with m | m
                    · cases m; exact hq rfl
                    · exact hm2 m)]; omega
          rw [one _ (fun x m => (List.mem_filter.mp m).1) (G.so.filter _)]
          by_cases hqp : q < p
          · rw [if_pos (List.mem_filter.mpr ⟨h, by simpa using hqp⟩), he q d h]
          · rw [if_neg (fun m => hqp (by simpa using (List.mem_filter.mp m).2))]
            have hne : p ≠ q := fun hh => hp d (hh ▸ h)
            rw [g3 p (by omega)]
            omega
        · rw [h0 v m p]
          have : ∀ l : Ps, (l.map fun x => e x.1 * nth v x.1).sum = 0 := by
            intro l
            induction l with
            | nil => rfl
            | cons x l ih => rw [List.map_cons, List.sum_cons, ih, h0 v m]; omega
          rw [this]; omega
      rw [← hv, Int.mul_assoc]
  obtain ⟨D, hD, e, he⟩ := key
  have h := he y hy
  have : ∀ l : Ps, (∀ x ∈ l, x.1 < p) → (l.map fun x => e x.1 * nth y x.1).sum = 0 := by
    intro l
    induction l with
    | nil => exact fun _ => rfl
    | cons x l ih =>
      intro hl
      rw [List.map_cons, List.sum_cons, ih fun x m => hl x (List.mem_cons_of_mem _ m), hz x.1 (hl x (List.mem_cons_self ..))]
      omega
  rw [this _ (fun x m => by simpa using (List.mem_filter.mp m).2)] at h
  rcases Int.mul_eq_zero.mp h with h | h
  · exact (hD h).elim
  · exact h
/-- the form of a lattice with small generators is small -/
theorem form_small {w : Nat} {L : Vec → Prop} {gs : List Vec} {B : Nat} {ps : Ps} (hL : Lat w L) (F : Form w L ps) (h1 : 1 ≤ B) (hg : ∀ g ∈ gs, L g) (hb : ∀ g ∈ gs, ∀ i, (nth g i).natAbs ≤ B) (hG : Gen w L gs) {p : Nat} {a : Vec} (hp : (p, a) ∈ ps) (i : Nat) : (nth a i).natAbs ≤ ps.length * gj B w := by
  obtain ⟨ds, rs, G⟩ := gj_run hL h1 hg hb hG w
  have h0 : ∀ r ∈ rs, ∀ i, nth r i = 0 := fun r m i => by
    obtain ⟨g1, g2⟩ := G.rk r m
    by_cases hi : i < w
    · exact g2 i hi
    · exact nth_ge (by rw [hL.len r g1]; omega)
  have heads : ∀ p a, (p, a) ∈ ps → ∃ d, (p, d) ∈ ds := fun p a m => by
    obtain ⟨f1, f2, f3, f4⟩ := F.row p a m
    refine Classical.byContradiction fun hn => ?_
    obtain ⟨k, hk, hs⟩ := G.gen a f2
    have := span_key hL G h0 (p := p) (fun d hd => hn ⟨d, hd⟩) hs (fun i hi => by rw [nth_scl, f3 i hi]; omega)
    rw [nth_scl] at this
    exact Int.mul_ne_zero hk f4 this
  refine form_bound hL F (fun q b m => ?_) hp i
  obtain ⟨d, hd⟩ := heads q b m
  obtain ⟨g1, g2, g3, g4⟩ := G.dk q d hd
  refine ⟨d, g2, g4, fun q' b' m' hne => ?_, G.bd q d hd⟩
  obtain ⟨d', hd'⟩ := heads q' b' m'
  exact G.dz q d q' d' hd hd' hne
theorem gen_span {w : Nat} {vs : List Vec} (hl : Len w vs) : Gen w (Span w vs) vs := fun x hx => ⟨1, by decide, by
  have e : scl 1 x = x := vext (scl_len _ _) fun i _ => by rw [nth_scl]; omega
  rw [e]
  exact hx⟩
end ML
end
section
namespace ML
def meetR (w : Nat) (vs us : List Vec) : List Vec := vs.map (fun v => v ++ v) ++ us.map (fun u => u ++ zv w)
def Meet (w : Nat) (vs us : List Vec) (x : Vec) : Prop := Span w vs x ∧ Span w us x
section
variable {w : Nat} {vs us : List Vec}
theorem meet_len (hl : Len w vs) (hu : Len w us) : Len (w + w) (meetR w vs us) := fun v m => by
  rcases List.mem_append.mp m with m | m
  · obtain ⟨x, hx, rfl⟩ := List.mem_map.mp m
    rw [List.length_append, hl x hx]
  · obtain ⟨x, hx, rfl⟩ := List.mem_map.mp m
    rw [List.length_append, hu x hx]
    simp [zv]
theorem sub1_app {a b c d : Vec} {k : Int} (h : a.length = c.length) : sub1 (a ++ b) (c ++ d) k = sub1 a c k ++ sub1 b d k := by
  unfold sub1
  rw [List.zipWith_append h]
theorem zv_app (w : Nat) : zv (w + w) = zv w ++ zv w := by unfold zv; rw [List.replicate_append_replicate]
theorem app_split {y : Vec} {w : Nat} (h : y.length = w + w) : y = y.take w ++ y.drop w := (List.take_append_drop w y).symm
/-- of a sum of the rows: the back half is in the first lattice, front less back in the second one -/
theorem meet_in (hl : Len w vs) (hu : Len w us) {y : Vec} (h : Span (w + w) (meetR w vs us) y) : ∃ a b, y = a ++ b ∧ a.length = w ∧ b.length = w ∧ Span w vs b ∧ Span w us (sub1 a b 1) := by
  have L := meet_len hl hu
  induction h with
  | zero =>
    refine ⟨zv w, zv w, zv_app w, by simp [zv], by simp [zv], .zero, ?_⟩
    rw [sub_zv (by simp [zv])]
    exact .zero
  | @step u v c hu' mv ih =>
    obtain ⟨a, b, rfl, la, lb, h1, h2⟩ := ih
    rcases List.mem_append.mp mv with m | m
    · obtain ⟨x, hx, rfl⟩ := List.mem_map.mp m
      have lx := hl x hx
      have lax := la.trans lx.symm
      have lbx := lb.trans lx.symm
      refine ⟨sub1 a x c, sub1 b x c, sub1_app lax, (sub1_len lax).trans la, (sub1_len lbx).trans lb, .step c h1 hx, ?_⟩
      have lab := la.trans lb.symm
      have l3 : (sub1 a x c).length = (sub1 b x c).length := by rw [sub1_len lax, sub1_len lbx, lab]
      have e : sub1 (sub1 a x c) (sub1 b x c) 1 = sub1 a b 1 := vext (by rw [sub1_len l3, sub1_len lax, sub1_len lab]) fun i _ => by
        rw [nth_sub1 l3, nth_sub1 lax, nth_sub1 lbx, nth_sub1 lab]
        omega
      rw [e]
      exact h2
    · obtain ⟨x, hx, rfl⟩ := List.mem_map.mp m
      have lx := hu x hx
      have lax := la.trans lx.symm
      have lz : b.length = (zv w).length := by rw [lb]; simp [zv]
      have lab := la.trans lb.symm
      refine ⟨sub1 a x c, sub1 b (zv w) c, sub1_app lax, (sub1_len lax).trans la, (sub1_len lz).trans lb, ?_, ?_⟩
      · rw [sub_zv lb]; exact h1
      · rw [sub_zv lb]
        have l3 : (sub1 a x c).length = b.length := by rw [sub1_len lax, lab]
        have l4 : (sub1 a b 1).length = x.length := by rw [sub1_len lab, lax]
        have e : sub1 (sub1 a x c) b 1 = sub1 (sub1 a b 1) x c := vext (by rw [sub1_len l3, sub1_len lax, sub1_len l4, sub1_len lab]) fun i _ => by
          rw [nth_sub1 l3, nth_sub1 lax, nth_sub1 l4, nth_sub1 lab]
          omega
        rw [e]
        exact .step c h2 hx
theorem span_dup (hl : Len w vs) (hu : Len w us) {x : Vec} (h : Span w vs x) : Span (w + w) (meetR w vs us) (x ++ x) := by
  induction h with
  | zero => rw [← zv_app]; exact .zero
  | @step u v c hu' mv ih =>
    have l := (hu'.len hl).trans (hl v mv).symm
    rw [← sub1_app l]
    exact .step c ih (List.mem_append_left _ (List.mem_map.mpr ⟨v, mv, rfl⟩))
theorem span_front (hl : Len w vs) (hu : Len w us) {x : Vec} (h : Span w us x) : Span (w + w) (meetR w vs us) (x ++ zv w) := by
  induction h with
  | zero => rw [← zv_app]; exact .zero
  | @step u v c hu' mv ih =>
    have l := (hu'.len hu).trans (hu v mv).symm
    have e : sub1 u v c ++ zv w = sub1 (u ++ zv w) (v ++ zv w) c := by rw [sub1_app l, sub_zv (by simp [zv])]
    rw [e]
    exact .step c ih (List.mem_append_right _ (List.mem_map.mpr ⟨v, mv, rfl⟩))
theorem tail_meet (hl : Len w vs) (hu : Len w us) (x : Vec) : Tail w (Span (w + w) (meetR w vs us)) x ↔ Meet w vs us x := by
  constructor
  · intro h
    obtain ⟨a, b, e, la, lb, h1, h2⟩ := meet_in hl hu h
    have e' : zv w ++ x = a ++ b := e
    obtain ⟨rfl, rfl⟩ := List.append_inj e' (by rw [la]; simp [zv])
    refine ⟨h1, ?_⟩
    have lz : (zv w).length = x.length := by rw [lb]; simp [zv]
    have h3 := Span.sub hu .zero h2 1
    have e2 : sub1 (zv w) (sub1 (zv w) x 1) 1 = x := vext (by rw [sub1_len (by rw [sub1_len lz]), lz]) fun i _ => by
      rw [nth_sub1 (by rw [sub1_len lz]), nth_sub1 lz, nth_zv]
      omega
    rw [e2] at h3
    exact h3
  · rintro ⟨h1, h2⟩
    have L := meet_len hl hu
    have h := (span_dup hl hu h1).sub L (span_front hl hu h2) 1
    have lx := h1.len hl
    have lz : x.length = (zv w).length := by rw [lx]; simp [zv]
    have e : sub1 (x ++ x) (x ++ zv w) 1 = pad w x := by
      rw [sub1_app rfl, sub_zv lx]
      have : sub1 x x 1 = zv w := vext (by rw [sub1_len rfl, lz]) fun i _ => by rw [nth_sub1 rfl, nth_zv]; omega
      rw [this]
      rfl
    rw [e] at h
    exact h
theorem meet_lat (hl : Len w vs) (hu : Len w us) : Lat w (Meet w vs us) := ⟨fun _ h => h.1.len hl, fun _ _ c h h' => ⟨h.1.sub hl h'.1 c, h.2.sub hu h'.2 c⟩⟩
theorem span_none {x : Vec} (h : Span w [] x) : x = zv w := by
  cases h with
  | zero => rfl
  | step _ _ m => cases m
end
/-- lowered to zero: in the lattice -/
theorem lower_back {w : Nat} {L : Vec → Prop} (hL : Lat w L) : ∀ (ps : Ps) (v : Vec), v.length = w → (∀ p a, (p, a) ∈ ps → L a) → L (lower v ps) → L v
  | [], _, _, _, h => h
  | (p, a) :: ps, v, hv, hp, h => by
    have ha := hp p a (List.mem_cons_self ..)
    have l : v.length = a.length := hv.trans (hL.len a ha).symm
    have h1 := lower_back hL ps (low1 v (p, a)) ((low1_len (x := (p, a)) l).trans hv) (fun q b m => hp q b (List.mem_cons_of_mem _ m)) h
    have h2 := hL.sub _ a (-((nth v p).fdiv (nth a p))) h1 ha
    have l2 : (low1 v (p, a)).length = a.length := (low1_len (x := (p, a)) l).trans l
    have e : sub1 (low1 v (p, a)) a (-((nth v p).fdiv (nth a p))) = v := vext (by rw [sub1_len l2, l2, l]) fun i _ => by
      have h3 : nth (low1 v (p, a)) i = nth v i - nth a i * ((nth v p).fdiv (nth a p)) := nth_sub1 l i
      rw [nth_sub1 l2, h3, Int.mul_neg]
      omega
    rw [e] at h2
    exact h2
theorem tail_tri_d {d w : Nat} {bs : Bs} (hw : bs.length = d + w) (ok : BsOk (d + w) bs) : ∃ qs : Ps, qs.map (·.2) = (rws (bs.drop d)).map (fun r => r.drop d) ∧ qs.Pairwise (fun x y => x.1 < y.1) ∧ ∀ p a, (p, a) ∈ qs → p < w ∧ Z p a ∧ nth a p ≠ 0 := by
  refine ⟨(pairsOf 0 (bs.drop d)).map fun x => (x.1, x.2.drop d), ?_, ?_, fun p a m => ?_⟩
  · rw [List.map_map, ← pairs_snd (bs.drop d) 0, List.map_map]
    rfl
  · rw [List.pairwise_map]
    exact pairs_sorted _ 0
  · obtain ⟨⟨q, b⟩, hm, e⟩ := List.mem_map.mp m
    cases e
    obtain ⟨i, e1, e2⟩ := mem_pairs.mp hm
    rw [Nat.zero_add] at e1
    subst e1
    rw [List.getElem?_drop] at e2
    obtain ⟨h1, h2, h3⟩ := ok _ b e2
    have hl := (List.getElem?_eq_some_iff.mp e2).1
    refine ⟨by omega, fun j hj => ?_, ?_⟩
    · rw [nth_drop]
      exact h2 _ (by omega)
    · rw [nth_drop]
      exact h3
end ML
end
section
namespace VP
open VM
abbrev M0 : Int := 2147483549
/-- the five things of a bag -/
def bagL (cells : List Int) (i dig mixed turn : Int) : List PV := [ilst cells, .int i, .int dig, .int mixed, .int turn]
/-- a bag that still bears b draws -/
def Bag (st : Store) (r b : Nat) : Prop := ∃ (cells : List Int) (i : Nat) (dig mixed : Int) (turn : Nat), st[r]? = some (.lst (bagL cells i dig mixed turn)) ∧ cells.length ≤ 63 ∧ i ≤ 63 ∧ 0 ≤ mixed ∧ mixed < M0 ∧ turn + b < 2 ^ 60
/-- what a drawing def leaves: the bag changed, all else as it was; new objects at the end -/
def Keep (r : Nat) (st st' : Store) : Prop := st.length ≤ st'.length ∧ ∀ i, i ≠ r → i < st.length → st'[i]? = st[i]?
theorem Keep.refl {r : Nat} {st : Store} : Keep r st st := ⟨Nat.le_refl _, fun _ _ _ => rfl⟩
theorem Keep.trans {r : Nat} {st st1 st2 : Store} (h : Keep r st st1) (h' : Keep r st1 st2) : Keep r st st2 := ⟨Nat.le_trans h.1 h'.1, fun i hi hl => (h'.2 i hi (Nat.lt_of_lt_of_le hl h.1)).trans (h.2 i hi hl)⟩
theorem Keep.set {r : Nat} {st : Store} {o : SO} : Keep r st (st.set r o) := ⟨by simp, fun i hi _ => List.getElem?_set_ne (Ne.symm hi)⟩
theorem Keep.app {r : Nat} {st : Store} {o : SO} : Keep r st (st ++ [o]) := ⟨by simp, fun i _ hl => List.getElem?_append_left hl⟩
theorem Bag.le {st : Store} {r b b' : Nat} (h : Bag st r b) (hb : b' ≤ b) : Bag st r b' := by
  obtain ⟨c, i, d, m, t, h1, h2, h3, h4, h5, h6⟩ := h
  exact ⟨c, i, d, m, t, h1, h2, h3, h4, h5, by omega⟩
theorem Bag.lt {st : Store} {r b : Nat} (h : Bag st r b) : r < st.length := by
  obtain ⟨c, i, d, m, t, h1, _⟩ := h
  exact (List.getElem?_eq_some_iff.mp h1).1
theorem Bag.app {st : Store} {r b : Nat} {o : SO} (h : Bag st r b) : Bag (st ++ [o]) r b := by
  have hl := h.lt
  obtain ⟨c, i, d, m, t, h1, h2⟩ := h
  exact ⟨c, i, d, m, t, by rw [List.getElem?_append_left hl]; exact h1, h2⟩
/-- f draws: at most c draws, the value as R says -/
def Draws (cs : CS) (f : Nat) (args : List PV) (r c : Nat) (R : PV → Prop) : Prop := ∀ (st : Store) (b : Nat) (k x : KV), Bag st r (b + c) → (∀ v st', R v → Bag st' r b → Keep r st st' → k v st') → cs f (.ref r :: args) st k x
def SpTake (cs : CS) : Prop := ∀ (r : Nat) (many : Int), 0 < many → Draws cs 1 [.int many] r 1 fun v => ∃ d : Int, v = .int d ∧ 0 ≤ d ∧ d < many
theorem ix5 (j : Nat) (h : j < 5) : ix 5 (j : Int) = some j := by
  unfold ix
  rw [if_pos (by omega), if_pos (by omega)]
  simp
theorem fmodM (a : Int) : 0 ≤ a.fmod M0 ∧ a.fmod M0 < M0 := ⟨Int.fmod_nonneg_of_pos a (by decide), Int.fmod_lt_of_pos a (by decide)⟩
theorem nat_lt_pow {a : Int} (h0 : 0 ≤ a) (h : a < M0) : a.natAbs < 2 ^ 64 := by
  have : (M0 : Int) = 2147483549 := rfl
  omega
theorem set_self {st : Store} {r : Nat} {o o' : SO} (h : st[r]? = some o) : (st.set r o')[r]? = some o' := List.getElem?_set_self (List.getElem?_eq_some_iff.mp h).1
def takeTail : TS := (sCons (sIf (tCmp .gt (eIx (eVar 0) (eC (.int 2))) (eC (.int 1))) (sCons (sSet (gName 3) (eBin .mod (eB1 fInt (eIx (eVar 0) (eC (.int 2)))) (eVar 1))) (sCons (sSetIx (eVar 0) (eC (.int 2)) (eBin .fdiv (eIx (eVar 0) (eC (.int 2))) (eVar 1))) (sRet (eVar 3)))) sNil)
        (sCons (sSet (gName 4) (eBin .mod (eB1 fInt (eBin .add (eIx (eVar 0) (eC (.int 3))) (eBin .mul (eIx (eVar 0) (eC (.int 4))) (eC (.int 9547))))) (eC (.int 2147483549))))
        (sCons (sSetIx (eVar 0) (eC (.int 3)) (eBin .mod (eB1 fInt (eBin .add (eBin .add (eBin .mul (eVar 4) (eVar 4)) (eBin .mul (eVar 4) (eC (.int 33757)))) (eC (.int 90263)))) (eC (.int 2147483549))))
        (sRet (eBin .mod (eB1 fInt (eBin .add (eBin .fdiv (eIx (eVar 0) (eC (.int 3))) (eC (.int 71))) (eBin .mul (eBin .mod (eB1 fInt (eIx (eVar 0) (eC (.int 3)))) (eC (.int 7877))) (eC (.int 191))))) (eVar 1))))))
theorem natAbs_lt {a : Int} {n : Nat} (h0 : 0 ≤ a) (h : a < (n : Int)) : a.natAbs < n := by omega
theorem take_tail {st : Store} {r b : Nat} {many : Int} {a2 a3 a4 : Option PV} {D : Ends} (hm : 0 < many) (hb : Bag st r b)
    (hk : ∀ d st', 0 ≤ d → d < many → Bag st' r b → Keep r st st' → D.rt (.int d) st') : takeTail D [some (.ref r), some (.int many), a2, a3, a4] st := by
  obtain ⟨cells, i, dig, mixed, turn, h1, h2, h3, h4, h5, h6⟩ := hb
  have e2 : ix 5 2 = some 2 := rfl
  have e3 : ix 5 3 = some 3 := rfl
  have e4 : ix 5 4 = some 4 := rfl
  unfold bagL at h1
  by_cases hd : 1 < dig
  · simp only [takeTail, VM.sNil, VM.sCons, VM.sSet, VM.sPar, VM.sSetIx, VM.setIx, VM.sExpr, VM.sRet, VM.sRetN, VM.sIf, VM.sBreak, VM.sCont, VM.sFor, VM.gName, VM.gTup, VM.gEach, VM.eVar, VM.eC, VM.eBin, VM.eNeg, VM.eCmp, VM.eChain, VM.tOf, VM.tCmp, VM.tChain, VM.tAnd, VM.tOr, VM.tNot, VM.tYes, VM.eTest, VM.eAnd, VM.eOr, VM.eNot, VM.eIf, VM.aNil, VM.aCons, VM.eLst, VM.eLstM, VM.eTup, VM.eCall, VM.eIx, VM.getIx, VM.eSl, VM.getSl, VM.iE, VM.iRange1, VM.iRange2, VM.iZip, VM.iRev, VM.eComp, VM.eCompM, VM.eAppend, VM.eInsert, VM.eB1, VM.fLen, VM.fAbs, VM.fInt, VM.fList, VM.fListM, VM.fTuple, VM.fSum, VM.fAll, VM.fAny, VM.fIsi, VM.bLen, VM.seqOf, VM.sq, VM.asL, VM.items, VM.isSeq, VM.truth, VM.opBin, VM.opAdd, VM.opSub, VM.opMul, VM.opFdiv, VM.opMod, VM.opPow, VM.opCm, VM.opEq, VM.frz, VM.isD, VM.eqv, VM.isNon, VM.kdOf, VM.D0, VM.turn, List.map_cons, List.map_nil, List.replicate_succ, List.replicate_zero, List.cons_append, List.nil_append, List.getElem?_cons_zero, List.getElem?_cons_succ, List.set_cons_zero, List.set_cons_succ, Nat.reduceSub, VM.wipe, List.length_cons, List.length_nil, Nat.reduceAdd, h1, e2, hd, decide_true, if_true]
    refine ⟨by omega, by unfold DivOk; omega, ?_⟩
    exact hk _ _ (Int.fmod_nonneg_of_pos _ hm) (Int.fmod_lt_of_pos _ hm) ⟨cells, i, _, mixed, turn, set_self h1, h2, h3, h4, h5, h6⟩ Keep.set
  · simp only [takeTail, VM.sNil, VM.sCons, VM.sSet, VM.sPar, VM.sSetIx, VM.setIx, VM.sExpr, VM.sRet, VM.sRetN, VM.sIf, VM.sBreak, VM.sCont, VM.sFor, VM.gName, VM.gTup, VM.gEach, VM.eVar, VM.eC, VM.eBin, VM.eNeg, VM.eCmp, VM.eChain, VM.tOf, VM.tCmp, VM.tChain, VM.tAnd, VM.tOr, VM.tNot, VM.tYes, VM.eTest, VM.eAnd, VM.eOr, VM.eNot, VM.eIf, VM.aNil, VM.aCons, VM.eLst, VM.eLstM, VM.eTup, VM.eCall, VM.eIx, VM.getIx, VM.eSl, VM.getSl, VM.iE, VM.iRange1, VM.iRange2, VM.iZip, VM.iRev, VM.eComp, VM.eCompM, VM.eAppend, VM.eInsert, VM.eB1, VM.fLen, VM.fAbs, VM.fInt, VM.fList, VM.fListM, VM.fTuple, VM.fSum, VM.fAll, VM.fAny, VM.fIsi, VM.bLen, VM.seqOf, VM.sq, VM.asL, VM.items, VM.isSeq, VM.truth, VM.opBin, VM.opAdd, VM.opSub, VM.opMul, VM.opFdiv, VM.opMod, VM.opPow, VM.opCm, VM.opEq, VM.frz, VM.isD, VM.eqv, VM.isNon, VM.kdOf, VM.D0, VM.turn, List.map_cons, List.map_nil, List.replicate_succ, List.replicate_zero, List.cons_append, List.nil_append, List.getElem?_cons_zero, List.getElem?_cons_succ, List.set_cons_zero, List.set_cons_succ, Nat.reduceSub, VM.wipe, List.length_cons, List.length_nil, Nat.reduceAdd, h1, e2, e3, e4, hd, decide_false, Bool.false_eq_true, if_false]
    have f1 := fmodM (mixed + (turn : Int) * 9547)
    have f2 := fmodM ((mixed + (turn : Int) * 9547).fmod 2147483549 * (mixed + (turn : Int) * 9547).fmod 2147483549 + (mixed + (turn : Int) * 9547).fmod 2147483549 * 33757 + 90263)
    have g1 := nat_lt_pow f1.1 f1.2
    have g2 := nat_lt_pow f2.1 f2.2
    refine ⟨mulOk64 (by omega) (by decide), by decide, mulOk64 g1 g1, mulOk64 g1 (by decide), by decide, ?_⟩
    simp only [set_self h1, VM.sNil, VM.sCons, VM.sSet, VM.sPar, VM.sSetIx, VM.setIx, VM.sExpr, VM.sRet, VM.sRetN, VM.sIf, VM.sBreak, VM.sCont, VM.sFor, VM.gName, VM.gTup, VM.gEach, VM.eVar, VM.eC, VM.eBin, VM.eNeg, VM.eCmp, VM.eChain, VM.tOf, VM.tCmp, VM.tChain, VM.tAnd, VM.tOr, VM.tNot, VM.tYes, VM.eTest, VM.eAnd, VM.eOr, VM.eNot, VM.eIf, VM.aNil, VM.aCons, VM.eLst, VM.eLstM, VM.eTup, VM.eCall, VM.eIx, VM.getIx, VM.eSl, VM.getSl, VM.iE, VM.iRange1, VM.iRange2, VM.iZip, VM.iRev, VM.eComp, VM.eCompM, VM.eAppend, VM.eInsert, VM.eB1, VM.fLen, VM.fAbs, VM.fInt, VM.fList, VM.fListM, VM.fTuple, VM.fSum, VM.fAll, VM.fAny, VM.fIsi, VM.bLen, VM.seqOf, VM.sq, VM.asL, VM.items, VM.isSeq, VM.truth, VM.opBin, VM.opAdd, VM.opSub, VM.opMul, VM.opFdiv, VM.opMod, VM.opPow, VM.opCm, VM.opEq, VM.frz, VM.isD, VM.eqv, VM.isNon, VM.kdOf, VM.D0, VM.turn, List.map_cons, List.map_nil, List.replicate_succ, List.replicate_zero, List.cons_append, List.nil_append, List.getElem?_cons_zero, List.getElem?_cons_succ, List.set_cons_zero, List.set_cons_succ, Nat.reduceSub, VM.wipe, List.length_cons, List.length_nil, Nat.reduceAdd, e3]
    refine ⟨by unfold DivOk; decide, by decide, mulOk64 ?_ (by decide), by omega, ?_⟩
    · have q1 := Int.fmod_nonneg_of_pos (((mixed + (turn : Int) * 9547).fmod 2147483549 * (mixed + (turn : Int) * 9547).fmod 2147483549 + (mixed + (turn : Int) * 9547).fmod 2147483549 * 33757 + 90263).fmod 2147483549) (show (0 : Int) < 7877 by decide)
      have q2 := Int.fmod_lt_of_pos (((mixed + (turn : Int) * 9547).fmod 2147483549 * (mixed + (turn : Int) * 9547).fmod 2147483549 + (mixed + (turn : Int) * 9547).fmod 2147483549 * 33757 + 90263).fmod 2147483549) (show (0 : Int) < 7877 by decide)
      omega
    · exact hk _ _ (Int.fmod_nonneg_of_pos _ hm) (Int.fmod_lt_of_pos _ hm) ⟨cells, i, dig, _, turn, set_self h1, h2, h3, f2.1, f2.2, h6⟩ Keep.set
set_option maxHeartbeats 2000000 in
theorem take_at {FT : Nat → Option FD} (hF : FT 1 = some ⟨2, 5, T__law_take⟩) : At FT 1 SpTake := at_of (C := fun _ => True) hF (fun _ _ => trivial) fun cs cs' _ go => by
  intro r many hm st b k x hb hk
  obtain ⟨cells, i, dig, mixed, turn, h1, h2, h3, h4, h5, h6⟩ := hb
  refine go _ _ _ _ rfl ?_
  have e0 : ix 5 0 = some 0 := rfl
  have e1 : ix 5 1 = some 1 := rfl
  have e2 : ix 5 2 = some 2 := rfl
  have e3 : ix 5 3 = some 3 := rfl
  have e4 : ix 5 4 = some 4 := rfl
  unfold bagL at h1
  have s1 := set_self (o' := .lst [ilst cells, .int i, .int dig, .int mixed, .int ((turn : Int) + 1)]) h1
  have hB : ∀ (i' : Nat) (dig' mixed' : Int) (st' : Store), st'[r]? = some (.lst (bagL cells i' dig' mixed' ((turn : Int) + 1))) → i' ≤ 63 → 0 ≤ mixed' → mixed' < M0 → Bag st' r b := fun i' dig' mixed' st' q1 q2 q3 q4 => ⟨cells, i', dig', mixed', turn + 1, by rw [q1]; rfl, h2, q2, q3, q4, by omega⟩
  have fin : ∀ (st1 : Store) (a2 a3 a4 : Option PV), Bag st1 r b → Keep r st st1 → takeTail (D0 k x) [some (.ref r), some (.int many), a2, a3, a4] st1 := fun st1 a2 a3 a4 hb1 kp => take_tail hm hb1 fun d st' d0 d1 b' kp' => hk _ _ ⟨d, rfl, d0, d1⟩ b' (kp.trans kp')
  show sCons _ (sCons _ takeTail) _ _ _
  by_cases hc : dig < 2 ∧ (i : Int) < (cells.length : Int)
  · obtain ⟨hc1, hc2⟩ := hc
    have hi : i < cells.length := by omega
    have ei : ix cells.length (i : Int) = some i := by unfold ix; rw [if_pos (by omega), if_pos hc2]; simp
    obtain ⟨cell, ec⟩ : ∃ cell, cells[i]? = some cell := ⟨cells[i], by simp [hi]⟩
    have hs : ∀ o, (st.set r o)[r]? = some o := fun o => set_self h1
    have p0 : PowOk 10 18 := ⟨by decide, by decide, by decide⟩
    have q1 := Int.fmod_nonneg_of_pos cell (show (0 : Int) < 2147483497 by decide)
    have q2 := Int.fmod_lt_of_pos cell (show (0 : Int) < 2147483497 by decide)
    simp only [VM.sNil, VM.sCons, VM.sSet, VM.sPar, VM.sSetIx, VM.setIx, VM.sExpr, VM.sRet, VM.sRetN, VM.sIf, VM.sBreak, VM.sCont, VM.sFor, VM.gName, VM.gTup, VM.gEach, VM.eVar, VM.eC, VM.eBin, VM.eNeg, VM.eCmp, VM.eChain, VM.tOf, VM.tCmp, VM.tChain, VM.tAnd, VM.tOr, VM.tNot, VM.tYes, VM.eTest, VM.eAnd, VM.eOr, VM.eNot, VM.eIf, VM.aNil, VM.aCons, VM.eLst, VM.eLstM, VM.eTup, VM.eCall, VM.eIx, VM.getIx, VM.eSl, VM.getSl, VM.iE, VM.iRange1, VM.iRange2, VM.iZip, VM.iRev, VM.eComp, VM.eCompM, VM.eAppend, VM.eInsert, VM.eB1, VM.fLen, VM.fAbs, VM.fInt, VM.fList, VM.fListM, VM.fTuple, VM.fSum, VM.fAll, VM.fAny, VM.fIsi, VM.bLen, VM.seqOf, VM.sq, VM.asL, VM.items, VM.isSeq, VM.truth, VM.opBin, VM.opAdd, VM.opSub, VM.opMul, VM.opFdiv, VM.opMod, VM.opPow, VM.opCm, VM.opEq, VM.frz, VM.isD, VM.eqv, VM.isNon, VM.kdOf, VM.D0, VM.turn, List.map_cons, List.map_nil, List.replicate_succ, List.replicate_zero, List.cons_append, List.nil_append, List.getElem?_cons_zero, List.getElem?_cons_succ, List.set_cons_zero, List.set_cons_succ, Nat.reduceSub, VM.wipe, List.length_cons, List.length_nil, Nat.reduceAdd, h1, hs, e0, e1, e2, e3, e4, hc1, hc2, decide_true, if_true, List.length_map, ei, List.getElem?_map, ec, Option.map_some, List.set_set]
    have f := fmodM (mixed * 40063 + cell.fmod 2147483497 * 61 + ((i : Int) + 1))
    refine ⟨mulOk64 (nat_lt_pow h4 h5) (by decide), by decide, mulOk64 (by omega) (by decide), by decide, p0, ?_⟩
    by_cases hd : (10 : Int) ^ Int.toNat 18 ≤ cell
    · simp only [hd, decide_true, if_true]
      exact fin _ _ _ _ (hB (i + 1) _ _ _ (hs _) (by omega) f.1 f.2) Keep.set
    · simp only [hd, decide_false, Bool.false_eq_true, if_false]
      exact fin _ _ _ _ (hB (i + 1) _ _ _ (hs _) (by omega) f.1 f.2) Keep.set
  · have hs : ∀ o, (st.set r o)[r]? = some o := fun o => set_self h1
    have key := fin _ none none none (hB i dig mixed _ (hs _) h3 h4 h5) Keep.set
    by_cases hc1 : dig < 2
    · have hc2 : ¬ (i : Int) < (cells.length : Int) := fun z => hc ⟨hc1, z⟩
      simp only [VM.sNil, VM.sCons, VM.sSet, VM.sPar, VM.sSetIx, VM.setIx, VM.sExpr, VM.sRet, VM.sRetN, VM.sIf, VM.sBreak, VM.sCont, VM.sFor, VM.gName, VM.gTup, VM.gEach, VM.eVar, VM.eC, VM.eBin, VM.eNeg, VM.eCmp, VM.eChain, VM.tOf, VM.tCmp, VM.tChain, VM.tAnd, VM.tOr, VM.tNot, VM.tYes, VM.eTest, VM.eAnd, VM.eOr, VM.eNot, VM.eIf, VM.aNil, VM.aCons, VM.eLst, VM.eLstM, VM.eTup, VM.eCall, VM.eIx, VM.getIx, VM.eSl, VM.getSl, VM.iE, VM.iRange1, VM.iRange2, VM.iZip, VM.iRev, VM.eComp, VM.eCompM, VM.eAppend, VM.eInsert, VM.eB1, VM.fLen, VM.fAbs, VM.fInt, VM.fList, VM.fListM, VM.fTuple, VM.fSum, VM.fAll, VM.fAny, VM.fIsi, VM.bLen, VM.seqOf, VM.sq, VM.asL, VM.items, VM.isSeq, VM.truth, VM.opBin, VM.opAdd, VM.opSub, VM.opMul, VM.opFdiv, VM.opMod, VM.opPow, VM.opCm, VM.opEq, VM.frz, VM.isD, VM.eqv, VM.isNon, VM.kdOf, VM.D0, VM.turn, List.map_cons, List.map_nil, List.replicate_succ, List.replicate_zero, List.cons_append, List.nil_append, List.getElem?_cons_zero, List.getElem?_cons_succ, List.set_cons_zero, List.set_cons_succ, Nat.reduceSub, VM.wipe, List.length_cons, List.length_nil, Nat.reduceAdd, h1, hs, e0, e1, e2, e3, e4, hc1, hc2, decide_true, decide_false, Bool.false_eq_true, if_true, if_false, List.length_map]
      exact key
    · simp only [VM.sNil, VM.sCons, VM.sSet, VM.sPar, VM.sSetIx, VM.setIx, VM.sExpr, VM.sRet, VM.sRetN, VM.sIf, VM.sBreak, VM.sCont, VM.sFor, VM.gName, VM.gTup, VM.gEach, VM.eVar, VM.eC, VM.eBin, VM.eNeg, VM.eCmp, VM.eChain, VM.tOf, VM.tCmp, VM.tChain, VM.tAnd, VM.tOr, VM.tNot, VM.tYes, VM.eTest, VM.eAnd, VM.eOr, VM.eNot, VM.eIf, VM.aNil, VM.aCons, VM.eLst, VM.eLstM, VM.eTup, VM.eCall, VM.eIx, VM.getIx, VM.eSl, VM.getSl, VM.iE, VM.iRange1, VM.iRange2, VM.iZip, VM.iRev, VM.eComp, VM.eCompM, VM.eAppend, VM.eInsert, VM.eB1, VM.fLen, VM.fAbs, VM.fInt, VM.fList, VM.fListM, VM.fTuple, VM.fSum, VM.fAll, VM.fAny, VM.fIsi, VM.bLen, VM.seqOf, VM.sq, VM.asL, VM.items, VM.isSeq, VM.truth, VM.opBin, VM.opAdd, VM.opSub, VM.opMul, VM.opFdiv, VM.opMod, VM.opPow, VM.opCm, VM.opEq, VM.frz, VM.isD, VM.eqv, VM.isNon, VM.kdOf, VM.D0, VM.turn, List.map_cons, List.map_nil, List.replicate_succ, List.replicate_zero, List.cons_append, List.nil_append, List.getElem?_cons_zero, List.getElem?_cons_succ, List.set_cons_zero, List.set_cons_succ, Nat.reduceSub, VM.wipe, List.length_cons, List.length_nil, Nat.reduceAdd, h1, hs, e0, e1, e2, e3, e4, hc1, decide_false, Bool.false_eq_true, if_false, List.length_map]
      exact key
end VP
end
section
namespace VP
open VM
/-- draws at most c, then R -/
def Dr (cs : CS) (f : Nat) (args : List PV) (r c : Nat) (st : Store) (R : PV → Store → Prop) : Prop := ∀ (b : Nat) (k x : KV), Bag st r (b + c) → (∀ v st', R v st' → Bag st' r b → Keep r st st' → k v st') → cs f (.ref r :: args) st k x
def SpOf (cs : CS) : Prop := ∀ (r : Nat) (things : PV) (xs : List PV) (st : Store), asL st things = some xs → xs ≠ [] → things ≠ .ref r → (∀ j, things = .ref j → j < st.length) → Dr cs 2 [things] r 1 st fun v _ => v ∈ xs
theorem asL_keep {r : Nat} {st st' : Store} {u : PV} {xs : List PV} (h : asL st u = some xs) (hr : u ≠ .ref r) (k : Keep r st st') : asL st' u = some xs := by
  cases u <;> simp only [asL] at h ⊢ <;> try exact h
  rename_i i
  have hi : i < st.length := by
    cases e : st[i]? with
    | none => rw [e] at h; cases h
    | some o => exact (List.getElem?_eq_some_iff.mp e).1
  rw [k.2 i (fun z => hr (by rw [z])) hi]
  exact h
theorem bLen_asL {st : Store} {u : PV} {xs : List PV} (h : asL st u = some xs) : bLen u st = some xs.length := by
  cases u <;> simp only [asL] at h <;> first | (cases h; done) | skip
  · cases h; rfl
  · simp only [bLen, asL, h]
theorem getIx_asL {st : Store} {u : PV} {xs : List PV} {i : Int} {n : Nat} {y : PV} {k : KV} (h : asL st u = some xs) (hi : ix xs.length i = some n) (hy : xs[n]? = some y) (hk : k y st) : getIx u (.int i) st k := by
  have e : getIx u (.int i) st k = match asL st u with | some xs => (match ix xs.length i with | some n => (match xs[n]? with | some y => k y st | none => False) | none => False) | none => False := by
    cases u <;> simp only [asL] at h <;> first | (cases h; done) | rfl
  rw [e, h]
  simp only [hi, hy]
  exact hk
theorem ixN {n : Nat} {i : Int} (h0 : 0 ≤ i) (h : i < n) : ix n i = some i.toNat := by
  unfold ix
  rw [if_pos h0, if_pos h]
theorem of_at {FT : Nat → Option FD} {d : Nat} (hF : FT 2 = some ⟨2, 2, T__law_of⟩) (h1 : At FT d SpTake) : At FT (d + 1) SpOf := at_of hF h1 fun cs cs' tk go => by
  intro r things xs st hx hne hr hlt b k x hb hk
  refine go _ _ _ _ rfl ?_
  have hl : (0 : Int) < (xs.length : Int) := by
    cases xs with
    | nil => exact (hne rfl).elim
    | cons => simp
  simp only [T__law_of, VM.sRet, VM.eIx, VM.eCall, VM.aCons, VM.aNil, VM.eVar, VM.eB1, VM.fLen, List.map_cons, List.map_nil, List.cons_append, List.nil_append, List.getElem?_cons_zero, List.getElem?_cons_succ, bLen_asL hx]
  refine tk r _ hl st b _ _ hb fun v st' hv hb' kp => ?_
  obtain ⟨dd, rfl, d0, d1⟩ := hv
  have hi := ixN d0 (by simpa using d1)
  have hn : dd.toNat < xs.length := by omega
  exact getIx_asL (asL_keep hx hr kp) hi (List.getElem?_eq_getElem hn) (hk _ _ (List.getElem_mem hn) hb' kp)
def SpSmall (cs : CS) : Prop := ∀ (r : Nat) (st : Store), Dr cs 3 [] r 1 st fun v _ => ∃ c : Int, v = .int c ∧ c.natAbs ≤ 12
theorem small_at {FT : Nat → Option FD} {d : Nat} (hF : FT 3 = some ⟨1, 1, T__law_small⟩) (h1 : At FT d SpOf) : At FT (d + 1) SpSmall := at_of hF h1 fun cs cs' of go => by
  intro r st b k x hb hk
  refine go _ _ _ _ rfl ?_
  simp only [T__law_small, VM.sNil, VM.sCons, VM.sSet, VM.sPar, VM.sSetIx, VM.setIx, VM.sExpr, VM.sRet, VM.sRetN, VM.sIf, VM.sBreak, VM.sCont, VM.sFor, VM.gName, VM.gTup, VM.gEach, VM.eVar, VM.eC, VM.eBin, VM.eNeg, VM.eCmp, VM.eChain, VM.tOf, VM.tCmp, VM.tChain, VM.tAnd, VM.tOr, VM.tNot, VM.tYes, VM.eTest, VM.eAnd, VM.eOr, VM.eNot, VM.eIf, VM.aNil, VM.aCons, VM.eLst, VM.eLstM, VM.eTup, VM.eCall, VM.eIx, VM.getIx, VM.eSl, VM.getSl, VM.iE, VM.iRange1, VM.iRange2, VM.iZip, VM.iRev, VM.eComp, VM.eCompM, VM.eAppend, VM.eInsert, VM.eB1, VM.fLen, VM.fAbs, VM.fInt, VM.fList, VM.fListM, VM.fTuple, VM.fSum, VM.fAll, VM.fAny, VM.fIsi, VM.bLen, VM.seqOf, VM.sq, VM.asL, VM.items, VM.isSeq, VM.truth, VM.opBin, VM.opAdd, VM.opSub, VM.opMul, VM.opFdiv, VM.opMod, VM.opPow, VM.opCm, VM.opEq, VM.frz, VM.isD, VM.eqv, VM.isNon, VM.kdOf, VM.D0, VM.turn, List.map_cons, List.map_nil, List.replicate_succ, List.replicate_zero, List.cons_append, List.nil_append, List.getElem?_cons_zero, List.getElem?_cons_succ, List.set_cons_zero, List.set_cons_succ, Nat.reduceSub, VM.wipe, List.length_cons, List.length_nil, Nat.reduceAdd]
  refine ⟨by decide, ?_⟩
  refine of r (.lst _) _ st rfl (by simp) (by simp) (fun _ e => by cases e) b _ _ hb fun v st' hv hb' kp => ?_
  refine hk _ _ ?_ hb' kp
  simp only [List.mem_cons, List.not_mem_nil, or_false] at hv
  rcases hv with h | h | h | h | h | h | h | h | h | h | h | h <;> exact ⟨_, h, by decide⟩
def SpBig (cs : CS) : Prop := ∀ (r : Nat) (st : Store), Dr cs 4 [] r 2 st fun v _ => ∃ c : Int, v = .int c ∧ c.natAbs ≤ 1000
theorem big_at {FT : Nat → Option FD} {d : Nat} (hF : FT 4 = some ⟨1, 1, T__law_big_factor⟩) (h1 : At FT d SpTake) (h2 : At FT d SpSmall) : At FT (d + 1) SpBig := at_of (C := fun cs => SpTake cs ∧ SpSmall cs) hF (fun n hn => ⟨h1 n hn, h2 n hn⟩) fun cs cs' C go => by
  obtain ⟨tk, sm⟩ := C
  intro r st b k x hb hk
  refine go _ _ _ _ rfl ?_
  simp only [T__law_big_factor, VM.sNil, VM.sCons, VM.sSet, VM.sPar, VM.sSetIx, VM.setIx, VM.sExpr, VM.sRet, VM.sRetN, VM.sIf, VM.sBreak, VM.sCont, VM.sFor, VM.gName, VM.gTup, VM.gEach, VM.eVar, VM.eC, VM.eBin, VM.eNeg, VM.eCmp, VM.eChain, VM.tOf, VM.tCmp, VM.tChain, VM.tAnd, VM.tOr, VM.tNot, VM.tYes, VM.eTest, VM.eAnd, VM.eOr, VM.eNot, VM.eIf, VM.aNil, VM.aCons, VM.eLst, VM.eLstM, VM.eTup, VM.eCall, VM.eIx, VM.getIx, VM.eSl, VM.getSl, VM.iE, VM.iRange1, VM.iRange2, VM.iZip, VM.iRev, VM.eComp, VM.eCompM, VM.eAppend, VM.eInsert, VM.eB1, VM.fLen, VM.fAbs, VM.fInt, VM.fList, VM.fListM, VM.fTuple, VM.fSum, VM.fAll, VM.fAny, VM.fIsi, VM.bLen, VM.seqOf, VM.sq, VM.asL, VM.items, VM.isSeq, VM.truth, VM.opBin, VM.opAdd, VM.opSub, VM.opMul, VM.opFdiv, VM.opMod, VM.opPow, VM.opCm, VM.opEq, VM.frz, VM.isD, VM.eqv, VM.isNon, VM.kdOf, VM.D0, VM.turn, List.map_cons, List.map_nil, List.replicate_succ, List.replicate_zero, List.cons_append, List.nil_append, List.getElem?_cons_zero, List.getElem?_cons_succ, List.set_cons_zero, List.set_cons_succ, Nat.reduceSub, VM.wipe, List.length_cons, List.length_nil, Nat.reduceAdd]
  refine tk r 5 (by decide) st (b + 1) _ _ hb fun v st1 hv hb1 k1 => ?_
  obtain ⟨dd, rfl, d0, d1⟩ := hv
  simp only []
  by_cases h : (0 : Int) < dd
  · simp only [h, decide_true, if_true]
    exact sm r st1 b _ _ hb1 fun v st2 hv hb2 k2 => hk _ _ (by obtain ⟨c, rfl, hc⟩ := hv; exact ⟨c, rfl, by omega⟩) hb2 (k1.trans k2)
  · simp only [h, decide_false, Bool.false_eq_true, if_false]
    refine tk r 2001 (by decide) st1 b _ _ hb1 fun v st2 hv hb2 k2 => ?_
    obtain ⟨ee, rfl, e0, e1⟩ := hv
    simp only []
    exact hk _ _ ⟨_, rfl, by omega⟩ hb2 (k1.trans k2)
/-- rows of one length, no entry over B -/
def Rows (w : Nat) (B : Nat) (vs : List (List Int)) : Prop := ∀ v ∈ vs, v.length = w ∧ ∀ a ∈ v, a.natAbs ≤ B
theorem Rows.mono {w B B' : Nat} {vs : List (List Int)} (h : Rows w B vs) (hb : B ≤ B') : Rows w B' vs := fun v m => ⟨(h v m).1, fun a ha => Nat.le_trans ((h v m).2 a ha) hb⟩
/-- a list of draws -/
theorem comp_draw {cs : CS} {f r c B : Nat} {i : Nat} {own : List Nat} {ρ : Env} {st : Store} {b : Nat} {k : List PV → Store → Prop} (hf : ∀ st, Dr cs f [] r c st fun v _ => ∃ a : Int, v = .int a ∧ a.natAbs ≤ B) (xs : List PV) (hi : i ≠ 0) (hρ : ρ[0]? = some (some (.ref r)))
    (hl : xs.length ≤ SZ) (hb : Bag st r (b + xs.length * c)) (hk : ∀ (v : List Int) st', v.length = xs.length → (∀ a ∈ v, a.natAbs ≤ B) → Bag st' r b → Keep r st st' → k (pvis v) st') :
    compGo (gName i) tYes (eCall cs f (aCons (eVar 0) aNil)) own (fun _ => True) xs [] ρ st k := by
  refine comp_inv (fun rem acc st' => ∃ v : List Int, acc = pvis v ∧ v.length + rem.length = xs.length ∧ (∀ a ∈ v, a.natAbs ≤ B) ∧ Bag st' r (b + rem.length * c) ∧ Keep r st st') ?_ ?_ xs [] st ⟨[], rfl, by simp, by simp, hb, Keep.refl⟩
  · rintro v rem acc st' ⟨u, rfl, h2, h3, h4, h5⟩
    refine ⟨trivial, fun k' hk' => ?_⟩
    have e0 : (ρ.set i (some v))[0]? = some (some (.ref r)) := by rw [List.getElem?_set_ne hi]; exact hρ
    simp only [turn, gName, tYes, eCall, aCons, aNil, eVar, e0, if_true]
    rw [List.length_cons] at h2 h4
    refine hf st' (b + rem.length * c) _ _ (by rw [Nat.add_mul, Nat.one_mul, ← Nat.add_assoc] at h4; exact h4) fun y st2 hy hb2 k2 => ?_
    obtain ⟨a, rfl, ha⟩ := hy
    refine hk' _ _ ⟨by simp [pvis]; omega, u ++ [a], by simp [pvis], by rw [List.length_append, List.length_singleton]; omega, fun z hz => ?_, hb2, h5.trans k2⟩
    rcases List.mem_append.mp hz with hz | hz
    · exact h3 z hz
    · rw [List.mem_singleton.mp hz]; exact ha
  · rintro acc st' ⟨u, rfl, h2, h3, h4, h5⟩
    exact ⟨trivial, hk u st' (by simpa using h2) h3 (h4.le (by simp)) h5⟩
end VP
end
section
namespace VP
open VM
theorem isDL_ints {n : Nat} : ∀ v : List Int, isDL n (pvis v) = true
  | [] => by simp [pvis, isDL]
  | a :: v => by
    show isDL n (.int a :: pvis v) = true
    rw [isDL, isDL_ints v]
    simp [isD]
theorem isDL_itup {n : Nat} : ∀ vs : List (List Int), isDL (n + 1) (vs.map itup) = true
  | [] => by simp [isDL]
  | v :: vs => by
    rw [List.map_cons, isDL, isDL_itup vs, isD, isDL_ints v]
    simp
theorem isDL_ilst {n : Nat} : ∀ vs : List (List Int), isDL (n + 1) (vs.map ilst) = true
  | [] => by simp [isDL]
  | v :: vs => by
    rw [List.map_cons, isDL, isDL_ilst vs, isD, isDL_ints v]
    simp
def SpVecs (cs : CS) : Prop := ∀ (r many width : Nat) (st : Store), many ≤ 20 → width ≤ 20 → Dr cs 5 [.int many, .int width] r (many * (3 * width + 2)) st fun v st' => ∃ vs : List (List Int), v = .ref st.length ∧ st'[st.length]? = some (.lst (vs.map itup)) ∧ vs.length = many ∧ Rows width (1000 * 2 ^ many) vs
theorem ints_get {v : List Int} {i : Nat} {a : PV} (h : (pvis v)[i]? = some a) : ∃ z, a = .int z ∧ v[i]? = some z := by
  rw [List.getElem?_map] at h
  cases e : v[i]? with
  | none => rw [e] at h; cases h
  | some z => rw [e] at h; cases h; exact ⟨z, rfl, rfl⟩
theorem mem_ints {v : List Int} {a : PV} (h : a ∈ pvis v) : ∃ z, a = .int z ∧ z ∈ v := by
  obtain ⟨z, hz, rfl⟩ := List.mem_map.mp h
  exact ⟨z, rfl, hz⟩
theorem range_len (n : Nat) : ((List.range n).map fun (i : Nat) => PV.int (i : Int)).length = n := by simp
theorem mem_range {n : Nat} {v : PV} (h : v ∈ (List.range n).map fun (i : Nat) => PV.int (i : Int)) : ∃ i : Nat, i < n ∧ v = .int i := by
  obtain ⟨i, hi, rfl⟩ := List.mem_map.mp h
  exact ⟨i, List.mem_range.mp hi, rfl⟩
def vecsMid (cs : CS) : TS := (sCons (sIf (tCmp .eq (eVar 5) (eC (.int 1))) (sSet (gName 6) (eComp (iRange1 (eVar 2)) (gName 7) tYes (eIf (tCmp .lt (eVar 7) (eCall cs 1 (aCons (eVar 0) (aCons (eBin .add (eVar 2) (eC (.int 1))) aNil)))) (eC (.int 0)) (eIx (eVar 6) (eVar 7))) [7])) sNil)
          (sExpr (eAppend (eVar 3) (eB1 fTuple (eVar 6)))))
set_option maxHeartbeats 2000000 in
theorem vecs_at {FT : Nat → Option FD} {d : Nat} (hF : FT 5 = some ⟨3, 9, T__law_drawn_vectors⟩) (h1 : At FT d SpTake) (h2 : At FT d SpOf) (h3 : At FT d SpBig) : At FT (d + 1) SpVecs := at_of (C := fun cs => SpTake cs ∧ SpOf cs ∧ SpBig cs) hF (fun n hn => ⟨h1 n hn, h2 n hn, h3 n hn⟩) fun cs cs' C go => by
  obtain ⟨tk, of, bg⟩ := C
  intro r many width st0 hm hw b k x hb hk
  refine go _ _ _ _ rfl ?_
  have hr0 := hb.lt
  show (sCons (sSet (gName 3) (eLstM aNil)) (sCons (sFor (iRange1 (eVar 1)) (gName 4) _) (sRet (eVar 3)))) _ _ _
  simp only [VM.sNil, VM.sCons, VM.sSet, VM.sPar, VM.sSetIx, VM.setIx, VM.sExpr, VM.sRet, VM.sRetN, VM.sIf, VM.sBreak, VM.sCont, VM.sFor, VM.gName, VM.gTup, VM.gEach, VM.eVar, VM.eC, VM.eBin, VM.eNeg, VM.eCmp, VM.eChain, VM.tOf, VM.tCmp, VM.tChain, VM.tAnd, VM.tOr, VM.tNot, VM.tYes, VM.eTest, VM.eAnd, VM.eOr, VM.eNot, VM.eIf, VM.aNil, VM.aCons, VM.eLst, VM.eLstM, VM.eTup, VM.eCall, VM.eIx, VM.getIx, VM.eSl, VM.getSl, VM.iE, VM.iRange1, VM.iRange2, VM.iZip, VM.iRev, VM.eComp, VM.eCompM, VM.eAppend, VM.eInsert, VM.eB1, VM.fLen, VM.fAbs, VM.fInt, VM.fList, VM.fListM, VM.fTuple, VM.fSum, VM.fAll, VM.fAny, VM.fIsi, VM.bLen, VM.seqOf, VM.sq, VM.asL, VM.items, VM.isSeq, VM.truth, VM.opBin, VM.opAdd, VM.opSub, VM.opMul, VM.opFdiv, VM.opMod, VM.opPow, VM.opCm, VM.opEq, VM.frz, VM.isD, VM.eqv, VM.isNon, VM.kdOf, VM.D0, VM.turn, List.map_cons, List.map_nil, List.replicate_succ, List.replicate_zero, List.cons_append, List.nil_append, List.getElem?_cons_zero, List.getElem?_cons_succ, List.set_cons_zero, List.set_cons_succ, Nat.reduceSub, VM.wipe, List.length_cons, List.length_nil, Nat.reduceAdd, Int.toNat_natCast]
  refine ⟨by decide, by unfold i62; omega, ?_⟩
  generalize hj : st0.length = j at hk ⊢
  refine for_inv (fun rem ρ st => ∃ (a4 a5 a6 a7 a8 : Option PV) (vs : List (List Int)), ρ = [some (.ref r), some (.int many), some (.int width), some (.ref j), a4, a5, a6, a7, a8] ∧ Bag st r (b + rem.length * (3 * width + 2)) ∧ Keep r st0 st ∧ j < st.length ∧ st[j]? = some (.lst (vs.map itup)) ∧ vs.length + rem.length = many ∧ Rows width (1000 * 2 ^ vs.length) vs) ?_ ?_ _ _ _ ?_
  rotate_left
  · rintro ρ st ⟨a4, a5, a6, a7, a8, vs, rfl, q1, q2, q3, q4, q5, q6⟩
    refine ⟨trivial, ?_⟩
    have e5 : vs.length = many := by simpa using q5
    simp only [VM.sNil, VM.sCons, VM.sSet, VM.sPar, VM.sSetIx, VM.setIx, VM.sExpr, VM.sRet, VM.sRetN, VM.sIf, VM.sBreak, VM.sCont, VM.sFor, VM.gName, VM.gTup, VM.gEach, VM.eVar, VM.eC, VM.eBin, VM.eNeg, VM.eCmp, VM.eChain, VM.tOf, VM.tCmp, VM.tChain, VM.tAnd, VM.tOr, VM.tNot, VM.tYes, VM.eTest, VM.eAnd, VM.eOr, VM.eNot, VM.eIf, VM.aNil, VM.aCons, VM.eLst, VM.eLstM, VM.eTup, VM.eCall, VM.eIx, VM.getIx, VM.eSl, VM.getSl, VM.iE, VM.iRange1, VM.iRange2, VM.iZip, VM.iRev, VM.eComp, VM.eCompM, VM.eAppend, VM.eInsert, VM.eB1, VM.fLen, VM.fAbs, VM.fInt, VM.fList, VM.fListM, VM.fTuple, VM.fSum, VM.fAll, VM.fAny, VM.fIsi, VM.bLen, VM.seqOf, VM.sq, VM.asL, VM.items, VM.isSeq, VM.truth, VM.opBin, VM.opAdd, VM.opSub, VM.opMul, VM.opFdiv, VM.opMod, VM.opPow, VM.opCm, VM.opEq, VM.frz, VM.isD, VM.eqv, VM.isNon, VM.kdOf, VM.D0, VM.turn, List.map_cons, List.map_nil, List.replicate_succ, List.replicate_zero, List.cons_append, List.nil_append, List.getElem?_cons_zero, List.getElem?_cons_succ, List.set_cons_zero, List.set_cons_succ, Nat.reduceSub, VM.wipe, List.length_cons, List.length_nil, Nat.reduceAdd]
    exact hk _ _ ⟨vs, rfl, q4, e5, e5 ▸ q6⟩ (q1.le (by simp)) q2
  · refine ⟨_, _, _, _, _, [], rfl, by rw [range_len]; exact hb.app, Keep.app, by simp [hj], by rw [← hj]; simp, by simp, fun v m => by cases m⟩
  · rintro v rem ρ st ⟨a4, a5, a6, a7, a8, vs, rfl, q1, q2, q3, q4, q5, q6⟩
    refine ⟨trivial, fun D' d1 d2 d3 d4 d5 => ?_⟩
    rw [List.length_cons] at q5 q1
    have q1' : Bag st r (b + rem.length * (3 * width + 2) + width + 1 + (2 * width) + 1) := q1.le (by rw [Nat.add_mul]; omega)
    have hjr : j ≠ r := by omega
    -- the last step
    have fin : ∀ (row : List Int) (st1 : Store) (p5 p7 p8 : Option PV), row.length = width → (∀ a ∈ row, a.natAbs ≤ 1000 * 2 ^ (vs.length + 1)) → Bag st1 r (b + rem.length * (3 * width + 2)) → Keep r st st1 →
        sExpr (eAppend (eVar 3) (eB1 fTuple (eVar 6))) D' [some (.ref r), some (.int many), some (.int width), some (.ref j), some v, p5, some (.lst (pvis row)), p7, p8] st1 := by
      intro row st1 p5 p7 p8 hr hB hb1 k1
      have ej : st1[j]? = some (.lst (vs.map itup)) := (k1.2 j hjr q3).trans q4
      simp only [VM.sNil, VM.sCons, VM.sSet, VM.sPar, VM.sSetIx, VM.setIx, VM.sExpr, VM.sRet, VM.sRetN, VM.sIf, VM.sBreak, VM.sCont, VM.sFor, VM.gName, VM.gTup, VM.gEach, VM.eVar, VM.eC, VM.eBin, VM.eNeg, VM.eCmp, VM.eChain, VM.tOf, VM.tCmp, VM.tChain, VM.tAnd, VM.tOr, VM.tNot, VM.tYes, VM.eTest, VM.eAnd, VM.eOr, VM.eNot, VM.eIf, VM.aNil, VM.aCons, VM.eLst, VM.eLstM, VM.eTup, VM.eCall, VM.eIx, VM.getIx, VM.eSl, VM.getSl, VM.iE, VM.iRange1, VM.iRange2, VM.iZip, VM.iRev, VM.eComp, VM.eCompM, VM.eAppend, VM.eInsert, VM.eB1, VM.fLen, VM.fAbs, VM.fInt, VM.fList, VM.fListM, VM.fTuple, VM.fSum, VM.fAll, VM.fAny, VM.fIsi, VM.bLen, VM.seqOf, VM.sq, VM.asL, VM.items, VM.isSeq, VM.truth, VM.opBin, VM.opAdd, VM.opSub, VM.opMul, VM.opFdiv, VM.opMod, VM.opPow, VM.opCm, VM.opEq, VM.frz, VM.isD, VM.eqv, VM.isNon, VM.kdOf, VM.D0, VM.turn, List.map_cons, List.map_nil, List.replicate_succ, List.replicate_zero, List.cons_append, List.nil_append, List.getElem?_cons_zero, List.getElem?_cons_succ, List.set_cons_zero, List.set_cons_succ, Nat.reduceSub, VM.wipe, List.length_cons, List.length_nil, Nat.reduceAdd, ej]
      refine ⟨rfl, by rw [List.length_map]; show _ < 16777216; omega, d4 _ _ ⟨_, _, _, _, _, vs ++ [row], rfl, ?_, ⟨by rw [List.length_set]; exact (q2.trans k1).1, fun i hi hl => by rw [List.getElem?_set_ne (by omega)]; exact (q2.trans k1).2 i hi hl⟩, ?_, ?_, ?_, ?_⟩⟩
      · obtain ⟨c, i, dg, m, t, g1, g2⟩ := hb1
        exact ⟨c, i, dg, m, t, by rw [List.getElem?_set_ne hjr]; exact g1, g2⟩
      · rw [List.length_set]; exact Nat.lt_of_lt_of_le q3 k1.1
      · rw [set_self ej, List.map_append]
        rfl
      · rw [List.length_append, List.length_singleton]; omega
      · rw [List.length_append, List.length_singleton]
        intro u mu
        rcases List.mem_append.mp mu with mu | mu
        · exact ((q6.mono (Nat.mul_le_mul_left _ (Nat.pow_le_pow_right (by decide) (Nat.le_succ _)))) u mu)
        · rw [List.mem_singleton.mp mu]; exact ⟨hr, hB⟩
    -- the step of kind 1
    have mid : ∀ (row : List Int) (st1 : Store) (kind : Int) (p7 p8 : Option PV), row.length = width → (∀ a ∈ row, a.natAbs ≤ 1000 * 2 ^ (vs.length + 1)) → Bag st1 r (b + rem.length * (3 * width + 2) + width) → Keep r st st1 →
        vecsMid cs D' [some (.ref r), some (.int many), some (.int width), some (.ref j), some v, some (.int kind), some (.lst (pvis row)), p7, p8] st1 := by
      intro row st1 kind p7 p8 hr hB hb1 k1
      simp only [vecsMid, sCons, sIf, tCmp, eVar, eC, opCm, opEq, frz, isD, eqv, List.getElem?_cons_zero, List.getElem?_cons_succ]
      refine ⟨trivial, trivial, ?_⟩
      by_cases hk1 : (kind == 1) = true
      · rw [if_pos hk1]
        simp only [VM.sNil, VM.sCons, VM.sSet, VM.sPar, VM.sSetIx, VM.setIx, VM.sExpr, VM.sRet, VM.sRetN, VM.sIf, VM.sBreak, VM.sCont, VM.sFor, VM.gName, VM.gTup, VM.gEach, VM.eVar, VM.eC, VM.eBin, VM.eNeg, VM.eCmp, VM.eChain, VM.tOf, VM.tCmp, VM.tChain, VM.tAnd, VM.tOr, VM.tNot, VM.tYes, VM.eTest, VM.eAnd, VM.eOr, VM.eNot, VM.eIf, VM.aNil, VM.aCons, VM.eLst, VM.eLstM, VM.eTup, VM.eCall, VM.eIx, VM.getIx, VM.eSl, VM.getSl, VM.iE, VM.iRange1, VM.iRange2, VM.iZip, VM.iRev, VM.eComp, VM.eCompM, VM.eAppend, VM.eInsert, VM.eB1, VM.fLen, VM.fAbs, VM.fInt, VM.fList, VM.fListM, VM.fTuple, VM.fSum, VM.fAll, VM.fAny, VM.fIsi, VM.bLen, VM.seqOf, VM.sq, VM.asL, VM.items, VM.isSeq, VM.truth, VM.opBin, VM.opAdd, VM.opSub, VM.opMul, VM.opFdiv, VM.opMod, VM.opPow, VM.opCm, VM.opEq, VM.frz, VM.isD, VM.eqv, VM.isNon, VM.kdOf, VM.D0, VM.turn, List.map_cons, List.map_nil, List.replicate_succ, List.replicate_zero, List.cons_append, List.nil_append, List.getElem?_cons_zero, List.getElem?_cons_succ, List.set_cons_zero, List.set_cons_succ, Nat.reduceSub, VM.wipe, List.length_cons, List.length_nil, Nat.reduceAdd, Int.toNat_natCast]
        refine ⟨by unfold i62; omega, ?_⟩
        refine comp_inv (fun rm acc st' => ∃ u : List Int, acc = pvis u ∧ u.length + rm.length = width ∧ (∀ a ∈ u, a.natAbs ≤ 1000 * 2 ^ (vs.length + 1)) ∧ (∀ y ∈ rm, ∃ i : Nat, i < width ∧ y = .int i) ∧ Bag st' r (b + rem.length * (3 * width + 2) + rm.length) ∧ Keep r st1 st') ?_ ?_ _ [] st1 ⟨[], rfl, by simp, by simp, fun y hy => mem_range hy, by rw [range_len]; exact hb1, Keep.refl⟩
        · rintro y rm acc st2 ⟨u, rfl, g1, g2, g3, g4, g5⟩
          refine ⟨trivial, fun k' hk' => ?_⟩
          obtain ⟨i, hi, rfl⟩ := g3 y (List.mem_cons_self ..)
          rw [List.length_cons] at g1 g4
          simp only [VM.sNil, VM.sCons, VM.sSet, VM.sPar, VM.sSetIx, VM.setIx, VM.sExpr, VM.sRet, VM.sRetN, VM.sIf, VM.sBreak, VM.sCont, VM.sFor, VM.gName, VM.gTup, VM.gEach, VM.eVar, VM.eC, VM.eBin, VM.eNeg, VM.eCmp, VM.eChain, VM.tOf, VM.tCmp, VM.tChain, VM.tAnd, VM.tOr, VM.tNot, VM.tYes, VM.eTest, VM.eAnd, VM.eOr, VM.eNot, VM.eIf, VM.aNil, VM.aCons, VM.eLst, VM.eLstM, VM.eTup, VM.eCall, VM.eIx, VM.getIx, VM.eSl, VM.getSl, VM.iE, VM.iRange1, VM.iRange2, VM.iZip, VM.iRev, VM.eComp, VM.eCompM, VM.eAppend, VM.eInsert, VM.eB1, VM.fLen, VM.fAbs, VM.fInt, VM.fList, VM.fListM, VM.fTuple, VM.fSum, VM.fAll, VM.fAny, VM.fIsi, VM.bLen, VM.seqOf, VM.sq, VM.asL, VM.items, VM.isSeq, VM.truth, VM.opBin, VM.opAdd, VM.opSub, VM.opMul, VM.opFdiv, VM.opMod, VM.opPow, VM.opCm, VM.opEq, VM.frz, VM.isD, VM.eqv, VM.isNon, VM.kdOf, VM.D0, VM.turn, List.map_cons, List.map_nil, List.replicate_succ, List.replicate_zero, List.cons_append, List.nil_append, List.getElem?_cons_zero, List.getElem?_cons_succ, List.set_cons_zero, List.set_cons_succ, Nat.reduceSub, VM.wipe, List.length_cons, List.length_nil, Nat.reduceAdd, if_true]
          refine tk r ((width : Int) + 1) (by omega) st2 _ _ _ (by rw [← Nat.add_assoc] at g4; exact g4) fun z st3 hz hb3 k3 => ?_
          obtain ⟨dd, rfl, e0, e1⟩ := hz
          have ok : ∀ a : Int, a.natAbs ≤ 1000 * 2 ^ (vs.length + 1) → k' (some (.int a)) st3 := fun a ha => hk' _ _ ⟨by rw [List.length_map]; show _ < 16777216; omega, u ++ [a], by simp [pvis], by rw [List.length_append, List.length_singleton]; omega, fun w' hw' => by
            rcases List.mem_append.mp hw' with hw' | hw'
            · exact g2 w' hw'
            · rw [List.mem_singleton.mp hw']; exact ha, fun y hy => g3 y (List.mem_cons_of_mem _ hy), hb3, g5.trans k3⟩
          simp only []
          by_cases hlt : (i : Int) < dd
          · simp only [hlt, decide_true, if_true]
            exact ok 0 (by simp)
          · have hir : i < row.length := hr.symm ▸ hi
            have er : row[i]? = some row[i] := List.getElem?_eq_getElem hir
            have ei : ix row.length (i : Int) = some i := by rw [ixN (by omega) (by omega)]; simp
            simp only [hlt, decide_false, Bool.false_eq_true, if_false, List.length_map, ei, List.getElem?_map, er, Option.map_some]
            exact ok _ (hB _ (List.getElem_mem _))
        · rintro acc st2 ⟨u, rfl, g1, g2, g3, g4, g5⟩
          exact ⟨trivial, fin u st2 _ _ _ (by simpa using g1) g2 (g4.le (by simp)) (k1.trans g5)⟩
      · rw [if_neg hk1]
        exact fin row st1 _ _ _ hr hB (hb1.le (by omega)) k1
    show gName 4 v _ st _
    show (sCons (sSet (gName 5) (eCall cs 1 _)) (sCons (sSet (gName 6) (eComp (iRange1 (eVar 2)) (gName 7) tYes (eCall cs 4 (aCons (eVar 0) aNil)) [7])) (sCons (sIf _ _ sNil) (vecsMid cs)))) _ _ _
    simp only [sCons, sSet, eCall, aCons, aNil, eVar, eC, List.set_cons_succ, List.set_cons_zero, List.getElem?_cons_zero, List.getElem?_cons_succ]
    refine tk r 5 (by decide) st _ _ _ q1' fun z st1 hz hb1 k1 => ?_
    obtain ⟨kind, rfl, e0, e1⟩ := hz
    simp only [gName, eComp, iRange1, eVar, wipe, List.set_cons_succ, List.set_cons_zero, List.getElem?_cons_zero, List.getElem?_cons_succ, Int.toNat_natCast]
    refine ⟨by unfold i62; omega, ?_⟩
    refine comp_draw (cs := cs) (r := r) (c := 2) (B := 1000) (b := b + rem.length * (3 * width + 2) + width + 1) (fun st => bg r st) _ (by decide) rfl (by rw [range_len]; show _ ≤ 16777216; omega) (by rw [range_len]; exact hb1.le (by omega)) fun row st2 hl2 hB2 hb2 k2 => ?_
    rw [range_len] at hl2
    have hB2' : ∀ a ∈ row, a.natAbs ≤ 1000 * 2 ^ (vs.length + 1) := fun a ha => Nat.le_trans (hB2 a ha) (Nat.le_mul_of_pos_right _ (Nat.two_pow_pos _))
    have ej2 : st2[j]? = some (.lst (vs.map itup)) := ((k1.trans k2).2 j hjr q3).trans q4
    simp only [gName, sCons, sIf, sNil, tAnd, tCmp, eVar, eC, eLst, aNil, opCm, opEq, frz, isD, eqv, gName, List.set_cons_succ, List.set_cons_zero, List.getElem?_cons_zero, List.getElem?_cons_succ, ej2]
    refine ⟨trivial, trivial, ?_⟩
    by_cases hk0 : (kind == 0) = true
    · rw [if_pos hk0]
      refine ⟨by decide, isDL_itup vs, by simp [isDL], ?_⟩
      by_cases hv : vs = []
      · subst hv
        exact mid row st2 kind _ _ hl2 hB2' (hb2.le (by omega)) (k1.trans k2)
      · have e1 : eqvL (vs.map itup) [] = false := by
          cases vs with
          | nil => exact (hv rfl).elim
          | cons => rfl
        rw [e1]
        simp only [Bool.not_false, if_true, sSet, eComp, iE, eCall, aCons, aNil, eVar, gName, List.set_cons_succ, List.set_cons_zero, List.getElem?_cons_zero, List.getElem?_cons_succ]
        refine of r (.ref j) (vs.map itup) st2 (by simp [asL, ej2]) (by simpa using hv) (by simp [hjr]) (fun i e => by cases e; exact (List.getElem?_eq_some_iff.mp ej2).1) _ _ _ (hb2.le (b' := b + rem.length * (3 * width + 2) + width + 1) (by omega)) fun z st3 hz hb3 k3 => ?_
        obtain ⟨u, hu, rfl⟩ := List.mem_map.mp hz
        simp only [items, isSeq, wipe, List.set_cons_succ, List.set_cons_zero]
        refine ⟨trivial, ?_⟩
        obtain ⟨lu, bu⟩ := q6 u hu
        refine comp_map (fun y => match y with | .int a => .int (2 * a) | y => y) trivial _ (fun y hy k' hk' => ?_) (by rw [List.length_map]; show _ ≤ 16777216; omega) ?_
        · obtain ⟨a, rfl, ha⟩ := mem_ints hy
          have hba := bu a ha
          have hp : 1000 * 2 ^ vs.length ≤ 1000 * 2 ^ 20 := Nat.mul_le_mul_left _ (Nat.pow_le_pow_right (by decide) (by omega))
          simp only [turn, gName, tYes, eBin, eC, eVar, opBin, opMul, List.set_cons_succ, List.set_cons_zero, List.getElem?_cons_zero, List.getElem?_cons_succ, if_true]
          exact ⟨mulOk64 (by decide) (by omega), hk'⟩
        · have em : (pvis u).map (fun y => match y with | .int a => .int (2 * a) | y => y) = pvis (u.map fun a => 2 * a) := by simp [pvis]
          rw [em]
          refine mid (u.map fun a => 2 * a) st3 kind _ _ (by rw [List.length_map]; exact lu) (fun a ha => ?_) (hb3.le (by omega)) ((k1.trans k2).trans k3)
          obtain ⟨a', ha', rfl⟩ := List.mem_map.mp ha
          have := bu a' ha'
          rw [Nat.pow_succ]
          omega
    · rw [if_neg hk0, if_neg Bool.false_ne_true]
      exact mid row st2 kind _ _ hl2 hB2' (hb2.le (by omega)) (k1.trans k2)
end VP
end
section
namespace VP
open VM
def SpBag0 (cs : CS) : Prop := ∀ (is : List Int) (st : Store) (k x : KV), is.length ≤ 63 → (∀ st', Bag st' st.length (2 ^ 59) → st'.length = st.length + 1 → (∀ i, i < st.length → st'[i]? = st[i]?) → k (.ref st.length) st') → cs 0 [.scr is] st k x
theorem fmodB (a : Int) : (a.fmod M0).natAbs < 2 ^ 63 := by
  have h := fmodM a
  have e : (M0 : Int) = 2147483549 := rfl
  omega
theorem take63 (is : List Int) (h : is.length ≤ 63) : slc (pvis is) none (some 63) = pvis is := by
  unfold slc cutIx
  simp only [List.drop_zero, Nat.sub_zero]
  rw [if_neg (by decide)]
  exact List.take_of_length_le (by rw [List.length_map]; show _ ≤ min 63 is.length; omega)
set_option maxHeartbeats 2000000 in
theorem bag_at {FT : Nat → Option FD} (hF : FT 0 = some ⟨1, 4, T__law_bag⟩) : At FT 1 SpBag0 := at_of (C := fun _ => True) hF (fun _ _ => trivial) fun cs cs' _ go => by
  intro is st k x hl hk
  refine go _ _ _ _ rfl ?_
  simp only [T__law_bag, VM.sNil, VM.sCons, VM.sSet, VM.sPar, VM.sSetIx, VM.setIx, VM.sExpr, VM.sRet, VM.sRetN, VM.sIf, VM.sBreak, VM.sCont, VM.sFor, VM.gName, VM.gTup, VM.gEach, VM.eVar, VM.eC, VM.eBin, VM.eNeg, VM.eCmp, VM.eChain, VM.tOf, VM.tCmp, VM.tChain, VM.tAnd, VM.tOr, VM.tNot, VM.tYes, VM.eTest, VM.eAnd, VM.eOr, VM.eNot, VM.eIf, VM.aNil, VM.aCons, VM.eLst, VM.eLstM, VM.eTup, VM.eCall, VM.eIx, VM.getIx, VM.eSl, VM.getSl, VM.iE, VM.iRange1, VM.iRange2, VM.iZip, VM.iRev, VM.eComp, VM.eCompM, VM.eAppend, VM.eInsert, VM.eB1, VM.fLen, VM.fAbs, VM.fInt, VM.fList, VM.fListM, VM.fTuple, VM.fSum, VM.fAll, VM.fAny, VM.fIsi, VM.bLen, VM.seqOf, VM.sq, VM.asL, VM.items, VM.isSeq, VM.truth, VM.opBin, VM.opAdd, VM.opSub, VM.opMul, VM.opFdiv, VM.opMod, VM.opPow, VM.opCm, VM.opEq, VM.frz, VM.isD, VM.eqv, VM.isNon, VM.kdOf, VM.D0, VM.turn, List.map_cons, List.map_nil, List.replicate_succ, List.replicate_zero, List.cons_append, List.nil_append, List.getElem?_cons_zero, List.getElem?_cons_succ, List.set_cons_zero, List.set_cons_succ, Nat.reduceSub, VM.wipe, List.length_cons, List.length_nil, Nat.reduceAdd, take63 is hl]
  refine ⟨trivial, comp_map (fun v => v) trivial _ (fun v hv k' hk' => ?_) (by rw [List.length_map]; show _ ≤ 16777216; omega) ?_⟩
  · obtain ⟨a, rfl, _⟩ := mem_ints hv
    simp only [VM.sNil, VM.sCons, VM.sSet, VM.sPar, VM.sSetIx, VM.setIx, VM.sExpr, VM.sRet, VM.sRetN, VM.sIf, VM.sBreak, VM.sCont, VM.sFor, VM.gName, VM.gTup, VM.gEach, VM.eVar, VM.eC, VM.eBin, VM.eNeg, VM.eCmp, VM.eChain, VM.tOf, VM.tCmp, VM.tChain, VM.tAnd, VM.tOr, VM.tNot, VM.tYes, VM.eTest, VM.eAnd, VM.eOr, VM.eNot, VM.eIf, VM.aNil, VM.aCons, VM.eLst, VM.eLstM, VM.eTup, VM.eCall, VM.eIx, VM.getIx, VM.eSl, VM.getSl, VM.iE, VM.iRange1, VM.iRange2, VM.iZip, VM.iRev, VM.eComp, VM.eCompM, VM.eAppend, VM.eInsert, VM.eB1, VM.fLen, VM.fAbs, VM.fInt, VM.fList, VM.fListM, VM.fTuple, VM.fSum, VM.fAll, VM.fAny, VM.fIsi, VM.bLen, VM.seqOf, VM.sq, VM.asL, VM.items, VM.isSeq, VM.truth, VM.opBin, VM.opAdd, VM.opSub, VM.opMul, VM.opFdiv, VM.opMod, VM.opPow, VM.opCm, VM.opEq, VM.frz, VM.isD, VM.eqv, VM.isNon, VM.kdOf, VM.D0, VM.turn, List.map_cons, List.map_nil, List.replicate_succ, List.replicate_zero, List.cons_append, List.nil_append, List.getElem?_cons_zero, List.getElem?_cons_succ, List.set_cons_zero, List.set_cons_succ, Nat.reduceSub, VM.wipe, List.length_cons, List.length_nil, Nat.reduceAdd, if_true]
    exact hk'
  · rw [List.map_id']
    simp only [VM.sNil, VM.sCons, VM.sSet, VM.sPar, VM.sSetIx, VM.setIx, VM.sExpr, VM.sRet, VM.sRetN, VM.sIf, VM.sBreak, VM.sCont, VM.sFor, VM.gName, VM.gTup, VM.gEach, VM.eVar, VM.eC, VM.eBin, VM.eNeg, VM.eCmp, VM.eChain, VM.tOf, VM.tCmp, VM.tChain, VM.tAnd, VM.tOr, VM.tNot, VM.tYes, VM.eTest, VM.eAnd, VM.eOr, VM.eNot, VM.eIf, VM.aNil, VM.aCons, VM.eLst, VM.eLstM, VM.eTup, VM.eCall, VM.eIx, VM.getIx, VM.eSl, VM.getSl, VM.iE, VM.iRange1, VM.iRange2, VM.iZip, VM.iRev, VM.eComp, VM.eCompM, VM.eAppend, VM.eInsert, VM.eB1, VM.fLen, VM.fAbs, VM.fInt, VM.fList, VM.fListM, VM.fTuple, VM.fSum, VM.fAll, VM.fAny, VM.fIsi, VM.bLen, VM.seqOf, VM.sq, VM.asL, VM.items, VM.isSeq, VM.truth, VM.opBin, VM.opAdd, VM.opSub, VM.opMul, VM.opFdiv, VM.opMod, VM.opPow, VM.opCm, VM.opEq, VM.frz, VM.isD, VM.eqv, VM.isNon, VM.kdOf, VM.D0, VM.turn, List.map_cons, List.map_nil, List.replicate_succ, List.replicate_zero, List.cons_append, List.nil_append, List.getElem?_cons_zero, List.getElem?_cons_succ, List.set_cons_zero, List.set_cons_succ, Nat.reduceSub, VM.wipe, List.length_cons, List.length_nil, Nat.reduceAdd, List.length_map]
    refine ⟨mulOk64 (by decide) (by omega), trivial, ?_⟩
    refine for_inv (fun rem ρ st' => ∃ (m : Int) (a2 : Option PV), ρ = [some (.scr is), some (.lst (pvis is)), a2, some (.int m)] ∧ 0 ≤ m ∧ m < M0 ∧ st' = st ∧ ∀ y ∈ rem, ∃ z, y = .int z) ?_ ?_ _ _ _ ⟨_, _, rfl, by omega, by show _ < (2147483549 : Int); omega, rfl, fun y hy => by obtain ⟨z, rfl, _⟩ := mem_ints hy; exact ⟨z, rfl⟩⟩
    · rintro v rem ρ st' ⟨m, a2, rfl, m0, m1, rfl, hz⟩
      refine ⟨trivial, fun D' d1 d2 d3 d4 d5 => ?_⟩
      obtain ⟨z, rfl⟩ := hz _ (List.mem_cons_self ..)
      simp only [VM.sNil, VM.sCons, VM.sSet, VM.sPar, VM.sSetIx, VM.setIx, VM.sExpr, VM.sRet, VM.sRetN, VM.sIf, VM.sBreak, VM.sCont, VM.sFor, VM.gName, VM.gTup, VM.gEach, VM.eVar, VM.eC, VM.eBin, VM.eNeg, VM.eCmp, VM.eChain, VM.tOf, VM.tCmp, VM.tChain, VM.tAnd, VM.tOr, VM.tNot, VM.tYes, VM.eTest, VM.eAnd, VM.eOr, VM.eNot, VM.eIf, VM.aNil, VM.aCons, VM.eLst, VM.eLstM, VM.eTup, VM.eCall, VM.eIx, VM.getIx, VM.eSl, VM.getSl, VM.iE, VM.iRange1, VM.iRange2, VM.iZip, VM.iRev, VM.eComp, VM.eCompM, VM.eAppend, VM.eInsert, VM.eB1, VM.fLen, VM.fAbs, VM.fInt, VM.fList, VM.fListM, VM.fTuple, VM.fSum, VM.fAll, VM.fAny, VM.fIsi, VM.bLen, VM.seqOf, VM.sq, VM.asL, VM.items, VM.isSeq, VM.truth, VM.opBin, VM.opAdd, VM.opSub, VM.opMul, VM.opFdiv, VM.opMod, VM.opPow, VM.opCm, VM.opEq, VM.frz, VM.isD, VM.eqv, VM.isNon, VM.kdOf, VM.D0, VM.turn, List.map_cons, List.map_nil, List.replicate_succ, List.replicate_zero, List.cons_append, List.nil_append, List.getElem?_cons_zero, List.getElem?_cons_succ, List.set_cons_zero, List.set_cons_succ, Nat.reduceSub, VM.wipe, List.length_cons, List.length_nil, Nat.reduceAdd]
      refine ⟨mulOk64 (nat_lt_pow m0 m1) (by decide), by decide, d4 _ _ ⟨_, _, rfl, (fmodM _).1, (fmodM _).2, rfl, fun y hy => hz y (List.mem_cons_of_mem _ hy)⟩⟩
    · rintro ρ st' ⟨m, a2, rfl, m0, m1, rfl, hz⟩
      refine ⟨trivial, ?_⟩
      simp only [VM.sNil, VM.sCons, VM.sSet, VM.sPar, VM.sSetIx, VM.setIx, VM.sExpr, VM.sRet, VM.sRetN, VM.sIf, VM.sBreak, VM.sCont, VM.sFor, VM.gName, VM.gTup, VM.gEach, VM.eVar, VM.eC, VM.eBin, VM.eNeg, VM.eCmp, VM.eChain, VM.tOf, VM.tCmp, VM.tChain, VM.tAnd, VM.tOr, VM.tNot, VM.tYes, VM.eTest, VM.eAnd, VM.eOr, VM.eNot, VM.eIf, VM.aNil, VM.aCons, VM.eLst, VM.eLstM, VM.eTup, VM.eCall, VM.eIx, VM.getIx, VM.eSl, VM.getSl, VM.iE, VM.iRange1, VM.iRange2, VM.iZip, VM.iRev, VM.eComp, VM.eCompM, VM.eAppend, VM.eInsert, VM.eB1, VM.fLen, VM.fAbs, VM.fInt, VM.fList, VM.fListM, VM.fTuple, VM.fSum, VM.fAll, VM.fAny, VM.fIsi, VM.bLen, VM.seqOf, VM.sq, VM.asL, VM.items, VM.isSeq, VM.truth, VM.opBin, VM.opAdd, VM.opSub, VM.opMul, VM.opFdiv, VM.opMod, VM.opPow, VM.opCm, VM.opEq, VM.frz, VM.isD, VM.eqv, VM.isNon, VM.kdOf, VM.D0, VM.turn, List.map_cons, List.map_nil, List.replicate_succ, List.replicate_zero, List.cons_append, List.nil_append, List.getElem?_cons_zero, List.getElem?_cons_succ, List.set_cons_zero, List.set_cons_succ, Nat.reduceSub, VM.wipe, List.length_cons, List.length_nil, Nat.reduceAdd]
      refine ⟨by decide, hk _ ⟨is, 0, 0, m, 0, by simp [bagL], hl, by omega, m0, m1, by decide⟩ (by simp) fun i hi => List.getElem?_append_left hi⟩
def SpMixed (cs : CS) : Prop := ∀ (r : Nat) (things : PV) (xs : List PV) (st : Store), asL st things = some xs → things ≠ .ref r → xs.length ≤ 1000 → Dr cs 17 [things] r xs.length st fun v st' => ∃ ys : List PV, v = .ref st.length ∧ st'[st.length]? = some (.lst ys) ∧ ys.Perm xs
theorem items_asL {st : Store} {u : PV} {xs : List PV} (h : asL st u = some xs) : items st u = some xs ∧ isSeq st u = true := by
  cases u <;> simp only [asL] at h <;> first | (cases h; done) | skip
  · cases h; exact ⟨rfl, rfl⟩
  · rename_i i
    cases e : st[i]? with
    | none => rw [e] at h; cases h
    | some o =>
      rw [e] at h
      cases o <;> first | (cases h; done) | skip
      cases h
      simp only [items, isSeq, e]
      exact ⟨trivial, trivial⟩
theorem stays_keep {r : Nat} {st st0 st' : Store} {u : PV} {xs : List PV} (h : asL st u = some xs) (hr : u ≠ .ref r) (hs : ∀ i, i ≠ r → i < st.length → st'[i]? = st[i]?) (h0 : ∀ i, i < st.length → st0[i]? = st[i]?) : stays st0 u st' := by
  cases u <;> simp only [asL] at h <;> first | (cases h; done) | skip
  · trivial
  · rename_i i
    have hi : i < st.length := by
      cases e : st[i]? with
      | none => rw [e] at h; cases h
      | some o => exact (List.getElem?_eq_some_iff.mp e).1
    exact (hs i (fun z => hr (by rw [z])) hi).trans (h0 i hi).symm
theorem Bag.put {st : Store} {r b j : Nat} {o : SO} (h : Bag st r b) (hj : j ≠ r) : Bag (st.set j o) r b := by
  obtain ⟨c, i, dg, m, t, g1, g2⟩ := h
  exact ⟨c, i, dg, m, t, by rw [List.getElem?_set_ne hj]; exact g1, g2⟩
/-- an object made since is changed -/
theorem Keep.put {r j : Nat} {st st' : Store} {o : SO} (k : Keep r st st') (hj : st.length ≤ j) : Keep r st (st'.set j o) := ⟨by rw [List.length_set]; exact k.1, fun i hi hl => by rw [List.getElem?_set_ne (by omega)]; exact k.2 i hi hl⟩
set_option maxHeartbeats 2000000 in
theorem mixed_at {FT : Nat → Option FD} {d : Nat} (hF : FT 17 = some ⟨2, 4, T__law_mixed⟩) (h1 : At FT d SpTake) : At FT (d + 1) SpMixed := at_of hF h1 fun cs cs' tk go => by
  intro r things xs st hx hr hl b k x hb hk
  refine go _ _ _ _ rfl ?_
  have hr0 := hb.lt
  have hx1 : asL (st ++ [.lst []]) things = some xs := asL_keep hx hr (Keep.app (r := r))
  obtain ⟨i1, i2⟩ := items_asL hx1
  simp only [T__law_mixed, VM.sNil, VM.sCons, VM.sSet, VM.sPar, VM.sSetIx, VM.setIx, VM.sExpr, VM.sRet, VM.sRetN, VM.sIf, VM.sBreak, VM.sCont, VM.sFor, VM.gName, VM.gTup, VM.gEach, VM.eVar, VM.eC, VM.eBin, VM.eNeg, VM.eCmp, VM.eChain, VM.tOf, VM.tCmp, VM.tChain, VM.tAnd, VM.tOr, VM.tNot, VM.tYes, VM.eTest, VM.eAnd, VM.eOr, VM.eNot, VM.eIf, VM.aNil, VM.aCons, VM.eLst, VM.eLstM, VM.eTup, VM.eCall, VM.eIx, VM.eSl, VM.iE, VM.iRange1, VM.iRange2, VM.iZip, VM.iRev, VM.eComp, VM.eCompM, VM.eAppend, VM.eInsert, VM.eB1, VM.fLen, VM.fAbs, VM.fInt, VM.fList, VM.fListM, VM.fTuple, VM.fSum, VM.fAll, VM.fAny, VM.fIsi, VM.opBin, VM.opAdd, VM.opSub, VM.opMul, VM.opFdiv, VM.opMod, VM.opPow, VM.opCm, VM.frz, VM.isD, VM.eqv, VM.isNon, VM.D0, VM.turn, List.map_cons, List.map_nil, List.replicate_succ, List.replicate_zero, List.cons_append, List.nil_append, List.getElem?_cons_zero, List.getElem?_cons_succ, List.set_cons_zero, List.set_cons_succ, Nat.reduceSub, VM.wipe, List.length_cons, List.length_nil, Nat.reduceAdd]
  refine ⟨by decide, ?_⟩
  simp only [i1, i2]
  refine ⟨trivial, ?_⟩
  generalize hj : st.length = j at hk
  have hjr : j ≠ r := by omega
  refine for_inv (fun rem ρ st' => ∃ (a3 : Option PV) (ys pre : List PV), ρ = [some (.ref r), some things, some (.ref j), a3] ∧ Bag st' r (b + rem.length) ∧ Keep r st st' ∧ j < st'.length ∧ st'[j]? = some (.lst ys) ∧ ys.Perm pre ∧ pre ++ rem = xs) ?_ ?_ _ _ _ ⟨_, [], [], rfl, hb.app, Keep.app, by simp [hj], by rw [← hj]; simp, List.Perm.refl _, rfl⟩
  · rintro v rem ρ st' ⟨a3, ys, pre, rfl, q1, q2, q3, q4, q5, q6⟩
    refine ⟨stays_keep hx hr q2.2 (fun i hi => List.getElem?_append_left hi), fun D' d1 d2 d3 d4 d5 => ?_⟩
    have ly : ys.length < xs.length := by
      rw [q5.length_eq, ← q6]
      simp
    simp only [VM.sNil, VM.sCons, VM.sSet, VM.sPar, VM.sSetIx, VM.setIx, VM.sExpr, VM.sRet, VM.sRetN, VM.sIf, VM.sBreak, VM.sCont, VM.sFor, VM.gName, VM.gTup, VM.gEach, VM.eVar, VM.eC, VM.eBin, VM.eNeg, VM.eCmp, VM.eChain, VM.tOf, VM.tCmp, VM.tChain, VM.tAnd, VM.tOr, VM.tNot, VM.tYes, VM.eTest, VM.eAnd, VM.eOr, VM.eNot, VM.eIf, VM.aNil, VM.aCons, VM.eLst, VM.eLstM, VM.eTup, VM.eCall, VM.eIx, VM.getIx, VM.eSl, VM.getSl, VM.iE, VM.iRange1, VM.iRange2, VM.iZip, VM.iRev, VM.eComp, VM.eCompM, VM.eAppend, VM.eInsert, VM.eB1, VM.fLen, VM.fAbs, VM.fInt, VM.fList, VM.fListM, VM.fTuple, VM.fSum, VM.fAll, VM.fAny, VM.fIsi, VM.bLen, VM.seqOf, VM.sq, VM.asL, VM.items, VM.isSeq, VM.truth, VM.opBin, VM.opAdd, VM.opSub, VM.opMul, VM.opFdiv, VM.opMod, VM.opPow, VM.opCm, VM.opEq, VM.frz, VM.isD, VM.eqv, VM.isNon, VM.kdOf, VM.D0, VM.turn, List.map_cons, List.map_nil, List.replicate_succ, List.replicate_zero, List.cons_append, List.nil_append, List.getElem?_cons_zero, List.getElem?_cons_succ, List.set_cons_zero, List.set_cons_succ, Nat.reduceSub, VM.wipe, List.length_cons, List.length_nil, Nat.reduceAdd, q4]
    refine ⟨rfl, ?_⟩
    rw [List.length_cons] at q1
    refine tk r ((ys.length : Int) + 1) (by omega) st' (b + rem.length) _ _ q1 fun z st2 hz hb2 k2 => ?_
    obtain ⟨dd, rfl, e0, e1⟩ := hz
    have e4 : st2[j]? = some (.lst ys) := (k2.2 j hjr q3).trans q4
    simp only [e4]
    refine ⟨e0, by omega, by show _ < 16777216; omega, d4 _ _ ⟨_, _, pre ++ [v], rfl, hb2.put hjr, (q2.trans k2).put (by omega), by rw [List.length_set]; exact Nat.lt_of_lt_of_le q3 k2.1, set_self e4, ?_, by rw [List.append_assoc]; exact q6⟩⟩
    have p1 : (ys.take dd.toNat ++ [v] ++ ys.drop dd.toNat).Perm ([v] ++ ys) := by
      have := (List.perm_append_comm (l₁ := ys.take dd.toNat) (l₂ := [v])).append_right (ys.drop dd.toNat)
      rw [List.append_assoc [v], List.take_append_drop] at this
      exact this
    exact p1.trans ((List.perm_append_comm (l₁ := [v]) (l₂ := ys)).trans (q5.append_right [v]))
  · rintro ρ st' ⟨a3, ys, pre, rfl, q1, q2, q3, q4, q5, q6⟩
    refine ⟨stays_keep hx hr q2.2 (fun i hi => List.getElem?_append_left hi), ?_⟩
    simp only [VM.sNil, VM.sCons, VM.sSet, VM.sPar, VM.sSetIx, VM.setIx, VM.sExpr, VM.sRet, VM.sRetN, VM.sIf, VM.sBreak, VM.sCont, VM.sFor, VM.gName, VM.gTup, VM.gEach, VM.eVar, VM.eC, VM.eBin, VM.eNeg, VM.eCmp, VM.eChain, VM.tOf, VM.tCmp, VM.tChain, VM.tAnd, VM.tOr, VM.tNot, VM.tYes, VM.eTest, VM.eAnd, VM.eOr, VM.eNot, VM.eIf, VM.aNil, VM.aCons, VM.eLst, VM.eLstM, VM.eTup, VM.eCall, VM.eIx, VM.getIx, VM.eSl, VM.getSl, VM.iE, VM.iRange1, VM.iRange2, VM.iZip, VM.iRev, VM.eComp, VM.eCompM, VM.eAppend, VM.eInsert, VM.eB1, VM.fLen, VM.fAbs, VM.fInt, VM.fList, VM.fListM, VM.fTuple, VM.fSum, VM.fAll, VM.fAny, VM.fIsi, VM.bLen, VM.seqOf, VM.sq, VM.asL, VM.items, VM.isSeq, VM.truth, VM.opBin, VM.opAdd, VM.opSub, VM.opMul, VM.opFdiv, VM.opMod, VM.opPow, VM.opCm, VM.opEq, VM.frz, VM.isD, VM.eqv, VM.isNon, VM.kdOf, VM.D0, VM.turn, List.map_cons, List.map_nil, List.replicate_succ, List.replicate_zero, List.cons_append, List.nil_append, List.getElem?_cons_zero, List.getElem?_cons_succ, List.set_cons_zero, List.set_cons_succ, Nat.reduceSub, VM.wipe, List.length_cons, List.length_nil, Nat.reduceAdd]
    rw [List.append_nil] at q6
    exact hk _ _ ⟨ys, rfl, q4, q6 ▸ q5⟩ (q1.le (by simp)) q2
end VP
end
section
namespace VP
open VM ML
theorem comp_of {α : Type} {g : TG} {t : TT} {e : TE} {own : List Nat} {stay : Store → Prop} {ρ : Env} {k : List PV → Store → Prop} {st : Store} (enc : α → PV) (f : α → Option PV) (hst : stay st) (ys : List α)
    (h : ∀ y ∈ ys, ∀ k' : Option PV → Store → Prop, k' (f y) st → turn g t e ρ st (enc y) k') (hl : ys.length ≤ SZ) (hk : k (ys.filterMap f) st) : compGo g t e own stay (ys.map enc) [] ρ st k := by
  have key : ∀ (ys : List α) (acc : List PV), (∀ y ∈ ys, ∀ k' : Option PV → Store → Prop, k' (f y) st → turn g t e ρ st (enc y) k') → acc.length + ys.length ≤ SZ → k (acc ++ ys.filterMap f) st → compGo g t e own stay (ys.map enc) acc ρ st k := by
    intro ys
    induction ys with
    | nil =>
      intro acc _ _ hk
      rw [List.filterMap_nil, List.append_nil] at hk
      exact ⟨hst, hk⟩
    | cons y ys ih =>
      intro acc h hl hk
      rw [List.length_cons] at hl
      rw [List.map_cons]
      unfold compGo
      refine ⟨hst, ?_⟩
      have hr : ∀ y ∈ ys, ∀ k' : Option PV → Store → Prop, k' (f y) st → turn g t e ρ st (enc y) k' := fun x m => h x (List.mem_cons_of_mem _ m)
      refine h y (List.mem_cons_self ..) (fun o st => match o with | some y => acc.length < SZ ∧ compGo g t e own stay (ys.map enc) (acc ++ [y]) ρ st k | none => compGo g t e own stay (ys.map enc) acc ρ st k) ?_
      cases e1 : f y with
      | none =>
        rw [List.filterMap_cons_none e1] at hk
        exact ih acc hr (by omega) hk
      | some z =>
        rw [List.filterMap_cons_some e1] at hk
        refine ⟨by omega, ih (acc ++ [z]) hr (by rw [List.length_append, List.length_singleton]; omega) ?_⟩
        rw [List.append_assoc]
        exact hk
  exact key ys [] h (by simpa using hl) hk
theorem zip_ints (u v : List Int) : List.zipWith (fun x y => PV.tup [x, y]) (pvis u) (pvis v) = (u.zip v).map fun p => PV.tup [.int p.1, .int p.2] := by
  induction u generalizing v with
  | nil => rfl
  | cons a u ih =>
    cases v with
    | nil => rfl
    | cons b v => simp [pvis] at ih ⊢; exact ih v
theorem fm_sub1 (u v : List Int) (c : Int) : (u.zip v).filterMap (fun p => some (PV.int (p.1 - p.2 * c))) = pvis (sub1 u v c) := by
  induction u generalizing v with
  | nil => rfl
  | cons a u ih =>
    cases v with
    | nil => rfl
    | cons b v => simp [pvis, sub1] at ih ⊢; exact ih v
def SpMinus (cs : CS) : Prop := ∀ (u v : List Int) (c : Int) (st : Store) (k x : KV), (∀ b ∈ v, MulOk b c) → u.length ≤ SZ → k (ilst (sub1 u v c)) st → cs 6 [ilst u, ilst v, .int c] st k x
theorem minus_at {FT : Nat → Option FD} (hF : FT 6 = some ⟨3, 5, T_minus⟩) : At FT 1 SpMinus := at_of (C := fun _ => True) hF (fun _ _ => trivial) fun cs cs' _ go => by
  intro u v c st k x hm hl hk
  refine go _ _ _ _ rfl ?_
  simp only [T_minus, VM.sNil, VM.sCons, VM.sSet, VM.sPar, VM.sSetIx, VM.setIx, VM.sExpr, VM.sRet, VM.sRetN, VM.sIf, VM.sBreak, VM.sCont, VM.sFor, VM.gName, VM.gTup, VM.gEach, VM.eVar, VM.eC, VM.eBin, VM.eNeg, VM.eCmp, VM.eChain, VM.tOf, VM.tCmp, VM.tChain, VM.tAnd, VM.tOr, VM.tNot, VM.tYes, VM.eTest, VM.eAnd, VM.eOr, VM.eNot, VM.eIf, VM.aNil, VM.aCons, VM.eLst, VM.eLstM, VM.eTup, VM.eCall, VM.eIx, VM.getIx, VM.eSl, VM.getSl, VM.iE, VM.iRange1, VM.iRange2, VM.iZip, VM.iRev, VM.eComp, VM.eCompM, VM.eAppend, VM.eInsert, VM.eB1, VM.fLen, VM.fAbs, VM.fInt, VM.fList, VM.fListM, VM.fTuple, VM.fSum, VM.fAll, VM.fAny, VM.fIsi, VM.bLen, VM.seqOf, VM.sq, VM.asL, VM.items, VM.isSeq, VM.truth, VM.opBin, VM.opAdd, VM.opSub, VM.opMul, VM.opFdiv, VM.opMod, VM.opPow, VM.opCm, VM.opEq, VM.frz, VM.isD, VM.eqv, VM.isNon, VM.kdOf, VM.D0, VM.turn, List.map_cons, List.map_nil, List.replicate_succ, List.replicate_zero, List.cons_append, List.nil_append, List.getElem?_cons_zero, List.getElem?_cons_succ, List.set_cons_zero, List.set_cons_succ, Nat.reduceSub, VM.wipe, List.length_cons, List.length_nil, Nat.reduceAdd, zip_ints]
  refine comp_of _ (fun p => some (.int (p.1 - p.2 * c))) ⟨trivial, trivial⟩ (u.zip v) (fun p hp k' hk' => ?_) (by rw [List.length_zip]; omega) (by rw [fm_sub1]; exact hk)
  simp only [VM.sNil, VM.sCons, VM.sSet, VM.sPar, VM.sSetIx, VM.setIx, VM.sExpr, VM.sRet, VM.sRetN, VM.sIf, VM.sBreak, VM.sCont, VM.sFor, VM.gName, VM.gTup, VM.gEach, VM.eVar, VM.eC, VM.eBin, VM.eNeg, VM.eCmp, VM.eChain, VM.tOf, VM.tCmp, VM.tChain, VM.tAnd, VM.tOr, VM.tNot, VM.tYes, VM.eTest, VM.eAnd, VM.eOr, VM.eNot, VM.eIf, VM.aNil, VM.aCons, VM.eLst, VM.eLstM, VM.eTup, VM.eCall, VM.eIx, VM.getIx, VM.eSl, VM.getSl, VM.iE, VM.iRange1, VM.iRange2, VM.iZip, VM.iRev, VM.eComp, VM.eCompM, VM.eAppend, VM.eInsert, VM.eB1, VM.fLen, VM.fAbs, VM.fInt, VM.fList, VM.fListM, VM.fTuple, VM.fSum, VM.fAll, VM.fAny, VM.fIsi, VM.bLen, VM.seqOf, VM.sq, VM.asL, VM.items, VM.isSeq, VM.truth, VM.opBin, VM.opAdd, VM.opSub, VM.opMul, VM.opFdiv, VM.opMod, VM.opPow, VM.opCm, VM.opEq, VM.frz, VM.isD, VM.eqv, VM.isNon, VM.kdOf, VM.D0, VM.turn, List.map_cons, List.map_nil, List.replicate_succ, List.replicate_zero, List.cons_append, List.nil_append, List.getElem?_cons_zero, List.getElem?_cons_succ, List.set_cons_zero, List.set_cons_succ, Nat.reduceSub, VM.wipe, List.length_cons, List.length_nil, Nat.reduceAdd, if_true]
  exact ⟨trivial, hm _ (List.of_mem_zip hp).2, hk'⟩
def SpTimes (cs : CS) : Prop := ∀ (u : List Int) (c : Int) (st : Store) (k x : KV), (∀ b ∈ u, MulOk b c) → u.length ≤ SZ → k (ilst (u.map fun a => a * c)) st → cs 8 [ilst u, .int c] st k x
theorem times_at {FT : Nat → Option FD} (hF : FT 8 = some ⟨2, 3, T_times⟩) : At FT 1 SpTimes := at_of (C := fun _ => True) hF (fun _ _ => trivial) fun cs cs' _ go => by
  intro u c st k x hm hl hk
  refine go _ _ _ _ rfl ?_
  simp only [T_times, VM.sNil, VM.sCons, VM.sSet, VM.sPar, VM.sSetIx, VM.setIx, VM.sExpr, VM.sRet, VM.sRetN, VM.sIf, VM.sBreak, VM.sCont, VM.sFor, VM.gName, VM.gTup, VM.gEach, VM.eVar, VM.eC, VM.eBin, VM.eNeg, VM.eCmp, VM.eChain, VM.tOf, VM.tCmp, VM.tChain, VM.tAnd, VM.tOr, VM.tNot, VM.tYes, VM.eTest, VM.eAnd, VM.eOr, VM.eNot, VM.eIf, VM.aNil, VM.aCons, VM.eLst, VM.eLstM, VM.eTup, VM.eCall, VM.eIx, VM.getIx, VM.eSl, VM.getSl, VM.iE, VM.iRange1, VM.iRange2, VM.iZip, VM.iRev, VM.eComp, VM.eCompM, VM.eAppend, VM.eInsert, VM.eB1, VM.fLen, VM.fAbs, VM.fInt, VM.fList, VM.fListM, VM.fTuple, VM.fSum, VM.fAll, VM.fAny, VM.fIsi, VM.bLen, VM.seqOf, VM.sq, VM.asL, VM.items, VM.isSeq, VM.truth, VM.opBin, VM.opAdd, VM.opSub, VM.opMul, VM.opFdiv, VM.opMod, VM.opPow, VM.opCm, VM.opEq, VM.frz, VM.isD, VM.eqv, VM.isNon, VM.kdOf, VM.D0, VM.turn, List.map_cons, List.map_nil, List.replicate_succ, List.replicate_zero, List.cons_append, List.nil_append, List.getElem?_cons_zero, List.getElem?_cons_succ, List.set_cons_zero, List.set_cons_succ, Nat.reduceSub, VM.wipe, List.length_cons, List.length_nil, Nat.reduceAdd]
  refine ⟨trivial, comp_of PV.int (fun a => some (.int (a * c))) trivial u (fun p hp k' hk' => ?_) hl ?_⟩
  · simp only [VM.sNil, VM.sCons, VM.sSet, VM.sPar, VM.sSetIx, VM.setIx, VM.sExpr, VM.sRet, VM.sRetN, VM.sIf, VM.sBreak, VM.sCont, VM.sFor, VM.gName, VM.gTup, VM.gEach, VM.eVar, VM.eC, VM.eBin, VM.eNeg, VM.eCmp, VM.eChain, VM.tOf, VM.tCmp, VM.tChain, VM.tAnd, VM.tOr, VM.tNot, VM.tYes, VM.eTest, VM.eAnd, VM.eOr, VM.eNot, VM.eIf, VM.aNil, VM.aCons, VM.eLst, VM.eLstM, VM.eTup, VM.eCall, VM.eIx, VM.getIx, VM.eSl, VM.getSl, VM.iE, VM.iRange1, VM.iRange2, VM.iZip, VM.iRev, VM.eComp, VM.eCompM, VM.eAppend, VM.eInsert, VM.eB1, VM.fLen, VM.fAbs, VM.fInt, VM.fList, VM.fListM, VM.fTuple, VM.fSum, VM.fAll, VM.fAny, VM.fIsi, VM.bLen, VM.seqOf, VM.sq, VM.asL, VM.items, VM.isSeq, VM.truth, VM.opBin, VM.opAdd, VM.opSub, VM.opMul, VM.opFdiv, VM.opMod, VM.opPow, VM.opCm, VM.opEq, VM.frz, VM.isD, VM.eqv, VM.isNon, VM.kdOf, VM.D0, VM.turn, List.map_cons, List.map_nil, List.replicate_succ, List.replicate_zero, List.cons_append, List.nil_append, List.getElem?_cons_zero, List.getElem?_cons_succ, List.set_cons_zero, List.set_cons_succ, Nat.reduceSub, VM.wipe, List.length_cons, List.length_nil, Nat.reduceAdd, if_true]
    exact ⟨hm _ hp, hk'⟩
  · have e : u.filterMap (fun a => some (PV.int (a * c))) = pvis (u.map fun a => a * c) := by
      rw [show (fun a : Int => some (PV.int (a * c))) = some ∘ (fun a => PV.int (a * c)) from rfl, List.filterMap_eq_map]
      simp [pvis]
    rw [e]
    exact hk
abbrev rl (rows : List Vec) : PV := .lst (rows.map ilst)
theorem ixv {v : Vec} {at_ : Nat} (h : at_ < v.length) : ix (pvis v).length (at_ : Int) = some at_ ∧ (pvis v)[at_]? = some (.int (nth v at_)) := by
  rw [List.length_map, ixN (by omega) (by omega), List.getElem?_map, nth_get h]
  simp
theorem ixr {rows : List Vec} {i : Nat} (h : i < rows.length) : ix (rows.map ilst).length (i : Int) = some i ∧ (rows.map ilst)[i]? = some (ilst rows[i]) := by
  rw [List.length_map, ixN (by omega) (by omega), List.getElem?_map, List.getElem?_eq_getElem h]
  simp
theorem fm_filter {α : Type} (p : α → Bool) (f : α → PV) : ∀ l : List α, l.filterMap (fun a => if p a = true then some (f a) else none) = (l.filter p).map f
  | [] => rfl
  | a :: l => by
    rw [List.filter_cons]
    by_cases h : p a = true
    · rw [List.filterMap_cons_some (b := f a) (by rw [if_pos h]), if_pos h, List.map_cons, fm_filter p f l]
    · rw [List.filterMap_cons_none (by rw [if_neg h]), if_neg h, fm_filter p f l]
def fnz (at_ : Nat) (rows : List Vec) : List Vec := rows.filter fun r => !decide (nth r at_ = 0)
def fz (at_ : Nat) (rows : List Vec) : List Vec := rows.filter fun r => decide (nth r at_ = 0)
def Few (at_ : Nat) (rows left rest : List Vec) : Prop := 1 < (fnz at_ rows).length ∨ (left = fnz at_ rows ∧ rest = fz at_ rows)
def ClR (w at_ e : Nat) (rows left rest : List Vec) : Prop := Cl w at_ e rows left rest ∧ left.length ≤ 1 ∧ Few at_ rows left rest
def SpCleared (cs : CS) : Prop := ∀ (rows : List Vec) (w at_ e : Nat) (st : Store) (k x : KV), Len w rows → (∀ r ∈ rows, Bb e r) → at_ < w → w ≤ 1000 → rows.length ≤ 1000 → 8 * e + 10 ≤ 100000000 →
  (∀ left rest, ClR w at_ e rows left rest → k (.tup [rl left, rl rest]) st) → cs 7 [rl rows, .int at_] st k x
theorem _root_.Eq.mpr' {a b : Prop} (h : a = b) (hb : b) : a := h ▸ hb
theorem filter_cnt {α : Type} (p : α → Prop) [DecidablePred p] : ∀ l : List α, (l.filter fun r => !decide (p r)).length + (l.filter fun r => decide (p r)).length ≤ l.length
  | [] => by simp
  | a :: l => by
    have := filter_cnt p l
    rw [List.filter_cons, List.filter_cons]
    by_cases h : p a
    · simp [h]; omega
    · simp [h]; omega
theorem filter_nz (at_ : Nat) (rows : List Vec) (w e : Nat) (hl : Len w rows) (hb : ∀ r ∈ rows, Bb e r) : Cl w at_ e rows (rows.filter fun r => !decide (nth r at_ = 0)) (rows.filter fun r => decide (nth r at_ = 0)) := by
  have mem : ∀ r, r ∈ (rows.filter fun r => !decide (nth r at_ = 0)) ++ (rows.filter fun r => decide (nth r at_ = 0)) ↔ r ∈ rows := fun r => by
    rw [List.mem_append, List.mem_filter, List.mem_filter]
    constructor
    · rintro (h | h) <;> exact h.1
    · intro h
      by_cases z : nth r at_ = 0
      · exact .inr ⟨h, by simpa using z⟩
      · exact .inl ⟨h, by simpa using z⟩
  have LW : Len w ((rows.filter fun r => !decide (nth r at_ = 0)) ++ (rows.filter fun r => decide (nth r at_ = 0))) := fun r m => hl r ((mem r).mp m)
  refine ⟨LW, fun r m => by simpa using (List.mem_filter.mp m).2, fun r m => by simpa using (List.mem_filter.mp m).2, fun r m => Span.mem hl ((mem r).mp m), fun r m => Span.mem LW ((mem r).mpr m), ?_, .inl fun r m => hb r (List.mem_filter.mp m).1, fun r m => (hb r (List.mem_filter.mp m).1).mono (by omega)⟩
  exact filter_cnt _ rows

def clFor1 : TS := sIf (tCmp .lt (eB1 fAbs (eIx (eIx (eVar 2) (eVar 6)) (eVar 1))) (eB1 fAbs (eIx (eIx (eVar 2) (eVar 5)) (eVar 1)))) (sSet (gName 5) (eVar 6)) sNil
def clFor2 (cs : CS) : TS := sIf (tCmp .ne (eVar 6) (eVar 5))
    (sCons (sSet (gName 3) (eCall cs 6 (aCons (eIx (eVar 2) (eVar 6)) (aCons (eVar 7) (aCons (eBin .fdiv (eIx (eIx (eVar 2) (eVar 6)) (eVar 1)) (eIx (eVar 7) (eVar 1))) aNil)))))
    (sIf (tCmp .ne (eIx (eVar 3) (eVar 1)) (eC (.int 0)))
    (sSet (gName 8) (eBin .add (eVar 8) (eLst (aCons (eVar 3) aNil))))
    (sSet (gName 4) (eBin .add (eVar 4) (eLst (aCons (eVar 3) aNil))))))
    sNil
def clBody (cs : CS) : TS := (sCons (sSet (gName 5) (eC (.int 0)))
    (sCons (sFor (iRange1 (eB1 fLen (eVar 2))) (gName 6) clFor1)
    (sCons (sSet (gName 7) (eIx (eVar 2) (eVar 5)))
    (sCons (sSet (gName 8) (eLst (aCons (eVar 7) aNil)))
    (sCons (sFor (iRange1 (eB1 fLen (eVar 2))) (gName 6) (clFor2 cs))
    (sSet (gName 2) (eVar 8)))))))
theorem range_split {n : Nat} {v : PV} {rem pre : List PV} (h : pre ++ v :: rem = (List.range n).map fun (i : Nat) => PV.int (i : Int)) : v = .int (pre.length : Nat) ∧ pre.length < n := by
  have h1 : (pre ++ v :: rem)[pre.length]? = some v := by simp
  rw [h, List.getElem?_map] at h1
  have hn : pre.length < n := by
    have := congrArg List.length h
    simp at this
    omega
  rw [List.getElem?_range hn] at h1
  cases h1
  exact ⟨rfl, hn⟩
theorem range_pre {n : Nat} {pre : List PV} (h : pre = (List.range n).map fun (i : Nat) => PV.int (i : Int)) : pre.length = n := by rw [h]; simp
/-- one turn of the while -/
theorem cl_turn {cs : CS} (mn : SpMinus cs) {rows left rest : List Vec} {w at_ e : Nat} {st : Store} {D : Ends} {a3 a5 a6 a7 a8 : Option PV} (hr : Len w rows) (hw : at_ < w) (hw2 : w ≤ 1000) (hrl : rows.length ≤ 1000) (hs : 8 * e + 10 ≤ 100000000) (c : Cl w at_ e rows left rest) (hl : 1 < left.length)
    (hk : ∀ (head : Vec) (late rest' : List Vec) (b3 b5 b6 b7 b8 : Option PV), head ∈ left → (∀ s ∈ left, (nth head at_).natAbs ≤ (nth s at_).natAbs) → Itr at_ head left rest late rest' → D.nx [some (rl rows), some (.int at_), some (rl late), b3, some (rl rest'), b5, b6, b7, b8] st) :
    clBody cs D [some (rl rows), some (.int at_), some (rl left), a3, some (rl rest), a5, a6, a7, a8] st := by
  have lw : ∀ s ∈ left, s.length = w := fun s m => c.lw s (List.mem_append_left _ m)
  have cnt := c.cnt
  have gt : ∀ {i : Nat} (h : i < left.length), at_ < left[i].length := fun h => by rw [lw _ (List.getElem_mem h)]; exact hw
  unfold clBody
  simp only [VM.sNil, VM.sCons, VM.sSet, VM.sPar, VM.sSetIx, VM.setIx, VM.sExpr, VM.sRet, VM.sRetN, VM.sIf, VM.sBreak, VM.sCont, VM.sFor, VM.gName, VM.gTup, VM.gEach, VM.eVar, VM.eC, VM.eBin, VM.eNeg, VM.eCmp, VM.eChain, VM.tOf, VM.tCmp, VM.tChain, VM.tAnd, VM.tOr, VM.tNot, VM.tYes, VM.eTest, VM.eAnd, VM.eOr, VM.eNot, VM.eIf, VM.aNil, VM.aCons, VM.eLst, VM.eLstM, VM.eTup, VM.eCall, VM.eIx, VM.getIx, VM.eSl, VM.getSl, VM.iE, VM.iRange1, VM.iRange2, VM.iZip, VM.iRev, VM.eComp, VM.eCompM, VM.eAppend, VM.eInsert, VM.eB1, VM.fLen, VM.fAbs, VM.fInt, VM.fList, VM.fListM, VM.fTuple, VM.fSum, VM.fAll, VM.fAny, VM.fIsi, VM.bLen, VM.seqOf, VM.sq, VM.asL, VM.items, VM.isSeq, VM.truth, VM.opBin, VM.opAdd, VM.opSub, VM.opMul, VM.opFdiv, VM.opMod, VM.opPow, VM.opCm, VM.opEq, VM.frz, VM.isD, VM.eqv, VM.isNon, VM.kdOf, VM.D0, VM.turn, List.map_cons, List.map_nil, List.replicate_succ, List.replicate_zero, List.cons_append, List.nil_append, List.getElem?_cons_zero, List.getElem?_cons_succ, List.set_cons_zero, List.set_cons_succ, Nat.reduceSub, VM.wipe, List.length_cons, List.length_nil, Nat.reduceAdd, List.length_map, Int.toNat_natCast]
  refine ⟨by unfold i62; omega, ?_⟩
  refine for_inv (fun rem ρ st' => st' = st ∧ ∃ (b3 b6 b7 b8 : Option PV) (least : Nat) (pre : List PV), ρ = [some (rl rows), some (.int at_), some (rl left), b3, some (rl rest), some (.int least), b6, b7, b8] ∧ pre ++ rem = ((List.range left.length).map fun (i : Nat) => PV.int (i : Int)) ∧
    ∃ h : least < left.length, ∀ i (hi : i < left.length), i < pre.length → (nth left[least] at_).natAbs ≤ (nth left[i] at_).natAbs) ?_ ?_ _ _ _ ⟨rfl, _, _, _, _, 0, [], rfl, rfl, by omega, fun i _ h => by simp at h⟩
  · rintro v rem ρ st' ⟨rfl, b3, b6, b7, b8, least, pre, rfl, hp, hle, hmin⟩
    refine ⟨trivial, fun D' d1 d2 d3 d4 d5 => ?_⟩
    obtain ⟨rfl, hi⟩ := range_split hp
    obtain ⟨x1, x2⟩ := ixr hi
    obtain ⟨x3, x4⟩ := ixr hle
    obtain ⟨x5, x6⟩ := ixv (gt hi)
    obtain ⟨x7, x8⟩ := ixv (gt hle)
    simp only [clFor1, VM.sNil, VM.sCons, VM.sSet, VM.sPar, VM.sSetIx, VM.setIx, VM.sExpr, VM.sRet, VM.sRetN, VM.sIf, VM.sBreak, VM.sCont, VM.sFor, VM.gName, VM.gTup, VM.gEach, VM.eVar, VM.eC, VM.eBin, VM.eNeg, VM.eCmp, VM.eChain, VM.tOf, VM.tCmp, VM.tChain, VM.tAnd, VM.tOr, VM.tNot, VM.tYes, VM.eTest, VM.eAnd, VM.eOr, VM.eNot, VM.eIf, VM.aNil, VM.aCons, VM.eLst, VM.eLstM, VM.eTup, VM.eCall, VM.eIx, VM.getIx, VM.eSl, VM.getSl, VM.iE, VM.iRange1, VM.iRange2, VM.iZip, VM.iRev, VM.eComp, VM.eCompM, VM.eAppend, VM.eInsert, VM.eB1, VM.fLen, VM.fAbs, VM.fInt, VM.fList, VM.fListM, VM.fTuple, VM.fSum, VM.fAll, VM.fAny, VM.fIsi, VM.bLen, VM.seqOf, VM.sq, VM.asL, VM.items, VM.isSeq, VM.truth, VM.opBin, VM.opAdd, VM.opSub, VM.opMul, VM.opFdiv, VM.opMod, VM.opPow, VM.opCm, VM.opEq, VM.frz, VM.isD, VM.eqv, VM.isNon, VM.kdOf, VM.D0, VM.turn, List.map_cons, List.map_nil, List.replicate_succ, List.replicate_zero, List.cons_append, List.nil_append, List.getElem?_cons_zero, List.getElem?_cons_succ, List.set_cons_zero, List.set_cons_succ, Nat.reduceSub, VM.wipe, List.length_cons, List.length_nil, Nat.reduceAdd, x1, x2, x3, x4, x5, x6, x7, x8]
    by_cases hlt : (nth left[pre.length] at_).natAbs < (nth left[least] at_).natAbs
    · have hlt' : ((nth left[pre.length] at_).natAbs : Int) < ((nth left[least] at_).natAbs : Int) := by omega
      simp only [hlt', decide_true, if_true]
      refine d4 _ _ ⟨rfl, _, _, _, _, pre.length, pre ++ [.int pre.length], rfl, by simpa using hp, hi, fun i hi' h => ?_⟩
      rw [List.length_append, List.length_singleton] at h
      by_cases he : i = pre.length
      · subst he; exact Nat.le_refl _
      · have := hmin i hi' (by omega)
        omega
    · have hlt' : ¬ ((nth left[pre.length] at_).natAbs : Int) < ((nth left[least] at_).natAbs : Int) := by omega
      simp only [hlt', decide_false, Bool.false_eq_true, if_false]
      refine d4 _ _ ⟨rfl, _, _, _, _, least, pre ++ [.int pre.length], rfl, by simpa using hp, hle, fun i hi' h => ?_⟩
      rw [List.length_append, List.length_singleton] at h
      by_cases he : i = pre.length
      · subst he; omega
      · exact hmin i hi' (by omega)
  · rintro ρ st' ⟨rfl, b3, b6, b7, b8, least, pre, rfl, hp, hle, hmin⟩
    refine ⟨trivial, ?_⟩
    rw [List.append_nil] at hp
    have hpl := range_pre hp
    obtain ⟨x3, x4⟩ := ixr hle
    rw [List.length_map] at x3
    simp only [VM.sNil, VM.sCons, VM.sSet, VM.sPar, VM.sSetIx, VM.setIx, VM.sExpr, VM.sRet, VM.sRetN, VM.sIf, VM.sBreak, VM.sCont, VM.sFor, VM.gName, VM.gTup, VM.gEach, VM.eVar, VM.eC, VM.eBin, VM.eNeg, VM.eCmp, VM.eChain, VM.tOf, VM.tCmp, VM.tChain, VM.tAnd, VM.tOr, VM.tNot, VM.tYes, VM.eTest, VM.eAnd, VM.eOr, VM.eNot, VM.eIf, VM.aNil, VM.aCons, VM.eLst, VM.eLstM, VM.eTup, VM.eCall, VM.eIx, VM.getIx, VM.eSl, VM.getSl, VM.iE, VM.iRange1, VM.iRange2, VM.iZip, VM.iRev, VM.eComp, VM.eCompM, VM.eAppend, VM.eInsert, VM.eB1, VM.fLen, VM.fAbs, VM.fInt, VM.fList, VM.fListM, VM.fTuple, VM.fSum, VM.fAll, VM.fAny, VM.fIsi, VM.bLen, VM.seqOf, VM.sq, VM.asL, VM.items, VM.isSeq, VM.truth, VM.opBin, VM.opAdd, VM.opSub, VM.opMul, VM.opFdiv, VM.opMod, VM.opPow, VM.opCm, VM.opEq, VM.frz, VM.isD, VM.eqv, VM.isNon, VM.kdOf, VM.D0, VM.turn, List.map_cons, List.map_nil, List.replicate_succ, List.replicate_zero, List.cons_append, List.nil_append, List.getElem?_cons_zero, List.getElem?_cons_succ, List.set_cons_zero, List.set_cons_succ, Nat.reduceSub, VM.wipe, List.length_cons, List.length_nil, Nat.reduceAdd, x3, x4, List.length_map, Int.toNat_natCast]
    refine ⟨by decide, by unfold i62; omega, ?_⟩
    generalize hh : left[least] = head
    have hm : head ∈ left := by rw [← hh]; exact List.getElem_mem hle
    have hmn : ∀ s ∈ left, (nth head at_).natAbs ≤ (nth s at_).natAbs := fun s ms => by
      obtain ⟨i, hi, rfl⟩ := List.mem_iff_getElem.mp ms
      rw [← hh]
      exact hmin i hi (by omega)
    have lh := lw head hm
    refine for_inv (fun rem ρ st2 => st2 = st' ∧ ∃ (b3 b6 : Option PV) (stay : List Vec) (rest' : List Vec) (pre : List PV), ρ = [some (rl rows), some (.int at_), some (rl left), b3, some (rl rest'), some (.int least), b6, some (ilst head), some (rl (head :: stay))] ∧ pre ++ rem = ((List.range left.length).map fun (i : Nat) => PV.int (i : Int)) ∧
      (∀ r ∈ stay, ∃ s ∈ left, r = red at_ s head ∧ nth r at_ ≠ 0) ∧ (∀ r ∈ rest', r ∈ rest ∨ ∃ s ∈ left, r = red at_ s head ∧ nth r at_ = 0) ∧ (∀ i (hi : i < left.length), i < pre.length → i ≠ least → red at_ left[i] head ∈ stay ++ rest') ∧ (∀ r ∈ rest, r ∈ rest') ∧
      stay.length + rest'.length + (if least < pre.length then 1 else 0) ≤ rest.length + pre.length) ?_ ?_ _ _ _ ⟨rfl, _, _, [], rest, [], rfl, rfl, by simp, fun r m => .inl m, fun i _ h => by simp at h, fun r m => m, by simp⟩
    · rintro v rem ρ st' ⟨rfl, b3, b6, stay, rest', pre, rfl, hp, i2, i3, i4, i5, i6⟩
      refine ⟨trivial, fun D' d1 d2 d3 d4 d5 => ?_⟩
      obtain ⟨rfl, hi⟩ := range_split hp
      simp only [clFor2, VM.sNil, VM.sCons, VM.sSet, VM.sPar, VM.sSetIx, VM.setIx, VM.sExpr, VM.sRet, VM.sRetN, VM.sIf, VM.sBreak, VM.sCont, VM.sFor, VM.gName, VM.gTup, VM.gEach, VM.eVar, VM.eC, VM.eBin, VM.eNeg, VM.eCmp, VM.eChain, VM.tOf, VM.tCmp, VM.tChain, VM.tAnd, VM.tOr, VM.tNot, VM.tYes, VM.eTest, VM.eAnd, VM.eOr, VM.eNot, VM.eIf, VM.aNil, VM.aCons, VM.eLst, VM.eLstM, VM.eTup, VM.eCall, VM.eIx, VM.getIx, VM.eSl, VM.getSl, VM.iE, VM.iRange1, VM.iRange2, VM.iZip, VM.iRev, VM.eComp, VM.eCompM, VM.eAppend, VM.eInsert, VM.eB1, VM.fLen, VM.fAbs, VM.fInt, VM.fList, VM.fListM, VM.fTuple, VM.fSum, VM.fAll, VM.fAny, VM.fIsi, VM.bLen, VM.seqOf, VM.sq, VM.asL, VM.items, VM.isSeq, VM.truth, VM.opBin, VM.opAdd, VM.opSub, VM.opMul, VM.opFdiv, VM.opMod, VM.opPow, VM.opCm, VM.opEq, VM.frz, VM.isD, VM.eqv, VM.isNon, VM.kdOf, VM.D0, VM.turn, List.map_cons, List.map_nil, List.replicate_succ, List.replicate_zero, List.cons_append, List.nil_append, List.getElem?_cons_zero, List.getElem?_cons_succ, List.set_cons_zero, List.set_cons_succ, Nat.reduceSub, VM.wipe, List.length_cons, List.length_nil, Nat.reduceAdd]
      refine ⟨trivial, trivial, ?_⟩
      by_cases he : pre.length = least
      · have hb : (!((pre.length : Int) == (least : Int))) = false := by simp [he]
        rw [hb, if_neg Bool.false_ne_true]
        refine d4 _ _ ⟨rfl, _, _, stay, rest', pre ++ [.int pre.length], rfl, by simpa using hp, i2, i3, fun i hi' h hne => ?_, i5, ?_⟩
        · rw [List.length_append, List.length_singleton] at h
          exact i4 i hi' (by omega) hne
        · rw [List.length_append, List.length_singleton]
          rw [if_neg (by omega)] at i6
          rw [if_pos (by omega)]
          omega
      · have hb : (!((pre.length : Int) == (least : Int))) = true := by
          have : ((pre.length : Int) == (least : Int)) = false := by rw [beq_eq_false_iff_ne]; omega
          rw [this]; rfl
        rw [hb, if_pos rfl]
        obtain ⟨x1, x2⟩ := ixr hi
        obtain ⟨x5, x6⟩ := ixv (gt hi)
        obtain ⟨x7, x8⟩ := ixv (v := head) (at_ := at_) (by omega)
        generalize hsd : left[pre.length] = s at x2 x5 x6
        have ms : s ∈ left := by rw [← hsd]; exact List.getElem_mem hi
        simp only [VM.sNil, VM.sCons, VM.sSet, VM.sPar, VM.sSetIx, VM.setIx, VM.sExpr, VM.sRet, VM.sRetN, VM.sIf, VM.sBreak, VM.sCont, VM.sFor, VM.gName, VM.gTup, VM.gEach, VM.eVar, VM.eC, VM.eBin, VM.eNeg, VM.eCmp, VM.eChain, VM.tOf, VM.tCmp, VM.tChain, VM.tAnd, VM.tOr, VM.tNot, VM.tYes, VM.eTest, VM.eAnd, VM.eOr, VM.eNot, VM.eIf, VM.aNil, VM.aCons, VM.eLst, VM.eLstM, VM.eTup, VM.eCall, VM.eIx, VM.getIx, VM.eSl, VM.getSl, VM.iE, VM.iRange1, VM.iRange2, VM.iZip, VM.iRev, VM.eComp, VM.eCompM, VM.eAppend, VM.eInsert, VM.eB1, VM.fLen, VM.fAbs, VM.fInt, VM.fList, VM.fListM, VM.fTuple, VM.fSum, VM.fAll, VM.fAny, VM.fIsi, VM.bLen, VM.seqOf, VM.sq, VM.asL, VM.items, VM.isSeq, VM.truth, VM.opBin, VM.opAdd, VM.opSub, VM.opMul, VM.opFdiv, VM.opMod, VM.opPow, VM.opCm, VM.opEq, VM.frz, VM.isD, VM.eqv, VM.isNon, VM.kdOf, VM.D0, VM.turn, List.map_cons, List.map_nil, List.replicate_succ, List.replicate_zero, List.cons_append, List.nil_append, List.getElem?_cons_zero, List.getElem?_cons_succ, List.set_cons_zero, List.set_cons_succ, Nat.reduceSub, VM.wipe, List.length_cons, List.length_nil, Nat.reduceAdd, x1, x2, x5, x6, x7, x8]
        have nzh := c.nz head hm
        refine ⟨nzh, ?_⟩
        have bs := c.small s ms
        have bh := c.small head hm
        have ls : s.length = head.length := (lw s ms).trans lh.symm
        obtain ⟨σ0, hσ0, hp0⟩ : ∃ σ : Int, (σ = 1 ∨ σ = -1) ∧ 0 < σ * nth head at_ := by
          by_cases h : 0 < nth head at_
          · exact ⟨1, .inl rfl, by omega⟩
          · exact ⟨-1, .inr rfl, by omega⟩
        have bq := (fdiv_sign (s := nth s at_) hσ0 hp0).2.2
        have bsn := bs.nth at_
        refine mn s head _ _ _ _ (fun b mb => mulOk_of (bh b mb) (Nat.lt_of_le_of_lt bq bsn) (by omega) (by omega) (by omega)) (by rw [lw s ms]; show _ ≤ 16777216; omega) ?_
        have lr : (red at_ s head).length = w := (sub1_len ls).trans (lw s ms)
        obtain ⟨y1, y2⟩ := ixv (v := red at_ s head) (at_ := at_) (by omega)
        have y1' : ix (pvis (sub1 s head ((nth s at_).fdiv (nth head at_)))).length (at_ : Int) = some at_ := y1
        have y2' : (pvis (sub1 s head ((nth s at_).fdiv (nth head at_))))[at_]? = some (.int (nth (red at_ s head) at_)) := y2
        simp only [VM.sNil, VM.sCons, VM.sSet, VM.sPar, VM.sSetIx, VM.setIx, VM.sExpr, VM.sRet, VM.sRetN, VM.sIf, VM.sBreak, VM.sCont, VM.sFor, VM.gName, VM.gTup, VM.gEach, VM.eVar, VM.eC, VM.eBin, VM.eNeg, VM.eCmp, VM.eChain, VM.tOf, VM.tCmp, VM.tChain, VM.tAnd, VM.tOr, VM.tNot, VM.tYes, VM.eTest, VM.eAnd, VM.eOr, VM.eNot, VM.eIf, VM.aNil, VM.aCons, VM.eLst, VM.eLstM, VM.eTup, VM.eCall, VM.eIx, VM.getIx, VM.eSl, VM.getSl, VM.iE, VM.iRange1, VM.iRange2, VM.iZip, VM.iRev, VM.eComp, VM.eCompM, VM.eAppend, VM.eInsert, VM.eB1, VM.fLen, VM.fAbs, VM.fInt, VM.fList, VM.fListM, VM.fTuple, VM.fSum, VM.fAll, VM.fAny, VM.fIsi, VM.bLen, VM.seqOf, VM.sq, VM.asL, VM.items, VM.isSeq, VM.truth, VM.opBin, VM.opAdd, VM.opSub, VM.opMul, VM.opFdiv, VM.opMod, VM.opPow, VM.opCm, VM.opEq, VM.frz, VM.isD, VM.eqv, VM.isNon, VM.kdOf, VM.D0, VM.turn, List.map_cons, List.map_nil, List.replicate_succ, List.replicate_zero, List.cons_append, List.nil_append, List.getElem?_cons_zero, List.getElem?_cons_succ, List.set_cons_zero, List.set_cons_succ, Nat.reduceSub, VM.wipe, List.length_cons, List.length_nil, Nat.reduceAdd, ilst, y1', y2']
        refine ⟨trivial, trivial, ?_⟩
        have in4 : ∀ st4 re4 : List Vec, (∀ r ∈ stay, r ∈ st4) → (∀ r ∈ rest', r ∈ re4) → red at_ s head ∈ st4 ++ re4 → ∀ i (hi' : i < left.length), i < (pre ++ [PV.int (pre.length : Nat)]).length → i ≠ least → red at_ left[i] head ∈ st4 ++ re4 := fun st4 re4 k1 k2 k3 i hi' h hne => by
          rw [List.length_append, List.length_singleton] at h
          by_cases he2 : i = pre.length
          · subst he2
            rw [hsd]
            exact k3
          · rcases List.mem_append.mp (i4 i hi' (by omega) hne) with m | m
            · exact List.mem_append_left _ (k1 _ m)
            · exact List.mem_append_right _ (k2 _ m)
        have cnt4 : (if least < (pre ++ [PV.int (pre.length : Nat)]).length then 1 else 0) = (if least < pre.length then 1 else 0 : Nat) := by
          rw [List.length_append, List.length_singleton]
          by_cases h : least < pre.length
          · rw [if_pos h, if_pos (by omega)]
          · rw [if_neg h, if_neg (by omega)]
        have tot : stay.length + rest'.length ≤ 2000 := by
          have : pre.length < left.length := hi
          omega
        by_cases hz : nth (red at_ s head) at_ = 0
        · have hb2 : (!(nth (red at_ s head) at_ == 0)) = false := by rw [hz]; rfl
          refine (if_neg (show ¬ (!(nth (red at_ s head) at_ == 0)) = true by rw [hb2]; exact Bool.false_ne_true)).mpr' ?_
          refine ⟨by decide, by simp; show _ ≤ 16777216; omega, ?_⟩
          refine d4 _ _ ⟨rfl, some (ilst (red at_ s head)), some (.int pre.length), stay, rest' ++ [red at_ s head], pre ++ [.int pre.length], by simp [red, ilst, rl], by simpa using hp, i2, fun r m => ?_, in4 _ _ (fun _ m => m) (fun _ m => List.mem_append_left _ m) (by simp), fun r m => List.mem_append_left _ (i5 r m), ?_⟩
          · rcases List.mem_append.mp m with m | m
            · exact i3 r m
            · rw [List.mem_singleton.mp m]; exact .inr ⟨s, ms, rfl, hz⟩
          · rw [cnt4, List.length_append, List.length_append, List.length_singleton, List.length_singleton]
            omega
        · have hb2 : (!(nth (red at_ s head) at_ == 0)) = true := by
            have : (nth (red at_ s head) at_ == 0) = false := by rw [beq_eq_false_iff_ne]; exact hz
            rw [this]; rfl
          refine (if_pos (show (!(nth (red at_ s head) at_ == 0)) = true from hb2)).mpr' ?_
          refine ⟨by decide, by simp; show _ ≤ 16777216; omega, ?_⟩
          refine d4 _ _ ⟨rfl, some (ilst (red at_ s head)), some (.int pre.length), stay ++ [red at_ s head], rest', pre ++ [.int pre.length], by simp [red, ilst, rl], by simpa using hp, fun r m => ?_, i3, in4 _ _ (fun _ m => List.mem_append_left _ m) (fun _ m => m) (by simp), i5, ?_⟩
          · rcases List.mem_append.mp m with m | m
            · exact i2 r m
            · rw [List.mem_singleton.mp m]; exact ⟨s, ms, rfl, hz⟩
          · rw [cnt4, List.length_append, List.length_append, List.length_singleton, List.length_singleton]
            omega
    · rintro ρ st' ⟨rfl, b3, b6, stay, rest', pre, rfl, hp, i2, i3, i4, i5, i6⟩
      refine ⟨trivial, ?_⟩
      rw [List.append_nil] at hp
      have hpl := range_pre hp
      simp only [VM.sNil, VM.sCons, VM.sSet, VM.sPar, VM.sSetIx, VM.setIx, VM.sExpr, VM.sRet, VM.sRetN, VM.sIf, VM.sBreak, VM.sCont, VM.sFor, VM.gName, VM.gTup, VM.gEach, VM.eVar, VM.eC, VM.eBin, VM.eNeg, VM.eCmp, VM.eChain, VM.tOf, VM.tCmp, VM.tChain, VM.tAnd, VM.tOr, VM.tNot, VM.tYes, VM.eTest, VM.eAnd, VM.eOr, VM.eNot, VM.eIf, VM.aNil, VM.aCons, VM.eLst, VM.eLstM, VM.eTup, VM.eCall, VM.eIx, VM.getIx, VM.eSl, VM.getSl, VM.iE, VM.iRange1, VM.iRange2, VM.iZip, VM.iRev, VM.eComp, VM.eCompM, VM.eAppend, VM.eInsert, VM.eB1, VM.fLen, VM.fAbs, VM.fInt, VM.fList, VM.fListM, VM.fTuple, VM.fSum, VM.fAll, VM.fAny, VM.fIsi, VM.bLen, VM.seqOf, VM.sq, VM.asL, VM.items, VM.isSeq, VM.truth, VM.opBin, VM.opAdd, VM.opSub, VM.opMul, VM.opFdiv, VM.opMod, VM.opPow, VM.opCm, VM.opEq, VM.frz, VM.isD, VM.eqv, VM.isNon, VM.kdOf, VM.D0, VM.turn, List.map_cons, List.map_nil, List.replicate_succ, List.replicate_zero, List.cons_append, List.nil_append, List.getElem?_cons_zero, List.getElem?_cons_succ, List.set_cons_zero, List.set_cons_succ, Nat.reduceSub, VM.wipe, List.length_cons, List.length_nil, Nat.reduceAdd]
      refine hk head (head :: stay) rest' _ _ _ _ _ hm hmn ⟨List.mem_cons_self .., fun r m => ?_, i3, fun s ms => ?_, i5, ?_, stay, rfl, i2⟩
      · rcases List.mem_cons.mp m with e | m
        · exact .inl e
        · exact .inr (i2 r m)
      · obtain ⟨i, hi, rfl⟩ := List.mem_iff_getElem.mp ms
        by_cases he : i = least
        · subst he; exact .inl hh
        · right
          have := i4 i hi (by omega) he
          simp only [List.mem_append, List.mem_cons] at this ⊢
          rcases this with m | m
          · exact .inl (.inr m)
          · exact .inr m
      · rw [if_pos (by omega)] at i6
        rw [List.length_cons]
        omega
theorem cleared_at {FT : Nat → Option FD} {d : Nat} (hF : FT 7 = some ⟨2, 9, T_cleared⟩) (h1 : At FT d SpMinus) : At FT (d + 1) SpCleared := at_of hF h1 fun cs cs' mn go => by
  intro rows w at_ e st k x hl hb hat hw hrl hs hk
  refine go _ _ _ _ rfl ?_
  show (sCons _ (sCons _ (sCons (sWhile _ (clBody cs)) _))) _ _ _
  have ge : ∀ r ∈ rows, ix (pvis r).length (at_ : Int) = some at_ ∧ (pvis r)[at_]? = some (.int (nth r at_)) := fun r m => ixv (by rw [hl r m]; exact hat)
  simp only [VM.sNil, VM.sCons, VM.sSet, VM.sPar, VM.sSetIx, VM.setIx, VM.sExpr, VM.sRet, VM.sRetN, VM.sIf, VM.sBreak, VM.sCont, VM.sFor, VM.gName, VM.gTup, VM.gEach, VM.eVar, VM.eC, VM.eBin, VM.eNeg, VM.eCmp, VM.eChain, VM.tOf, VM.tCmp, VM.tChain, VM.tAnd, VM.tOr, VM.tNot, VM.tYes, VM.eTest, VM.eAnd, VM.eOr, VM.eNot, VM.eIf, VM.aNil, VM.aCons, VM.eLst, VM.eLstM, VM.eTup, VM.eCall, VM.eIx, VM.getIx, VM.eSl, VM.getSl, VM.iE, VM.iRange1, VM.iRange2, VM.iZip, VM.iRev, VM.eComp, VM.eCompM, VM.eAppend, VM.eInsert, VM.eB1, VM.fLen, VM.fAbs, VM.fInt, VM.fList, VM.fListM, VM.fTuple, VM.fSum, VM.fAll, VM.fAny, VM.fIsi, VM.bLen, VM.seqOf, VM.sq, VM.asL, VM.items, VM.isSeq, VM.truth, VM.opBin, VM.opAdd, VM.opSub, VM.opMul, VM.opFdiv, VM.opMod, VM.opPow, VM.opCm, VM.opEq, VM.frz, VM.isD, VM.eqv, VM.isNon, VM.kdOf, VM.D0, VM.turn, List.map_cons, List.map_nil, List.replicate_succ, List.replicate_zero, List.cons_append, List.nil_append, List.getElem?_cons_zero, List.getElem?_cons_succ, List.set_cons_zero, List.set_cons_succ, Nat.reduceSub, VM.wipe, List.length_cons, List.length_nil, Nat.reduceAdd]
  refine ⟨trivial, comp_of ilst (fun r => if (!decide (nth r at_ = 0)) = true then some (ilst r) else none) trivial rows (fun r m k' hk' => ?_) (by show _ ≤ 16777216; omega) ?_⟩
  · obtain ⟨x1, x2⟩ := ge r m
    simp only [VM.sNil, VM.sCons, VM.sSet, VM.sPar, VM.sSetIx, VM.setIx, VM.sExpr, VM.sRet, VM.sRetN, VM.sIf, VM.sBreak, VM.sCont, VM.sFor, VM.gName, VM.gTup, VM.gEach, VM.eVar, VM.eC, VM.eBin, VM.eNeg, VM.eCmp, VM.eChain, VM.tOf, VM.tCmp, VM.tChain, VM.tAnd, VM.tOr, VM.tNot, VM.tYes, VM.eTest, VM.eAnd, VM.eOr, VM.eNot, VM.eIf, VM.aNil, VM.aCons, VM.eLst, VM.eLstM, VM.eTup, VM.eCall, VM.eIx, VM.getIx, VM.eSl, VM.getSl, VM.iE, VM.iRange1, VM.iRange2, VM.iZip, VM.iRev, VM.eComp, VM.eCompM, VM.eAppend, VM.eInsert, VM.eB1, VM.fLen, VM.fAbs, VM.fInt, VM.fList, VM.fListM, VM.fTuple, VM.fSum, VM.fAll, VM.fAny, VM.fIsi, VM.bLen, VM.seqOf, VM.sq, VM.asL, VM.items, VM.isSeq, VM.truth, VM.opBin, VM.opAdd, VM.opSub, VM.opMul, VM.opFdiv, VM.opMod, VM.opPow, VM.opCm, VM.opEq, VM.frz, VM.isD, VM.eqv, VM.isNon, VM.kdOf, VM.D0, VM.turn, List.map_cons, List.map_nil, List.replicate_succ, List.replicate_zero, List.cons_append, List.nil_append, List.getElem?_cons_zero, List.getElem?_cons_succ, List.set_cons_zero, List.set_cons_succ, Nat.reduceSub, VM.wipe, List.length_cons, List.length_nil, Nat.reduceAdd, x1, x2]
    refine ⟨trivial, trivial, ?_⟩
    by_cases z : nth r at_ = 0
    · simpa [z] using hk'
    · simpa [z] using hk'
  rw [fm_filter]
  refine ⟨trivial, comp_of ilst (fun r => if (decide (nth r at_ = 0)) = true then some (ilst r) else none) trivial rows (fun r m k' hk' => ?_) (by show _ ≤ 16777216; omega) ?_⟩
  · obtain ⟨x1, x2⟩ := ge r m
    simp only [VM.sNil, VM.sCons, VM.sSet, VM.sPar, VM.sSetIx, VM.setIx, VM.sExpr, VM.sRet, VM.sRetN, VM.sIf, VM.sBreak, VM.sCont, VM.sFor, VM.gName, VM.gTup, VM.gEach, VM.eVar, VM.eC, VM.eBin, VM.eNeg, VM.eCmp, VM.eChain, VM.tOf, VM.tCmp, VM.tChain, VM.tAnd, VM.tOr, VM.tNot, VM.tYes, VM.eTest, VM.eAnd, VM.eOr, VM.eNot, VM.eIf, VM.aNil, VM.aCons, VM.eLst, VM.eLstM, VM.eTup, VM.eCall, VM.eIx, VM.getIx, VM.eSl, VM.getSl, VM.iE, VM.iRange1, VM.iRange2, VM.iZip, VM.iRev, VM.eComp, VM.eCompM, VM.eAppend, VM.eInsert, VM.eB1, VM.fLen, VM.fAbs, VM.fInt, VM.fList, VM.fListM, VM.fTuple, VM.fSum, VM.fAll, VM.fAny, VM.fIsi, VM.bLen, VM.seqOf, VM.sq, VM.asL, VM.items, VM.isSeq, VM.truth, VM.opBin, VM.opAdd, VM.opSub, VM.opMul, VM.opFdiv, VM.opMod, VM.opPow, VM.opCm, VM.opEq, VM.frz, VM.isD, VM.eqv, VM.isNon, VM.kdOf, VM.D0, VM.turn, List.map_cons, List.map_nil, List.replicate_succ, List.replicate_zero, List.cons_append, List.nil_append, List.getElem?_cons_zero, List.getElem?_cons_succ, List.set_cons_zero, List.set_cons_succ, Nat.reduceSub, VM.wipe, List.length_cons, List.length_nil, Nat.reduceAdd, x1, x2]
    refine ⟨trivial, trivial, ?_⟩
    by_cases z : nth r at_ = 0
    · simpa [z] using hk'
    · simpa [z] using hk'
  rw [fm_filter]
  have c0 := filter_nz at_ rows w e hl hb
  refine while_meas (fun m ρ st' => st' = st ∧ ∃ (a3 a5 a6 a7 a8 : Option PV) (left rest : List Vec), ρ = [some (rl rows), some (.int at_), some (rl left), a3, some (rl rest), a5, a6, a7, a8] ∧ Cl w at_ e rows left rest ∧ (1 < left.length → ∃ r ∈ left, (nth r at_).natAbs ≤ m) ∧ Few at_ rows left rest) ?_ (2 ^ e) _ _ ⟨rfl, _, _, _, _, _, _, _, rfl, c0, fun h => ?_, .inr ⟨rfl, rfl⟩⟩
  · rintro m ρ st' ⟨rfl, a3, a5, a6, a7, a8, left, rest, rfl, c, hm, few⟩ D' d1 d2 d3 d4 d5
    have few2 : 1 < left.length → 1 < (fnz at_ rows).length := fun h => by
      rcases few with f | ⟨f, _⟩
      · exact f
      · rw [← f]; exact h
    simp only [VM.sNil, VM.sCons, VM.sSet, VM.sPar, VM.sSetIx, VM.setIx, VM.sExpr, VM.sRet, VM.sRetN, VM.sIf, VM.sBreak, VM.sCont, VM.sFor, VM.gName, VM.gTup, VM.gEach, VM.eVar, VM.eC, VM.eBin, VM.eNeg, VM.eCmp, VM.eChain, VM.tOf, VM.tCmp, VM.tChain, VM.tAnd, VM.tOr, VM.tNot, VM.tYes, VM.eTest, VM.eAnd, VM.eOr, VM.eNot, VM.eIf, VM.aNil, VM.aCons, VM.eLst, VM.eLstM, VM.eTup, VM.eCall, VM.eIx, VM.getIx, VM.eSl, VM.getSl, VM.iE, VM.iRange1, VM.iRange2, VM.iZip, VM.iRev, VM.eComp, VM.eCompM, VM.eAppend, VM.eInsert, VM.eB1, VM.fLen, VM.fAbs, VM.fInt, VM.fList, VM.fListM, VM.fTuple, VM.fSum, VM.fAll, VM.fAny, VM.fIsi, VM.bLen, VM.seqOf, VM.sq, VM.asL, VM.items, VM.isSeq, VM.truth, VM.opBin, VM.opAdd, VM.opSub, VM.opMul, VM.opFdiv, VM.opMod, VM.opPow, VM.opCm, VM.opEq, VM.frz, VM.isD, VM.eqv, VM.isNon, VM.kdOf, VM.D0, VM.turn, List.map_cons, List.map_nil, List.replicate_succ, List.replicate_zero, List.cons_append, List.nil_append, List.getElem?_cons_zero, List.getElem?_cons_succ, List.set_cons_zero, List.set_cons_succ, Nat.reduceSub, VM.wipe, List.length_cons, List.length_nil, Nat.reduceAdd, List.length_map]
    by_cases h : 1 < left.length
    · have h' : (1 : Int) < (left.length : Int) := by omega
      simp only [h', decide_true, if_true]
      refine cl_turn mn hl hat hw hrl hs c h fun head late rest' b3 b5 b6 b7 b8 hm1 hm2 I => ?_
      obtain ⟨r0, mr0, er0⟩ := hm h
      have := hm2 r0 mr0
      have nz := c.nz head hm1
      by_cases h2 : 1 < late.length
      · obtain ⟨r, mr, er⟩ := I.less c hm1 h2
        exact d4 (nth r at_).natAbs _ _ (by omega) ⟨rfl, _, _, _, _, _, late, rest', rfl, c.step hl hm1 hm2 I, (fun _ => ⟨r, mr, Nat.le_refl _⟩), .inl (few2 h)⟩
      · exact d4 0 _ _ (by omega) ⟨rfl, _, _, _, _, _, late, rest', rfl, c.step hl hm1 hm2 I, (fun h3 => (h2 h3).elim), .inl (few2 h)⟩
    · have h' : ¬ (1 : Int) < (left.length : Int) := by omega
      simp only [h', decide_false, Bool.false_eq_true, if_false]
      exact ⟨by decide, hk left rest ⟨c, by omega, few⟩⟩
  · cases hf : rows.filter fun r => !decide (nth r at_ = 0) with
    | nil => rw [hf] at h; simp at h
    | cons r l =>
      have mr : r ∈ rows.filter fun r => !decide (nth r at_ = 0) := by rw [hf]; exact List.mem_cons_self ..
      exact ⟨r, List.mem_cons_self .., Nat.le_of_lt ((hb r (List.mem_filter.mp mr).1).nth at_)⟩
end VP
end
section
namespace VP
open VM ML
/-- a vector written as a tuple or as a list -/
def encV (p : Bool × Vec) : PV := if p.1 then itup p.2 else ilst p.2
/-- a list or tuple of vectors -/
def VecsOf (st : Store) (vv : PV) (ys : List (Bool × Vec)) : Prop := items st vv = some (ys.map encV) ∧ isSeq st vv = true ∧ bLen vv st = some ys.length ∧ ∀ st', stays st vv st' → True
theorem seq_enc {st : Store} (p : Bool × Vec) : seqOf st (encV p) = some (pvis p.2) ∧ sq st (encV p) = some (pvis p.2) ∧ items st (encV p) = some (pvis p.2) ∧ bLen (encV p) st = some p.2.length := by
  obtain ⟨b, v⟩ := p
  cases b <;> simp [encV, seqOf, sq, asL, items, bLen]
abbrev hd (x : Nat × Vec) : PV := .tup [.int (x.1 : Nat), ilst x.2]
def EchR (w wd e : Nat) (vs : List Vec) (ps : Ps) (rest : List Vec) : Prop := Ech w (Span w vs) wd ps rest ∧ (∀ p a, (p, a) ∈ ps → Bb (ex e wd) a) ∧ (∀ r ∈ rest, Bb (ex e wd) r) ∧ ps.length ≤ wd ∧ rest.length ≤ vs.length
def SpEch (cs : CS) : Prop := ∀ (vv : PV) (ys : List (Bool × Vec)) (w wd e : Nat) (st : Store) (k x : KV), items st vv = some (ys.map encV) → isSeq st vv = true → stays st vv st → Len w (ys.map (·.2)) → (∀ r ∈ ys.map (·.2), Bb e r) → wd ≤ w → w ≤ 1000 → ys.length ≤ 1000 → 8 * ex e wd + 10 ≤ 100000000 →
  (∀ ps rest, EchR w wd e (ys.map (·.2)) ps rest → k (.tup [.lst (ps.map hd), rl rest]) st) → cs 9 [vv, .int wd] st k x
theorem Bb.neg {e : Nat} {v : Vec} (h : Bb e v) : Bb e (v.map fun a => a * -1) := fun z hz => by
  obtain ⟨a, ha, rfl⟩ := List.mem_map.mp hz
  have := h a ha
  omega
theorem nth_neg (v : Vec) (i : Nat) : nth (v.map fun a => a * -1) i = - nth v i := by
  unfold nth
  rw [List.getD_eq_getElem?_getD, List.getD_eq_getElem?_getD, List.getElem?_map]
  cases v[i]? with
  | none => simp
  | some a => simp
theorem neg_sub {v : Vec} {w : Nat} (h : v.length = w) : v.map (fun a => a * -1) = sub1 (zv w) v 1 := by
  have hl : (zv w).length = v.length := by simp [zv, h]
  refine vext (by rw [sub1_len hl, List.length_map]; exact hl.symm) fun i _ => ?_
  rw [nth_neg, nth_sub1 hl, nth_zv]
  omega
theorem neg_neg' (v : Vec) : (v.map fun a => a * -1).map (fun a => a * -1) = v := by
  rw [List.map_map]
  have : ((fun a : Int => a * -1) ∘ fun a => a * -1) = id := funext fun a => by simp
  rw [this, List.map_id]
set_option maxHeartbeats 1000000 in
theorem ech_at {FT : Nat → Option FD} {d : Nat} (hF : FT 9 = some ⟨2, 8, T_echelon⟩) (h1 : At FT d SpCleared) (h2 : At FT d SpTimes) : At FT (d + 1) SpEch := at_of (C := fun cs => SpCleared cs ∧ SpTimes cs) hF (fun n hn => ⟨h1 n hn, h2 n hn⟩) fun cs cs' C go => by
  obtain ⟨cl, tm⟩ := C
  intro vv ys w wd e st k x hi hq hst hl hb hwd hw hy hs hk
  refine go _ _ _ _ rfl ?_
  have hL := span_lat hl
  have h0 : Span w (ys.map (·.2)) (zv w) := .zero
  simp only [T_echelon, VM.sNil, VM.sCons, VM.sSet, VM.sPar, VM.sSetIx, VM.setIx, VM.sExpr, VM.sRet, VM.sRetN, VM.sIf, VM.sBreak, VM.sCont, VM.sFor, VM.gName, VM.gTup, VM.gEach, VM.eVar, VM.eC, VM.eBin, VM.eNeg, VM.eCmp, VM.eChain, VM.tOf, VM.tCmp, VM.tChain, VM.tAnd, VM.tOr, VM.tNot, VM.tYes, VM.eTest, VM.eAnd, VM.eOr, VM.eNot, VM.eIf, VM.aNil, VM.aCons, VM.eLst, VM.eLstM, VM.eTup, VM.eCall, VM.eIx, VM.eSl, VM.iE, VM.iRange1, VM.iRange2, VM.iZip, VM.iRev, VM.eComp, VM.eCompM, VM.eAppend, VM.eInsert, VM.eB1, VM.fLen, VM.fAbs, VM.fInt, VM.fList, VM.fListM, VM.fTuple, VM.fSum, VM.fAll, VM.fAny, VM.fIsi, VM.opBin, VM.opAdd, VM.opSub, VM.opMul, VM.opFdiv, VM.opMod, VM.opPow, VM.opCm, VM.frz, VM.isD, VM.eqv, VM.isNon, VM.D0, VM.turn, List.map_cons, List.map_nil, List.replicate_succ, List.replicate_zero, List.cons_append, List.nil_append, List.getElem?_cons_zero, List.getElem?_cons_succ, List.set_cons_zero, List.set_cons_succ, Nat.reduceSub, VM.wipe, List.length_cons, List.length_nil, Nat.reduceAdd, hi, hq]
  refine ⟨trivial, comp_of encV (fun p => some (ilst p.2)) hst ys (fun p m k' hk' => ?_) (by show _ ≤ 16777216; omega) ?_⟩
  · simp only [VM.sNil, VM.sCons, VM.sSet, VM.sPar, VM.sSetIx, VM.setIx, VM.sExpr, VM.sRet, VM.sRetN, VM.sIf, VM.sBreak, VM.sCont, VM.sFor, VM.gName, VM.gTup, VM.gEach, VM.eVar, VM.eC, VM.eBin, VM.eNeg, VM.eCmp, VM.eChain, VM.tOf, VM.tCmp, VM.tChain, VM.tAnd, VM.tOr, VM.tNot, VM.tYes, VM.eTest, VM.eAnd, VM.eOr, VM.eNot, VM.eIf, VM.aNil, VM.aCons, VM.eLst, VM.eLstM, VM.eTup, VM.eCall, VM.eIx, VM.eSl, VM.iE, VM.iRange1, VM.iRange2, VM.iZip, VM.iRev, VM.eComp, VM.eCompM, VM.eAppend, VM.eInsert, VM.eB1, VM.fLen, VM.fAbs, VM.fInt, VM.fList, VM.fListM, VM.fTuple, VM.fSum, VM.fAll, VM.fAny, VM.fIsi, VM.opBin, VM.opAdd, VM.opSub, VM.opMul, VM.opFdiv, VM.opMod, VM.opPow, VM.opCm, VM.frz, VM.isD, VM.eqv, VM.isNon, VM.D0, VM.turn, List.map_cons, List.map_nil, List.replicate_succ, List.replicate_zero, List.cons_append, List.nil_append, List.getElem?_cons_zero, List.getElem?_cons_succ, List.set_cons_zero, List.set_cons_succ, Nat.reduceSub, VM.wipe, List.length_cons, List.length_nil, Nat.reduceAdd, (seq_enc p).1, if_true]
    exact hk'
  have e1 : ys.filterMap (fun p => some (ilst p.2)) = (ys.map (·.2)).map ilst := by
    rw [show (fun p : Bool × Vec => some (ilst p.2)) = some ∘ (fun p => ilst p.2) from rfl, List.filterMap_eq_map, List.map_map]
    rfl
  rw [e1]
  refine ⟨by decide, by unfold i62; omega, ?_⟩
  simp only [Int.toNat_natCast]
  refine for_inv (fun rem ρ st' => st' = st ∧ ∃ (a3 a5 a6 a7 : Option PV) (ps : Ps) (rest : List Vec) (pre : List PV), ρ = [some vv, some (.int wd), some (rl rest), a3, some (.lst (ps.map hd)), a5, a6, a7] ∧ pre ++ rem = ((List.range wd).map fun (i : Nat) => PV.int (i : Int)) ∧
    Ech w (Span w (ys.map (·.2))) pre.length ps rest ∧ (∀ p a, (p, a) ∈ ps → Bb (ex e pre.length) a) ∧ (∀ r ∈ rest, Bb (ex e pre.length) r) ∧ ps.length ≤ pre.length ∧ rest.length ≤ ys.length) ?_ ?_ _ _ _ ⟨rfl, _, _, _, _, [], ys.map (·.2), [], rfl, rfl, ech_start hl, fun _ _ m => (nomatch m), hb, Nat.le_refl _, by simp⟩
  · rintro v rem ρ st' ⟨rfl, a3, a5, a6, a7, ps, rest, pre, rfl, hp, E, b1, b2, l1, l2⟩
    refine ⟨trivial, fun D' d1 d2 d3 d4 d5 => ?_⟩
    obtain ⟨rfl, hn⟩ := range_split hp
    have hE : ex e (pre.length + 1) ≤ ex e wd := ex_le e hn
    have hE2 : ex e (pre.length + 1) = 4 * ex e pre.length + 2 := rfl
    simp only [VM.sNil, VM.sCons, VM.sSet, VM.sPar, VM.sSetIx, VM.setIx, VM.sExpr, VM.sRet, VM.sRetN, VM.sIf, VM.sBreak, VM.sCont, VM.sFor, VM.gName, VM.gTup, VM.gEach, VM.eVar, VM.eC, VM.eBin, VM.eNeg, VM.eCmp, VM.eChain, VM.tOf, VM.tCmp, VM.tChain, VM.tAnd, VM.tOr, VM.tNot, VM.tYes, VM.eTest, VM.eAnd, VM.eOr, VM.eNot, VM.eIf, VM.aNil, VM.aCons, VM.eLst, VM.eLstM, VM.eTup, VM.eCall, VM.eIx, VM.eSl, VM.iE, VM.iRange1, VM.iRange2, VM.iZip, VM.iRev, VM.eComp, VM.eCompM, VM.eAppend, VM.eInsert, VM.eB1, VM.fLen, VM.fAbs, VM.fInt, VM.fList, VM.fListM, VM.fTuple, VM.fSum, VM.fAll, VM.fAny, VM.fIsi, VM.opBin, VM.opAdd, VM.opSub, VM.opMul, VM.opFdiv, VM.opMod, VM.opPow, VM.opCm, VM.frz, VM.isD, VM.eqv, VM.isNon, VM.D0, VM.turn, List.map_cons, List.map_nil, List.replicate_succ, List.replicate_zero, List.cons_append, List.nil_append, List.getElem?_cons_zero, List.getElem?_cons_succ, List.set_cons_zero, List.set_cons_succ, Nat.reduceSub, VM.wipe, List.length_cons, List.length_nil, Nat.reduceAdd]
    refine cl rest w pre.length (ex e pre.length) _ _ _ E.lr b2 (by omega) hw (by omega) (by omega) fun left rest' R => ?_
    obtain ⟨c, hlen, _⟩ := R
    have lr' : Len w rest' := fun r m => c.lw r (List.mem_append_right _ m)
    have br : ∀ r ∈ rest', Bb (ex e (pre.length + 1)) r := c.br
    have cnt := c.cnt
    simp only [VM.sNil, VM.sCons, VM.sSet, VM.sPar, VM.sSetIx, VM.setIx, VM.sExpr, VM.sRet, VM.sRetN, VM.sIf, VM.sBreak, VM.sCont, VM.sFor, VM.gName, VM.gTup, VM.gEach, VM.eVar, VM.eC, VM.eBin, VM.eNeg, VM.eCmp, VM.eChain, VM.tOf, VM.tCmp, VM.tChain, VM.tAnd, VM.tOr, VM.tNot, VM.tYes, VM.eTest, VM.eAnd, VM.eOr, VM.eNot, VM.eIf, VM.aNil, VM.aCons, VM.eLst, VM.eLstM, VM.eTup, VM.eCall, VM.eIx, VM.eSl, VM.iE, VM.iRange1, VM.iRange2, VM.iZip, VM.iRev, VM.eComp, VM.eCompM, VM.eAppend, VM.eInsert, VM.eB1, VM.fLen, VM.fAbs, VM.fInt, VM.fList, VM.fListM, VM.fTuple, VM.fSum, VM.fAll, VM.fAny, VM.fIsi, VM.opBin, VM.opAdd, VM.opSub, VM.opMul, VM.opFdiv, VM.opMod, VM.opPow, VM.opCm, VM.frz, VM.isD, VM.eqv, VM.isNon, VM.D0, VM.turn, List.map_cons, List.map_nil, List.replicate_succ, List.replicate_zero, List.cons_append, List.nil_append, List.getElem?_cons_zero, List.getElem?_cons_succ, List.set_cons_zero, List.set_cons_succ, Nat.reduceSub, VM.wipe, List.length_cons, List.length_nil, Nat.reduceAdd]
    refine ⟨trivial, ?_⟩
    match left, hlen, c with
    | [], _, c =>
      simp only [VM.sNil, VM.sCons, VM.sSet, VM.sPar, VM.sSetIx, VM.setIx, VM.sExpr, VM.sRet, VM.sRetN, VM.sIf, VM.sBreak, VM.sCont, VM.sFor, VM.gName, VM.gTup, VM.gEach, VM.eVar, VM.eC, VM.eBin, VM.eNeg, VM.eCmp, VM.eChain, VM.tOf, VM.tCmp, VM.tChain, VM.tAnd, VM.tOr, VM.tNot, VM.tYes, VM.eTest, VM.eAnd, VM.eOr, VM.eNot, VM.eIf, VM.aNil, VM.aCons, VM.eLst, VM.eLstM, VM.eTup, VM.eCall, VM.eIx, VM.getIx, VM.eSl, VM.getSl, VM.iE, VM.iRange1, VM.iRange2, VM.iZip, VM.iRev, VM.eComp, VM.eCompM, VM.eAppend, VM.eInsert, VM.eB1, VM.fLen, VM.fAbs, VM.fInt, VM.fList, VM.fListM, VM.fTuple, VM.fSum, VM.fAll, VM.fAny, VM.fIsi, VM.bLen, VM.seqOf, VM.sq, VM.asL, VM.items, VM.isSeq, VM.truth, VM.opBin, VM.opAdd, VM.opSub, VM.opMul, VM.opFdiv, VM.opMod, VM.opPow, VM.opCm, VM.opEq, VM.frz, VM.isD, VM.eqv, VM.isNon, VM.kdOf, VM.D0, VM.turn, List.map_cons, List.map_nil, List.replicate_succ, List.replicate_zero, List.cons_append, List.nil_append, List.getElem?_cons_zero, List.getElem?_cons_succ, List.set_cons_zero, List.set_cons_succ, Nat.reduceSub, VM.wipe, List.length_cons, List.length_nil, Nat.reduceAdd, isDL, eqvL]
      refine ⟨(by first | trivial | decide | simp [VM.isDL, VM.isD]), (by first | trivial | decide | simp [VM.isDL, VM.isD]), ?_⟩
      simp only [Bool.not_true, Bool.false_eq_true, if_false]
      refine ⟨(by first | trivial | decide | simp [VM.isDL, VM.isD]), ?_⟩
      refine d4 _ _ ⟨rfl, _, _, _, _, ps, rest', pre ++ [.int pre.length], rfl, by simpa using hp, ?_⟩
      rw [List.length_append, List.length_singleton]
      refine ⟨E.none hL h0 lr' (fun r m => c.s1 r (by simpa using m)) (fun r m => by simpa using c.s2 r m) c.zr, fun p a m => (b1 p a m).mono (ex_le e (Nat.le_succ _)), br, by omega, by simp at cnt; omega⟩
    | [row], _, c =>
      have hrw : row.length = w := c.lw row (by simp)
      have nz := c.nz row (by simp)
      have bs := c.small row (by simp)
      obtain ⟨x1, x2⟩ := ixv (v := row) (at_ := pre.length) (by omega)
      have x0 : ix 1 0 = some 0 := rfl
      have fin : ∀ (a : Vec) (q3 : Option PV), a = row ∨ a = row.map (fun z => z * -1) → 0 < nth a pre.length → D'.nx [some vv, some (.int wd), some (rl rest'), a3, some (.lst (ps.map hd ++ [hd (pre.length, a)])), some (.int pre.length), some (rl [row]), some (ilst a)] st' := by
        intro a q3 ha hpos
        have la : a.length = w := by rcases ha with rfl | rfl <;> simp [hrw]
        have ba : Bb (ex e (pre.length + 1)) a := by
          rcases ha with rfl | rfl
          · exact bs.mono (by omega)
          · exact (Bb.neg bs).mono (by omega)
        have LA : Len w (a :: rest') := fun r m => by
          rcases List.mem_cons.mp m with rfl | m
          · exact la
          · exact lr' r m
        have s1 : ∀ r ∈ a :: rest', Span w rest r := fun r m => by
          rcases List.mem_cons.mp m with rfl | m
          · have := c.s1 row (by simp)
            rcases ha with rfl | rfl
            · exact this
            · rw [neg_sub hrw]; exact Span.sub E.lr .zero this 1
          · exact c.s1 r (by simp [m])
        have s2 : ∀ r ∈ rest, Span w (a :: rest') r := fun r m => by
          refine Span.mono LA (fun v mv => ?_) (c.s2 r m)
          have mv' : v = row ∨ v ∈ rest' := by simpa using mv
          rcases mv' with rfl | mv'
          · have ma : Span w (a :: rest') a := Span.mem LA (List.mem_cons_self ..)
            rcases ha with rfl | rfl
            · exact ma
            · have := Span.sub LA .zero ma 1
              rw [← neg_sub (w := w) (by simp [hrw]), neg_neg'] at this
              exact this
          · exact Span.mem LA (List.mem_cons_of_mem _ mv')
        refine d4 _ _ ⟨rfl, _, _, _, _, ps ++ [(pre.length, a)], rest', pre ++ [.int pre.length], by rw [List.map_append]; rfl, by simpa using hp, ?_⟩
        rw [List.length_append, List.length_singleton]
        refine ⟨E.some hL h0 LA s1 s2 c.zr hpos, fun p a' m => ?_, br, by rw [List.length_append, List.length_singleton]; omega, by simp at cnt; omega⟩
        rcases List.mem_append.mp m with m | m
        · exact (b1 p a' m).mono (ex_le e (Nat.le_succ _))
        · cases List.mem_singleton.mp m
          exact ba
      have hps : (ps.map hd).length + 1 ≤ SZ := by rw [List.length_map]; show _ ≤ 16777216; omega
      simp only [VM.sNil, VM.sCons, VM.sSet, VM.sPar, VM.sSetIx, VM.setIx, VM.sExpr, VM.sRet, VM.sRetN, VM.sIf, VM.sBreak, VM.sCont, VM.sFor, VM.gName, VM.gTup, VM.gEach, VM.eVar, VM.eC, VM.eBin, VM.eNeg, VM.eCmp, VM.eChain, VM.tOf, VM.tCmp, VM.tChain, VM.tAnd, VM.tOr, VM.tNot, VM.tYes, VM.eTest, VM.eAnd, VM.eOr, VM.eNot, VM.eIf, VM.aNil, VM.aCons, VM.eLst, VM.eLstM, VM.eTup, VM.eCall, VM.eIx, VM.getIx, VM.eSl, VM.getSl, VM.iE, VM.iRange1, VM.iRange2, VM.iZip, VM.iRev, VM.eComp, VM.eCompM, VM.eAppend, VM.eInsert, VM.eB1, VM.fLen, VM.fAbs, VM.fInt, VM.fList, VM.fListM, VM.fTuple, VM.fSum, VM.fAll, VM.fAny, VM.fIsi, VM.bLen, VM.seqOf, VM.sq, VM.asL, VM.items, VM.isSeq, VM.truth, VM.opBin, VM.opAdd, VM.opSub, VM.opMul, VM.opFdiv, VM.opMod, VM.opPow, VM.opCm, VM.opEq, VM.frz, VM.isD, VM.eqv, VM.isNon, VM.kdOf, VM.D0, VM.turn, List.map_cons, List.map_nil, List.replicate_succ, List.replicate_zero, List.cons_append, List.nil_append, List.getElem?_cons_zero, List.getElem?_cons_succ, List.set_cons_zero, List.set_cons_succ, Nat.reduceSub, VM.wipe, List.length_cons, List.length_nil, Nat.reduceAdd, isDL, eqvL, ilst, isDL_ints, x0, x1, x2]
      refine ⟨(by first | trivial | decide | simp [VM.isDL, VM.isD]), (by first | trivial | decide | simp [VM.isDL, VM.isD]), ?_⟩
      simp only [Bool.not_false, if_true]
      refine ⟨(by first | trivial | decide | simp [VM.isDL, VM.isD]), ?_⟩
      by_cases hneg : nth row pre.length < 0
      · simp only [hneg, decide_true, if_true]
        refine tm row (-1) _ _ _ (fun b mb => mulOk_of (bs b mb) (b := 1) (by decide) (by omega) (by decide) (by omega)) (by rw [hrw]; show _ ≤ 16777216; omega) ?_
        refine ⟨by decide, by decide, hps, ?_⟩
        have := fin (row.map fun z => z * -1) none (.inr rfl) (by rw [nth_neg]; omega)
        exact this
      · simp only [hneg, decide_false, Bool.false_eq_true, if_false]
        refine ⟨by decide, by decide, hps, ?_⟩
        exact fin row none (.inl rfl) (by omega)
  · rintro ρ st' ⟨rfl, a3, a5, a6, a7, ps, rest, pre, rfl, hp, E, b1, b2, l1, l2⟩
    rw [List.append_nil] at hp
    have hpl := range_pre hp
    rw [hpl] at E b1 b2 l1
    refine ⟨trivial, ?_⟩
    simp only [VM.sNil, VM.sCons, VM.sSet, VM.sPar, VM.sSetIx, VM.setIx, VM.sExpr, VM.sRet, VM.sRetN, VM.sIf, VM.sBreak, VM.sCont, VM.sFor, VM.gName, VM.gTup, VM.gEach, VM.eVar, VM.eC, VM.eBin, VM.eNeg, VM.eCmp, VM.eChain, VM.tOf, VM.tCmp, VM.tChain, VM.tAnd, VM.tOr, VM.tNot, VM.tYes, VM.eTest, VM.eAnd, VM.eOr, VM.eNot, VM.eIf, VM.aNil, VM.aCons, VM.eLst, VM.eLstM, VM.eTup, VM.eCall, VM.eIx, VM.getIx, VM.eSl, VM.getSl, VM.iE, VM.iRange1, VM.iRange2, VM.iZip, VM.iRev, VM.eComp, VM.eCompM, VM.eAppend, VM.eInsert, VM.eB1, VM.fLen, VM.fAbs, VM.fInt, VM.fList, VM.fListM, VM.fTuple, VM.fSum, VM.fAll, VM.fAny, VM.fIsi, VM.bLen, VM.seqOf, VM.sq, VM.asL, VM.items, VM.isSeq, VM.truth, VM.opBin, VM.opAdd, VM.opSub, VM.opMul, VM.opFdiv, VM.opMod, VM.opPow, VM.opCm, VM.opEq, VM.frz, VM.isD, VM.eqv, VM.isNon, VM.kdOf, VM.D0, VM.turn, List.map_cons, List.map_nil, List.replicate_succ, List.replicate_zero, List.cons_append, List.nil_append, List.getElem?_cons_zero, List.getElem?_cons_succ, List.set_cons_zero, List.set_cons_succ, Nat.reduceSub, VM.wipe, List.length_cons, List.length_nil, Nat.reduceAdd]
    exact ⟨by decide, hk ps rest ⟨E, b1, b2, l1, by simpa using l2⟩⟩
end VP
end
section
namespace VP
open VM ML
theorem sq_facts {st : Store} {u : PV} {xs : List PV} (h : sq st u = some xs) : items st u = some xs ∧ isSeq st u = true ∧ bLen u st = some xs.length ∧ ∀ (i : Int) (n : Nat) (y : PV) (k : KV), ix xs.length i = some n → xs[n]? = some y → k y st → getIx u (.int i) st k := by
  by_cases ht : ∃ ys, u = .tup ys
  · obtain ⟨ys, rfl⟩ := ht
    cases h
    refine ⟨rfl, rfl, rfl, fun i n y k h1 h2 h3 => ?_⟩
    simp only [getIx, h1, h2]
    exact h3
  · have h2 : asL st u = some xs := by
      cases u <;> first | exact h | exact (ht ⟨_, rfl⟩).elim
    exact ⟨(items_asL h2).1, (items_asL h2).2, bLen_asL h2, fun i n y k h3 h4 h5 => getIx_asL h2 h3 h4 h5⟩
theorem stays_self (u : PV) (st : Store) : stays st u st := by cases u <;> first | trivial | rfl
theorem slc_drop {α : Type} (xs : List α) (n : Nat) : slc xs (some (n : Int)) none = xs.drop n := by
  unfold slc cutIx
  simp only []
  rw [if_neg (by omega), Int.toNat_natCast]
  by_cases h : n ≤ xs.length
  · rw [Nat.min_eq_left h]
    exact List.take_of_length_le (by rw [List.length_drop]; omega)
  · rw [Nat.min_eq_right (by omega), List.drop_length, List.drop_of_length_le (by omega)]
    simp
theorem redA_get : ∀ (ps : Ps) (i : Nat) (p : Nat) (a : Vec), ps[i]? = some (p, a) → (redA ps)[i]? = some (p, lower a (ps.drop (i + 1)))
  | [], _, _, _, h => by simp at h
  | (q, b) :: ps, 0, p, a, h => by
    simp at h
    obtain ⟨rfl, rfl⟩ := h
    simp [redA]
  | (q, b) :: ps, i + 1, p, a, h => by
    have := redA_get ps i p a (by simpa using h)
    simpa [redA] using this
theorem redA_len : ∀ ps : Ps, (redA ps).length = ps.length
  | [] => rfl
  | (q, b) :: ps => by simp [redA, redA_len ps]
theorem form_nil {w : Nat} : Form w (Span w []) [] where
  sorted := List.Pairwise.nil
  row := fun _ _ m => nomatch m
  div := fun p v _ hv _ => ⟨fun _ m => (nomatch m), fun _ => by
    cases hv with
    | zero => exact nth_zv
    | step _ _ m => cases m⟩
  pos := fun _ _ m => nomatch m
  red := fun _ _ _ _ m => nomatch m
abbrev formV (ps : Ps) : PV := .lst (ps.map fun x => itup x.2)
def SpReduced (cs : CS) : Prop := ∀ (vv : PV) (ys : List (Bool × Vec)) (w e : Nat) (st : Store) (k x : KV), sq st vv = some (ys.map encV) → Len w (ys.map (·.2)) → (∀ r ∈ ys.map (·.2), Bb e r) → w ≤ 1000 → ys.length ≤ 1000 → (2 * w + 10) * (ex e w + 1) ≤ 100000000 →
  (∀ ps, Form w (Span w (ys.map (·.2))) ps → (∀ p a, (p, a) ∈ ps → Bb ((w + 1) * (ex e w + 1)) a) → k (formV ps) st) → cs 10 [vv] st k x
theorem low_bits {H : Nat} : ∀ (qs : Ps) (v : Vec) (j : Nat), Bb ((j + 1) * (H + 1)) v → (∀ p a, (p, a) ∈ qs → Bb H a ∧ 0 < nth a p) → Bb ((j + qs.length + 1) * (H + 1)) (lower v qs)
  | [], v, j, h, _ => h
  | (p, a) :: qs, v, j, h, hq => by
    have ha := hq p a (List.mem_cons_self ..)
    have h1 : Bb ((j + 1 + 1) * (H + 1)) (low1 v (p, a)) := (low1_bits (x := (p, a)) h ha.1 ha.2).mono (by rw [Nat.add_mul (j + 1) 1, Nat.one_mul]; omega)
    have h2 := low_bits qs (low1 v (p, a)) (j + 1) h1 fun q b m => hq q b (List.mem_cons_of_mem _ m)
    rw [List.length_cons, show j + (qs.length + 1) + 1 = j + 1 + qs.length + 1 by omega]
    exact h2
set_option maxHeartbeats 1000000 in
theorem reduced_at {FT : Nat → Option FD} {d : Nat} (hF : FT 10 = some ⟨1, 8, T_reduced⟩) (h1 : At FT d SpEch) (h2 : At FT d SpMinus) : At FT (d + 1) SpReduced := at_of (C := fun cs => SpEch cs ∧ SpMinus cs) hF (fun n hn => ⟨h1 n hn, h2 n hn⟩) fun cs cs' C go => by
  obtain ⟨ec, mn⟩ := C
  intro vv ys w e st k x hq hl hb hw hy hs hk
  refine go _ _ _ _ rfl ?_
  obtain ⟨f1, f2, f3, f4⟩ := sq_facts hq
  rw [List.length_map] at f3
  simp only [T_reduced, VM.sNil, VM.sCons, VM.sSet, VM.sPar, VM.sSetIx, VM.setIx, VM.sExpr, VM.sRet, VM.sRetN, VM.sIf, VM.sBreak, VM.sCont, VM.sFor, VM.gName, VM.gTup, VM.gEach, VM.eVar, VM.eC, VM.eBin, VM.eNeg, VM.eCmp, VM.eChain, VM.tOf, VM.tCmp, VM.tChain, VM.tAnd, VM.tOr, VM.tNot, VM.tYes, VM.eTest, VM.eAnd, VM.eOr, VM.eNot, VM.eIf, VM.aNil, VM.aCons, VM.eLst, VM.eLstM, VM.eTup, VM.eCall, VM.eIx, VM.eSl, VM.iE, VM.iRange1, VM.iRange2, VM.iZip, VM.iRev, VM.eComp, VM.eCompM, VM.eAppend, VM.eInsert, VM.eB1, VM.fLen, VM.fAbs, VM.fInt, VM.fList, VM.fListM, VM.fTuple, VM.fSum, VM.fAll, VM.fAny, VM.fIsi, VM.opBin, VM.opAdd, VM.opSub, VM.opMul, VM.opFdiv, VM.opMod, VM.opPow, VM.opCm, VM.frz, VM.isD, VM.eqv, VM.isNon, VM.D0, VM.turn, List.map_cons, List.map_nil, List.replicate_succ, List.replicate_zero, List.cons_append, List.nil_append, List.getElem?_cons_zero, List.getElem?_cons_succ, List.set_cons_zero, List.set_cons_succ, Nat.reduceSub, VM.wipe, List.length_cons, List.length_nil, Nat.reduceAdd, f3, VM.opEq, VM.frz, VM.isD, VM.eqv]
  refine ⟨(by first | trivial | decide | simp [VM.isDL, VM.isD]), (by first | trivial | decide | simp [VM.isDL, VM.isD]), ?_⟩
  by_cases h0 : ys = []
  · subst h0
    simp only [List.length_nil]
    refine (if_pos rfl).mpr' ⟨by decide, ?_⟩
    exact hk [] form_nil fun _ _ m => nomatch m
  have hn : ((ys.length : Int) == 0) = false := by
    rw [beq_eq_false_iff_ne]
    cases ys with
    | nil => exact (h0 rfl).elim
    | cons => simp; omega
  refine (if_neg (by rw [hn]; exact Bool.false_ne_true)).mpr' ?_
  obtain ⟨y0, yr, rfl⟩ : ∃ y0 yr, ys = y0 :: yr := by
    cases ys with
    | nil => exact (h0 rfl).elim
    | cons y r => exact ⟨y, r, rfl⟩
  generalize hys : y0 :: yr = ys at *
  have l0 : y0.2.length = w := hl y0.2 (by rw [← hys]; simp)
  have ylen : ys.length = yr.length + 1 := by rw [← hys]; simp
  show getIx vv (.int 0) st _
  refine f4 0 0 (encV y0) _ (by rw [List.length_map, ixN (by omega) (by omega)]; rfl) (by rw [← hys]; rfl) ?_
  simp only [VM.sNil, VM.sCons, VM.sSet, VM.sPar, VM.sSetIx, VM.setIx, VM.sExpr, VM.sRet, VM.sRetN, VM.sIf, VM.sBreak, VM.sCont, VM.sFor, VM.gName, VM.gTup, VM.gEach, VM.eVar, VM.eC, VM.eBin, VM.eNeg, VM.eCmp, VM.eChain, VM.tOf, VM.tCmp, VM.tChain, VM.tAnd, VM.tOr, VM.tNot, VM.tYes, VM.eTest, VM.eAnd, VM.eOr, VM.eNot, VM.eIf, VM.aNil, VM.aCons, VM.eLst, VM.eLstM, VM.eTup, VM.eCall, VM.eIx, VM.eSl, VM.iE, VM.iRange1, VM.iRange2, VM.iZip, VM.iRev, VM.eComp, VM.eCompM, VM.eAppend, VM.eInsert, VM.eB1, VM.fLen, VM.fAbs, VM.fInt, VM.fList, VM.fListM, VM.fTuple, VM.fSum, VM.fAll, VM.fAny, VM.fIsi, VM.opBin, VM.opAdd, VM.opSub, VM.opMul, VM.opFdiv, VM.opMod, VM.opPow, VM.opCm, VM.frz, VM.isD, VM.eqv, VM.isNon, VM.D0, VM.turn, List.map_cons, List.map_nil, List.replicate_succ, List.replicate_zero, List.cons_append, List.nil_append, List.getElem?_cons_zero, List.getElem?_cons_succ, List.set_cons_zero, List.set_cons_succ, Nat.reduceSub, VM.wipe, List.length_cons, List.length_nil, Nat.reduceAdd, (seq_enc y0).2.2.2, l0]
  have hE1 : 8 * ex e w + 10 ≤ 100000000 := by
    have : 10 * (ex e w + 1) ≤ (2 * w + 10) * (ex e w + 1) := Nat.mul_le_mul_right _ (by omega)
    omega
  refine ec vv ys w w e st _ _ f1 f2 (stays_self vv st) hl hb (Nat.le_refl _) hw hy hE1 fun ps rest R => ?_
  obtain ⟨E, b1, _, pl, _⟩ := R
  have tri := E.tri
  have hL := span_lat hl
  have hpos : ∀ p a, (p, a) ∈ ps → 0 < nth a p := fun p a m => (E.row p a m).2.2.2
  have RA := redA_rd hL ps E.sorted fun p a m => (E.row p a m).2
  have FM := RA.form tri hpos
  have la : ∀ p a, (p, a) ∈ ps → a.length = w := fun p a m => hL.len a (E.row p a m).2.1
  -- sizes
  generalize hH : ex e w = H at *
  have bits : ∀ i (hi : i < ps.length), ∀ m, m ≤ (ps.drop (i + 1)).length → Bb ((m + 1) * (H + 1)) (lower ps[i].2 ((ps.drop (i + 1)).take m)) := fun i hi m hm => by
    have h1 : Bb ((0 + 1) * (H + 1)) ps[i].2 := (b1 _ _ (List.getElem_mem hi)).mono (by omega)
    have := low_bits ((ps.drop (i + 1)).take m) ps[i].2 0 h1 fun p a mm => ⟨b1 p a (List.mem_of_mem_drop (List.mem_of_mem_take mm)), hpos p a (List.mem_of_mem_drop (List.mem_of_mem_take mm))⟩
    rw [List.length_take, Nat.min_eq_left hm, Nat.zero_add] at this
    exact this
  have bq : ∀ j, j ≤ w → (j + 1) * (H + 1) + (j + 1) * (H + 1) ≤ 100000000 := fun j hj => by
    have : (2 * j + 2) * (H + 1) ≤ (2 * w + 10) * (H + 1) := Nat.mul_le_mul_right _ (by omega)
    rw [← Nat.add_mul]
    have e1 : j + 1 + (j + 1) = 2 * j + 2 := by omega
    rw [e1]
    omega
  simp only [VM.sNil, VM.sCons, VM.sSet, VM.sPar, VM.sSetIx, VM.setIx, VM.sExpr, VM.sRet, VM.sRetN, VM.sIf, VM.sBreak, VM.sCont, VM.sFor, VM.gName, VM.gTup, VM.gEach, VM.eVar, VM.eC, VM.eBin, VM.eNeg, VM.eCmp, VM.eChain, VM.tOf, VM.tCmp, VM.tChain, VM.tAnd, VM.tOr, VM.tNot, VM.tYes, VM.eTest, VM.eAnd, VM.eOr, VM.eNot, VM.eIf, VM.aNil, VM.aCons, VM.eLst, VM.eLstM, VM.eTup, VM.eCall, VM.eIx, VM.getIx, VM.eSl, VM.getSl, VM.iE, VM.iRange1, VM.iRange2, VM.iZip, VM.iRev, VM.eComp, VM.eCompM, VM.eAppend, VM.eInsert, VM.eB1, VM.fLen, VM.fAbs, VM.fInt, VM.fList, VM.fListM, VM.fTuple, VM.fSum, VM.fAll, VM.fAny, VM.fIsi, VM.bLen, VM.seqOf, VM.sq, VM.asL, VM.items, VM.isSeq, VM.truth, VM.opBin, VM.opAdd, VM.opSub, VM.opMul, VM.opFdiv, VM.opMod, VM.opPow, VM.opCm, VM.opEq, VM.frz, VM.isD, VM.eqv, VM.isNon, VM.kdOf, VM.D0, VM.turn, List.map_cons, List.map_nil, List.replicate_succ, List.replicate_zero, List.cons_append, List.nil_append, List.getElem?_cons_zero, List.getElem?_cons_succ, List.set_cons_zero, List.set_cons_succ, Nat.reduceSub, VM.wipe, List.length_cons, List.length_nil, Nat.reduceAdd, List.length_map, Int.toNat_natCast]
  refine ⟨trivial, by decide, by unfold i62; omega, ?_⟩
  refine for_inv (fun rem ρ st' => st' = st ∧ ∃ (a4 a5 a6 a7 : Option PV) (pre : List PV), ρ = [some vv, some (.lst (ps.map hd)), some (rl rest), some (.lst (((redA ps).take pre.length).map fun x => itup x.2)), a4, a5, a6, a7] ∧ pre ++ rem = ((List.range ps.length).map fun (i : Nat) => PV.int (i : Int))) ?_ ?_ _ _ _ ⟨rfl, _, _, _, _, [], rfl, rfl⟩
  · rintro v rem ρ st' ⟨rfl, a4, a5, a6, a7, pre, rfl, hp⟩
    refine ⟨trivial, fun D' d1 d2 d3 d4 d5 => ?_⟩
    obtain ⟨rfl, hi⟩ := range_split hp
    have x0 : ix 2 1 = some 1 := rfl
    have xk : ix ps.length (pre.length : Int) = some pre.length := by rw [ixN (by omega) (by omega)]; simp
    have xg : (ps.map hd)[pre.length]? = some (hd ps[pre.length]) := by rw [List.getElem?_map, List.getElem?_eq_getElem hi]; rfl
    have xs : slc (ps.map hd) (some ((pre.length : Int) + 1)) none = (ps.drop (pre.length + 1)).map hd := by
      have : ((pre.length : Int) + 1) = ((pre.length + 1 : Nat) : Int) := by omega
      rw [this, slc_drop, List.map_drop]
    simp only [VM.sNil, VM.sCons, VM.sSet, VM.sPar, VM.sSetIx, VM.setIx, VM.sExpr, VM.sRet, VM.sRetN, VM.sIf, VM.sBreak, VM.sCont, VM.sFor, VM.gName, VM.gTup, VM.gEach, VM.eVar, VM.eC, VM.eBin, VM.eNeg, VM.eCmp, VM.eChain, VM.tOf, VM.tCmp, VM.tChain, VM.tAnd, VM.tOr, VM.tNot, VM.tYes, VM.eTest, VM.eAnd, VM.eOr, VM.eNot, VM.eIf, VM.aNil, VM.aCons, VM.eLst, VM.eLstM, VM.eTup, VM.eCall, VM.eIx, VM.getIx, VM.eSl, VM.getSl, VM.iE, VM.iRange1, VM.iRange2, VM.iZip, VM.iRev, VM.eComp, VM.eCompM, VM.eAppend, VM.eInsert, VM.eB1, VM.fLen, VM.fAbs, VM.fInt, VM.fList, VM.fListM, VM.fTuple, VM.fSum, VM.fAll, VM.fAny, VM.fIsi, VM.bLen, VM.seqOf, VM.sq, VM.asL, VM.items, VM.isSeq, VM.truth, VM.opBin, VM.opAdd, VM.opSub, VM.opMul, VM.opFdiv, VM.opMod, VM.opPow, VM.opCm, VM.opEq, VM.frz, VM.isD, VM.eqv, VM.isNon, VM.kdOf, VM.D0, VM.turn, List.map_cons, List.map_nil, List.replicate_succ, List.replicate_zero, List.cons_append, List.nil_append, List.getElem?_cons_zero, List.getElem?_cons_succ, List.set_cons_zero, List.set_cons_succ, Nat.reduceSub, VM.wipe, List.length_cons, List.length_nil, Nat.reduceAdd, List.length_map, xk, xg, hd, x0, xs]
    refine ⟨trivial, ?_⟩
    refine for_inv (fun rem2 ρ st2 => st2 = st' ∧ ∃ (a6 a7 : Option PV) (m : Nat), ρ = [some vv, some (.lst (ps.map hd)), some (rl rest), some (.lst (((redA ps).take pre.length).map fun x => itup x.2)), some (.int (pre.length : Nat)), some (ilst (lower ps[pre.length].2 ((ps.drop (pre.length + 1)).take m))), a6, a7] ∧ rem2 = ((ps.drop (pre.length + 1)).drop m).map hd ∧ m ≤ (ps.drop (pre.length + 1)).length) ?_ ?_ _ _ _ ⟨rfl, _, _, 0, rfl, rfl, Nat.zero_le _⟩
    · rintro v rem2 ρ st2 ⟨rfl, a6, a7, m, rfl, hr, hm⟩
      refine ⟨trivial, fun D2 g1 g2 g3 g4 g5 => ?_⟩
      have hmlt : m < (ps.drop (pre.length + 1)).length := by
        refine Classical.byContradiction fun hn => ?_
        rw [List.drop_of_length_le (by omega)] at hr
        cases hr
      rw [List.drop_eq_getElem_cons hmlt, List.map_cons] at hr
      obtain ⟨rfl, rfl⟩ := List.cons.inj hr
      generalize hph : (ps.drop (pre.length + 1))[m] = ph
      have mph : ph ∈ ps := by rw [← hph]; exact List.mem_of_mem_drop (List.getElem_mem hmlt)
      obtain ⟨pp, ha⟩ := ph
      have lha := la pp ha mph
      obtain ⟨r1, r2, r3, r4⟩ := E.row pp ha mph
      generalize hrow : lower ps[pre.length].2 ((ps.drop (pre.length + 1)).take m) = row
      have lrow : row.length = w := by
        rw [← hrow]
        exact (lower_spec _ _ w (la _ _ (List.getElem_mem hi)) (fun p a mm => by
          have mm' := List.mem_of_mem_drop (List.mem_of_mem_take mm)
          exact ⟨la p a mm', (E.row p a mm').2.2⟩) (E.sorted.sublist ((List.take_sublist ..).trans (List.drop_sublist ..)))).1
      have brow : Bb ((m + 1) * (H + 1)) row := by rw [← hrow]; exact bits _ hi m hm
      obtain ⟨x1, x2⟩ := ixv (v := row) (at_ := pp) (by omega)
      obtain ⟨x3, x4⟩ := ixv (v := ha) (at_ := pp) (by omega)
      have hmw : m ≤ w := by
        have : (ps.drop (pre.length + 1)).length ≤ ps.length := by rw [List.length_drop]; omega
        omega
      simp only [VM.sNil, VM.sCons, VM.sSet, VM.sPar, VM.sSetIx, VM.setIx, VM.sExpr, VM.sRet, VM.sRetN, VM.sIf, VM.sBreak, VM.sCont, VM.sFor, VM.gName, VM.gTup, VM.gEach, VM.eVar, VM.eC, VM.eBin, VM.eNeg, VM.eCmp, VM.eChain, VM.tOf, VM.tCmp, VM.tChain, VM.tAnd, VM.tOr, VM.tNot, VM.tYes, VM.eTest, VM.eAnd, VM.eOr, VM.eNot, VM.eIf, VM.aNil, VM.aCons, VM.eLst, VM.eLstM, VM.eTup, VM.eCall, VM.eIx, VM.getIx, VM.eSl, VM.getSl, VM.iE, VM.iRange1, VM.iRange2, VM.iZip, VM.iRev, VM.eComp, VM.eCompM, VM.eAppend, VM.eInsert, VM.eB1, VM.fLen, VM.fAbs, VM.fInt, VM.fList, VM.fListM, VM.fTuple, VM.fSum, VM.fAll, VM.fAny, VM.fIsi, VM.bLen, VM.seqOf, VM.sq, VM.asL, VM.items, VM.isSeq, VM.truth, VM.opBin, VM.opAdd, VM.opSub, VM.opMul, VM.opFdiv, VM.opMod, VM.opPow, VM.opCm, VM.opEq, VM.frz, VM.isD, VM.eqv, VM.isNon, VM.kdOf, VM.D0, VM.turn, List.map_cons, List.map_nil, List.replicate_succ, List.replicate_zero, List.cons_append, List.nil_append, List.getElem?_cons_zero, List.getElem?_cons_succ, List.set_cons_zero, List.set_cons_succ, Nat.reduceSub, VM.wipe, List.length_cons, List.length_nil, Nat.reduceAdd, hd, x1, x2, x3, x4]
      refine ⟨trivial, by unfold DivOk; omega, ?_⟩
      have q := (fdiv_facts (s := nth row pp) r4).2.2.2
      have q2 := brow.nth pp
      refine mn row ha _ _ _ _ (fun b mb => mulOk_of (Nat.lt_of_lt_of_le (b1 pp ha mph b mb) (Nat.pow_le_pow_right (by decide) (show H ≤ (m + 1) * (H + 1) by rw [Nat.add_mul, Nat.one_mul]; omega))) (Nat.lt_of_le_of_lt q q2) (by rw [Nat.add_mul, Nat.one_mul]; omega) (by rw [Nat.add_mul, Nat.one_mul]; omega) (bq m hmw)) (by rw [lrow]; show _ ≤ 16777216; omega) ?_
      have e1 : lower ps[pre.length].2 ((ps.drop (pre.length + 1)).take (m + 1)) = sub1 row ha ((nth row pp).fdiv (nth ha pp)) := by
        rw [List.take_succ_eq_append_getElem hmlt, hph]
        unfold lower at hrow ⊢
        rw [List.foldl_append, hrow]
        rfl
      refine g4 _ _ ⟨rfl, some (.int (pp : Nat)), some (ilst ha), m + 1, ?_, rfl, hmlt⟩
      rw [e1]
    · rintro ρ st2 ⟨rfl, a6, a7, m, rfl, hr, hm⟩
      refine ⟨trivial, ?_⟩
      have hml : m = (ps.drop (pre.length + 1)).length := by
        have := congrArg List.length hr
        rw [List.length_map, List.length_drop (i := m)] at this
        simp only [List.length_nil] at this
        omega
      rw [hml, List.take_length]
      simp only [VM.sNil, VM.sCons, VM.sSet, VM.sPar, VM.sSetIx, VM.setIx, VM.sExpr, VM.sRet, VM.sRetN, VM.sIf, VM.sBreak, VM.sCont, VM.sFor, VM.gName, VM.gTup, VM.gEach, VM.eVar, VM.eC, VM.eBin, VM.eNeg, VM.eCmp, VM.eChain, VM.tOf, VM.tCmp, VM.tChain, VM.tAnd, VM.tOr, VM.tNot, VM.tYes, VM.eTest, VM.eAnd, VM.eOr, VM.eNot, VM.eIf, VM.aNil, VM.aCons, VM.eLst, VM.eLstM, VM.eTup, VM.eCall, VM.eIx, VM.getIx, VM.eSl, VM.getSl, VM.iE, VM.iRange1, VM.iRange2, VM.iZip, VM.iRev, VM.eComp, VM.eCompM, VM.eAppend, VM.eInsert, VM.eB1, VM.fLen, VM.fAbs, VM.fInt, VM.fList, VM.fListM, VM.fTuple, VM.fSum, VM.fAll, VM.fAny, VM.fIsi, VM.bLen, VM.seqOf, VM.sq, VM.asL, VM.items, VM.isSeq, VM.truth, VM.opBin, VM.opAdd, VM.opSub, VM.opMul, VM.opFdiv, VM.opMod, VM.opPow, VM.opCm, VM.opEq, VM.frz, VM.isD, VM.eqv, VM.isNon, VM.kdOf, VM.D0, VM.turn, List.map_cons, List.map_nil, List.replicate_succ, List.replicate_zero, List.cons_append, List.nil_append, List.getElem?_cons_zero, List.getElem?_cons_succ, List.set_cons_zero, List.set_cons_succ, Nat.reduceSub, VM.wipe, List.length_cons, List.length_nil, Nat.reduceAdd, List.length_map]
      refine ⟨by decide, by rw [List.length_take, redA_len]; show _ ≤ 16777216; omega, ?_⟩
      refine d4 _ _ ⟨rfl, some (.int (pre.length : Nat)), some (ilst (lower ps[pre.length].2 (ps.drop (pre.length + 1)))), a6, a7, pre ++ [.int pre.length], ?_, by simpa using hp⟩
      have e2 := redA_get ps pre.length ps[pre.length].1 ps[pre.length].2 (List.getElem?_eq_getElem hi)
      rw [List.length_append, List.length_singleton, List.take_succ, e2]
      simp
  · rintro ρ st' ⟨rfl, a4, a5, a6, a7, pre, rfl, hp⟩
    rw [List.append_nil] at hp
    have hpl := range_pre hp
    refine ⟨trivial, ?_⟩
    simp only [VM.sNil, VM.sCons, VM.sSet, VM.sPar, VM.sSetIx, VM.setIx, VM.sExpr, VM.sRet, VM.sRetN, VM.sIf, VM.sBreak, VM.sCont, VM.sFor, VM.gName, VM.gTup, VM.gEach, VM.eVar, VM.eC, VM.eBin, VM.eNeg, VM.eCmp, VM.eChain, VM.tOf, VM.tCmp, VM.tChain, VM.tAnd, VM.tOr, VM.tNot, VM.tYes, VM.eTest, VM.eAnd, VM.eOr, VM.eNot, VM.eIf, VM.aNil, VM.aCons, VM.eLst, VM.eLstM, VM.eTup, VM.eCall, VM.eIx, VM.getIx, VM.eSl, VM.getSl, VM.iE, VM.iRange1, VM.iRange2, VM.iZip, VM.iRev, VM.eComp, VM.eCompM, VM.eAppend, VM.eInsert, VM.eB1, VM.fLen, VM.fAbs, VM.fInt, VM.fList, VM.fListM, VM.fTuple, VM.fSum, VM.fAll, VM.fAny, VM.fIsi, VM.bLen, VM.seqOf, VM.sq, VM.asL, VM.items, VM.isSeq, VM.truth, VM.opBin, VM.opAdd, VM.opSub, VM.opMul, VM.opFdiv, VM.opMod, VM.opPow, VM.opCm, VM.opEq, VM.frz, VM.isD, VM.eqv, VM.isNon, VM.kdOf, VM.D0, VM.turn, List.map_cons, List.map_nil, List.replicate_succ, List.replicate_zero, List.cons_append, List.nil_append, List.getElem?_cons_zero, List.getElem?_cons_succ, List.set_cons_zero, List.set_cons_succ, Nat.reduceSub, VM.wipe, List.length_cons, List.length_nil, Nat.reduceAdd]
    rw [hpl, List.take_of_length_le (by rw [redA_len]; exact Nat.le_refl _)]
    refine hk (redA ps) FM fun p a m => ?_
    obtain ⟨i, hi, hg⟩ := List.mem_iff_getElem.mp m
    rw [redA_len] at hi
    have e2 := redA_get ps i ps[i].1 ps[i].2 (List.getElem?_eq_getElem hi)
    rw [List.getElem?_eq_getElem (by rw [redA_len]; exact hi), hg] at e2
    cases e2
    have := bits i hi _ (Nat.le_refl _)
    rw [List.take_length] at this
    refine this.mono (Nat.mul_le_mul_right _ ?_)
    rw [List.length_drop]
    omega
end VP
end
section
namespace VP
open VM ML
theorem first_nz {w p : Nat} {a : Vec} (hp : p < w) (hz : Z p a) (hn : nth a p ≠ 0) : ((List.range w).filter fun i => !decide (nth a i = 0))[0]? = some p := by
  rw [← List.head?_eq_getElem?, List.head?_filter, List.find?_range_eq_some]
  refine ⟨by simpa using hn, List.mem_range.mpr hp, fun j hj => ?_⟩
  simp [hz j hj]
/-- the places where a row is not zero -/
theorem comp_nz {stay : Store → Prop} {ρ : Env} {st : Store} {k : List PV → Store → Prop} {own : List Nat} {i j w : Nat} {a : Vec} {u : PV} (hst : stay st) (hij : j ≠ i) (hi : i < ρ.length) (hu : ρ[j]? = some (some u)) (hq : sq st u = some (pvis a)) (ha : a.length = w) (hw : w ≤ 1000)
    (hk : k (((List.range w).filter fun i => !decide (nth a i = 0)).map fun (i : Nat) => PV.int (i : Int)) st) : compGo (gName i) (tCmp .ne (eIx (eVar j) (eVar i)) (eC (.int 0))) (eVar i) own stay ((List.range w).map fun (i : Nat) => PV.int (i : Int)) [] ρ st k := by
  refine comp_of (fun (i : Nat) => PV.int (i : Int)) (fun n => if (!decide (nth a n = 0)) = true then some (.int (n : Nat)) else none) hst (List.range w) (fun n m k' hk' => ?_) (by rw [List.length_range]; show _ ≤ 16777216; omega) (by rw [fm_filter]; exact hk)
  have hn := List.mem_range.mp m
  have e1 : (ρ.set i (some (.int (n : Nat))))[i]? = some (some (.int (n : Nat))) := List.getElem?_set_self hi
  have e2 : (ρ.set i (some (.int (n : Nat))))[j]? = some (some u) := by rw [List.getElem?_set_ne (Ne.symm hij)]; exact hu
  obtain ⟨f1, f2, f3, f4⟩ := sq_facts hq
  simp only [turn, gName, tCmp, eIx, eVar, eC, e1, e2]
  obtain ⟨x1, x2⟩ := ixv (v := a) (at_ := n) (by omega)
  refine f4 _ _ _ _ x1 x2 ?_
  simp only [opCm, opEq, frz, isD, eqv]
  refine ⟨trivial, trivial, ?_⟩
  by_cases z : nth a n = 0
  · simpa [z] using hk'
  · have : (nth a n == 0) = false := by rw [beq_eq_false_iff_ne]; exact z
    simp only [this, Bool.not_false, if_true]
    simpa [z] using hk'
theorem fm_sub2 (u v : List Int) (c : Int) : (u.zip v).filterMap (fun p => some (PV.int (p.1 - c * p.2))) = pvis (sub1 u v c) := by
  rw [← fm_sub1]
  congr 1
  funext p
  rw [Int.mul_comm]
def LowOk (w H : Nat) (ps : Ps) : Prop := ps.Pairwise (fun x y => x.1 < y.1) ∧ ∀ p a, (p, a) ∈ ps → p < w ∧ a.length = w ∧ Z p a ∧ 0 < nth a p ∧ Bb H a
def SpLow (cs : CS) : Prop := ∀ (vv : PV) (v : Vec) (ps : Ps) (w b H : Nat) (st : Store) (k x : KV), seqOf st vv = some (pvis v) → v.length = w → w ≤ 1000 → Bb b v → 0 < b → LowOk w H ps → 2 * (b + (ps.length + 1) * (H + 1)) ≤ 100000000 → k (itup (lower v ps)) st → cs 14 [vv, formV ps] st k x
theorem lower_bits {H : Nat} : ∀ (qs : Ps) (v : Vec) (b : Nat), Bb b v → (∀ p a, (p, a) ∈ qs → Bb H a ∧ 0 < nth a p) → Bb (b + qs.length * (H + 1)) (lower v qs)
  | [], v, b, h, _ => by simpa [lower] using h
  | (p, a) :: qs, v, b, h, hq => by
    have ha := hq p a (List.mem_cons_self ..)
    have h2 := lower_bits qs (low1 v (p, a)) (b + H + 1) (low1_bits (x := (p, a)) h ha.1 ha.2) fun q b m => hq q b (List.mem_cons_of_mem _ m)
    have e : b + (qs.length + 1) * (H + 1) = b + H + 1 + qs.length * (H + 1) := by rw [Nat.add_mul]; omega
    rw [List.length_cons, e]
    exact h2
set_option maxHeartbeats 1000000 in
theorem low_at {FT : Nat → Option FD} (hF : FT 14 = some ⟨2, 9, T__law_lowered⟩) : At FT 1 SpLow := at_of (C := fun _ => True) hF (fun _ _ => trivial) fun cs cs' _ go => by
  intro vv v ps w b H st k x hv hl hw hb hb0 hP hs hk
  refine go _ _ _ _ rfl ?_
  obtain ⟨so, hp⟩ := hP
  simp only [T__law_lowered, VM.sNil, VM.sCons, VM.sSet, VM.sPar, VM.sSetIx, VM.setIx, VM.sExpr, VM.sRet, VM.sRetN, VM.sIf, VM.sBreak, VM.sCont, VM.sFor, VM.gName, VM.gTup, VM.gEach, VM.eVar, VM.eC, VM.eBin, VM.eNeg, VM.eCmp, VM.eChain, VM.tOf, VM.tCmp, VM.tChain, VM.tAnd, VM.tOr, VM.tNot, VM.tYes, VM.eTest, VM.eAnd, VM.eOr, VM.eNot, VM.eIf, VM.aNil, VM.aCons, VM.eLst, VM.eLstM, VM.eTup, VM.eCall, VM.eIx, VM.eSl, VM.iE, VM.iRange1, VM.iRange2, VM.iZip, VM.iRev, VM.eComp, VM.eCompM, VM.eAppend, VM.eInsert, VM.eB1, VM.fLen, VM.fAbs, VM.fInt, VM.fList, VM.fListM, VM.fTuple, VM.fSum, VM.fAll, VM.fAny, VM.fIsi, VM.opBin, VM.opAdd, VM.opSub, VM.opMul, VM.opFdiv, VM.opMod, VM.opPow, VM.opCm, VM.frz, VM.isD, VM.eqv, VM.isNon, VM.D0, VM.turn, List.map_cons, List.map_nil, List.replicate_succ, List.replicate_zero, List.cons_append, List.nil_append, List.getElem?_cons_zero, List.getElem?_cons_succ, List.set_cons_zero, List.set_cons_succ, Nat.reduceSub, VM.wipe, List.length_cons, List.length_nil, Nat.reduceAdd, hv, items, isSeq]
  refine ⟨trivial, ?_⟩
  refine for_inv (fun rem ρ st' => st' = st ∧ ∃ (a3 a4 a5 a6 a7 a8 : Option PV) (m : Nat), ρ = [some vv, some (formV ps), some (ilst (lower v (ps.take m))), a3, a4, a5, a6, a7, a8] ∧ rem = (ps.drop m).map (fun x => itup x.2) ∧ m ≤ ps.length) ?_ ?_ _ _ _ ⟨rfl, _, _, _, _, _, _, 0, rfl, rfl, Nat.zero_le _⟩
  · rintro v' rem ρ st' ⟨rfl, a3, a4, a5, a6, a7, a8, m, rfl, hr, hm⟩
    refine ⟨trivial, fun D' d1 d2 d3 d4 d5 => ?_⟩
    have hmlt : m < ps.length := by
      refine Classical.byContradiction fun hn => ?_
      rw [List.drop_of_length_le (by omega)] at hr
      cases hr
    rw [List.drop_eq_getElem_cons hmlt, List.map_cons] at hr
    obtain ⟨rfl, rfl⟩ := List.cons.inj hr
    generalize hph : ps[m] = ph
    have mph : ph ∈ ps := by rw [← hph]; exact List.getElem_mem hmlt
    obtain ⟨p, a⟩ := ph
    obtain ⟨p1, p2, p3, p4, p5⟩ := hp p a mph
    generalize hrow : lower v (ps.take m) = row
    have lrow : row.length = w := by
      rw [← hrow]
      exact (lower_spec _ _ w hl (fun p a mm => by
        have mm' := List.mem_of_mem_take mm
        exact ⟨(hp p a mm').2.1, (hp p a mm').2.2.1, (hp p a mm').2.2.2.1⟩) (so.sublist (List.take_sublist ..))).1
    have brow : Bb (b + m * (H + 1)) row := by
      rw [← hrow]
      have := lower_bits (H := H) (ps.take m) v b hb fun p a mm => by
        have mm' := List.mem_of_mem_take mm
        exact ⟨(hp p a mm').2.2.2.2, (hp p a mm').2.2.2.1⟩
      rw [List.length_take, Nat.min_eq_left hm] at this
      exact this
    have hmul : m * (H + 1) + (H + 1) ≤ (ps.length + 1) * (H + 1) := by
      have := Nat.mul_le_mul_right (H + 1) (show m + 1 ≤ ps.length + 1 by omega)
      rw [Nat.add_mul, Nat.one_mul] at this
      exact this
    simp only [VM.sNil, VM.sCons, VM.sSet, VM.sPar, VM.sSetIx, VM.setIx, VM.sExpr, VM.sRet, VM.sRetN, VM.sIf, VM.sBreak, VM.sCont, VM.sFor, VM.gName, VM.gTup, VM.gEach, VM.eVar, VM.eC, VM.eBin, VM.eNeg, VM.eCmp, VM.eChain, VM.tOf, VM.tCmp, VM.tChain, VM.tAnd, VM.tOr, VM.tNot, VM.tYes, VM.eTest, VM.eAnd, VM.eOr, VM.eNot, VM.eIf, VM.aNil, VM.aCons, VM.eLst, VM.eLstM, VM.eTup, VM.eCall, VM.eIx, VM.eSl, VM.iE, VM.iRange1, VM.iRange2, VM.iZip, VM.iRev, VM.eComp, VM.eCompM, VM.eAppend, VM.eInsert, VM.eB1, VM.fLen, VM.fAbs, VM.fInt, VM.fList, VM.fListM, VM.fTuple, VM.fSum, VM.fAll, VM.fAny, VM.fIsi, VM.opBin, VM.opAdd, VM.opSub, VM.opMul, VM.opFdiv, VM.opMod, VM.opPow, VM.opCm, VM.frz, VM.isD, VM.eqv, VM.isNon, VM.D0, VM.turn, List.map_cons, List.map_nil, List.replicate_succ, List.replicate_zero, List.cons_append, List.nil_append, List.getElem?_cons_zero, List.getElem?_cons_succ, List.set_cons_zero, List.set_cons_succ, Nat.reduceSub, VM.wipe, List.length_cons, List.length_nil, Nat.reduceAdd, items, isSeq, seqOf, bLen, itup, List.length_map, p2, Int.toNat_natCast]
    refine ⟨by unfold i62; omega, ?_⟩
    refine comp_nz (a := a) (u := itup a) (w := w) trivial (by decide) (by simp) rfl rfl p2 hw ?_
    have hf := first_nz p1 p3 (by omega : nth a p ≠ 0)
    have hfl : 0 < (((List.range w).filter fun i => !decide (nth a i = 0))).length := by
      cases hh : (List.range w).filter fun i => !decide (nth a i = 0) with
      | nil => rw [hh] at hf; simp at hf
      | cons => simp
    have x0 : ix (((List.range w).filter fun i => !decide (nth a i = 0)).map fun (i : Nat) => PV.int (i : Int)).length 0 = some 0 := by rw [ixN (by omega) (by rw [List.length_map]; omega)]; rfl
    have g0 : (((List.range w).filter fun i => !decide (nth a i = 0)).map fun (i : Nat) => PV.int (i : Int))[0]? = some (.int (p : Nat)) := by rw [List.getElem?_map, hf]; rfl
    obtain ⟨x1, x2⟩ := ixv (v := row) (at_ := p) (by omega)
    obtain ⟨x3, x4⟩ := ixv (v := a) (at_ := p) (by omega)
    simp only [VM.sNil, VM.sCons, VM.sSet, VM.sPar, VM.sSetIx, VM.setIx, VM.sExpr, VM.sRet, VM.sRetN, VM.sIf, VM.sBreak, VM.sCont, VM.sFor, VM.gName, VM.gTup, VM.gEach, VM.eVar, VM.eC, VM.eBin, VM.eNeg, VM.eCmp, VM.eChain, VM.tOf, VM.tCmp, VM.tChain, VM.tAnd, VM.tOr, VM.tNot, VM.tYes, VM.eTest, VM.eAnd, VM.eOr, VM.eNot, VM.eIf, VM.aNil, VM.aCons, VM.eLst, VM.eLstM, VM.eTup, VM.eCall, VM.eIx, VM.getIx, VM.eSl, VM.getSl, VM.iE, VM.iRange1, VM.iRange2, VM.iZip, VM.iRev, VM.eComp, VM.eCompM, VM.eAppend, VM.eInsert, VM.eB1, VM.fLen, VM.fAbs, VM.fInt, VM.fList, VM.fListM, VM.fTuple, VM.fSum, VM.fAll, VM.fAny, VM.fIsi, VM.bLen, VM.seqOf, VM.sq, VM.asL, VM.items, VM.isSeq, VM.truth, VM.opBin, VM.opAdd, VM.opSub, VM.opMul, VM.opFdiv, VM.opMod, VM.opPow, VM.opCm, VM.opEq, VM.frz, VM.isD, VM.eqv, VM.isNon, VM.kdOf, VM.D0, VM.turn, List.map_cons, List.map_nil, List.replicate_succ, List.replicate_zero, List.cons_append, List.nil_append, List.getElem?_cons_zero, List.getElem?_cons_succ, List.set_cons_zero, List.set_cons_succ, Nat.reduceSub, VM.wipe, List.length_cons, List.length_nil, Nat.reduceAdd, ilst, x0, g0, x1, x2, x3, x4]
    refine ⟨by unfold DivOk; omega, ?_⟩
    have q := (fdiv_facts (s := nth row p) p4).2.2.2
    have q2 := brow.nth p
    simp only [zip_ints]
    refine comp_of (fun p : Int × Int => PV.tup [.int p.1, .int p.2]) (fun z => some (.int (z.1 - (nth row p).fdiv (nth a p) * z.2))) ⟨trivial, trivial⟩ (row.zip a) (fun z hz k' hk' => ?_) (by rw [List.length_zip, lrow]; show _ ≤ 16777216; omega) ?_
    · simp only [VM.sNil, VM.sCons, VM.sSet, VM.sPar, VM.sSetIx, VM.setIx, VM.sExpr, VM.sRet, VM.sRetN, VM.sIf, VM.sBreak, VM.sCont, VM.sFor, VM.gName, VM.gTup, VM.gEach, VM.eVar, VM.eC, VM.eBin, VM.eNeg, VM.eCmp, VM.eChain, VM.tOf, VM.tCmp, VM.tChain, VM.tAnd, VM.tOr, VM.tNot, VM.tYes, VM.eTest, VM.eAnd, VM.eOr, VM.eNot, VM.eIf, VM.aNil, VM.aCons, VM.eLst, VM.eLstM, VM.eTup, VM.eCall, VM.eIx, VM.getIx, VM.eSl, VM.getSl, VM.iE, VM.iRange1, VM.iRange2, VM.iZip, VM.iRev, VM.eComp, VM.eCompM, VM.eAppend, VM.eInsert, VM.eB1, VM.fLen, VM.fAbs, VM.fInt, VM.fList, VM.fListM, VM.fTuple, VM.fSum, VM.fAll, VM.fAny, VM.fIsi, VM.bLen, VM.seqOf, VM.sq, VM.asL, VM.items, VM.isSeq, VM.truth, VM.opBin, VM.opAdd, VM.opSub, VM.opMul, VM.opFdiv, VM.opMod, VM.opPow, VM.opCm, VM.opEq, VM.frz, VM.isD, VM.eqv, VM.isNon, VM.kdOf, VM.D0, VM.turn, List.map_cons, List.map_nil, List.replicate_succ, List.replicate_zero, List.cons_append, List.nil_append, List.getElem?_cons_zero, List.getElem?_cons_succ, List.set_cons_zero, List.set_cons_succ, Nat.reduceSub, VM.wipe, List.length_cons, List.length_nil, Nat.reduceAdd, if_true]
      refine ⟨trivial, mulOk_of (Nat.lt_of_le_of_lt q q2) (p5 _ (List.of_mem_zip hz).2) (by omega) ?_ (by omega), hk'⟩
      -- H > 0
      refine Classical.byContradiction fun hn => ?_
      have h0 : H = 0 := by omega
      have := p5.nth p
      rw [h0] at this
      omega
    · rw [fm_sub2]
      have e1 : lower v (ps.take (m + 1)) = sub1 row a ((nth row p).fdiv (nth a p)) := by
        rw [List.take_succ_eq_append_getElem hmlt, hph]
        unfold lower at hrow ⊢
        rw [List.foldl_append, hrow]
        rfl
      exact d4 _ _ ⟨rfl, some (itup a), some (.int (p : Nat)), a5, some (.int ((nth row p).fdiv (nth a p))), a7, a8, m + 1, by rw [e1], rfl, hmlt⟩
  · rintro ρ st' ⟨rfl, a3, a4, a5, a6, a7, a8, m, rfl, hr, hm⟩
    refine ⟨trivial, ?_⟩
    have hml : m = ps.length := by
      have := congrArg List.length hr
      rw [List.length_map, List.length_drop] at this
      simp only [List.length_nil] at this
      omega
    rw [hml, List.take_length]
    simp only [VM.sNil, VM.sCons, VM.sSet, VM.sPar, VM.sSetIx, VM.setIx, VM.sExpr, VM.sRet, VM.sRetN, VM.sIf, VM.sBreak, VM.sCont, VM.sFor, VM.gName, VM.gTup, VM.gEach, VM.eVar, VM.eC, VM.eBin, VM.eNeg, VM.eCmp, VM.eChain, VM.tOf, VM.tCmp, VM.tChain, VM.tAnd, VM.tOr, VM.tNot, VM.tYes, VM.eTest, VM.eAnd, VM.eOr, VM.eNot, VM.eIf, VM.aNil, VM.aCons, VM.eLst, VM.eLstM, VM.eTup, VM.eCall, VM.eIx, VM.getIx, VM.eSl, VM.getSl, VM.iE, VM.iRange1, VM.iRange2, VM.iZip, VM.iRev, VM.eComp, VM.eCompM, VM.eAppend, VM.eInsert, VM.eB1, VM.fLen, VM.fAbs, VM.fInt, VM.fList, VM.fListM, VM.fTuple, VM.fSum, VM.fAll, VM.fAny, VM.fIsi, VM.bLen, VM.seqOf, VM.sq, VM.asL, VM.items, VM.isSeq, VM.truth, VM.opBin, VM.opAdd, VM.opSub, VM.opMul, VM.opFdiv, VM.opMod, VM.opPow, VM.opCm, VM.opEq, VM.frz, VM.isD, VM.eqv, VM.isNon, VM.kdOf, VM.D0, VM.turn, List.map_cons, List.map_nil, List.replicate_succ, List.replicate_zero, List.cons_append, List.nil_append, List.getElem?_cons_zero, List.getElem?_cons_succ, List.set_cons_zero, List.set_cons_succ, Nat.reduceSub, VM.wipe, List.length_cons, List.length_nil, Nat.reduceAdd]
    exact hk
end VP
end
section
namespace VP
open VM ML
def encO : Option Vec → PV
  | none => .non
  | some a => ilst a
structure InsS (w : Nat) (v : Vec) (bs : Bs) (β : Nat → Nat) (R c : Nat) (cur : Bs) (r : Vec) : Prop where
  len : cur.length = w
  ok : BsOk w cur
  lr : r.length = w
  z : Z c r
  se : SE w (v :: rws bs) (r :: rws cur)
  lo : ∀ (i : Nat) (a : Vec), i < c → cur[i]? = some (some a) → Bb (rc β R (i + 1)) a
  hi : ∀ (i : Nat) (a : Vec), c < i → cur[i]? = some (some a) → Bb (β i) a
def SpIns (cs : CS) : Prop := ∀ (j : Nat) (bs : Bs) (vv : PV) (v : Vec) (w R : Nat) (β : Nat → Nat) (st : Store) (k x : KV), st[j]? = some (.lst (bs.map encO)) → seqOf st vv = some (pvis v) → bs.length = w → w ≤ 1000 → BsOk w bs → BsB bs β → v.length = w → Bb R v → 0 < R → rc β R w ≤ 40000000 →
  (∀ bs' : Bs, bs'.length = w → BsOk w bs' → BsB bs' (fun i => rc β R (i + 1)) → SE w (v :: rws bs) (rws bs') → k .non (st.set j (.lst (bs'.map encO)))) → cs 12 [.ref j, vv] st k x
theorem encO_get {cur : Bs} {c : Nat} (h : c < cur.length) : ix (cur.map encO).length (c : Int) = some c ∧ (cur.map encO)[c]? = some (encO cur[c]) := by
  rw [List.length_map, ixN (by omega) (by omega), List.getElem?_map, List.getElem?_eq_getElem h]
  simp
theorem map_set_enc (cur : Bs) (c : Nat) (r : Vec) : (cur.map encO).set c (ilst r) = (cur.set c (some r)).map encO := by rw [List.map_set]; rfl
def insBody : TS := (sCons (sSet (gName 4) (eBin .fdiv (eIx (eIx (eVar 0) (eVar 3)) (eVar 3)) (eIx (eVar 2) (eVar 3))))
    (sCons (sSet (gName 5) (eComp (iZip (eIx (eVar 0) (eVar 3)) (eVar 2)) (gTup [(gName 6), (gName 7)]) tYes (eBin .sub (eVar 6) (eBin .mul (eVar 4) (eVar 7))) [6, 7]))
    (sCons (sSetIx (eVar 0) (eVar 3) (eVar 2))
    (sSet (gName 2) (eVar 5)))))
theorem ins_turn {j c w E : Nat} {cur : Bs} {b r : Vec} {vv : PV} {st : Store} {D : Ends} {a4 a5 a6 a7 : Option PV} (hst : st[j]? = some (.lst (cur.map encO))) (hc : cur[c]? = some (some b)) (hl : cur.length = w) (hb : b.length = w) (hr : r.length = w) (hw : w ≤ 1000) (hn : nth r c ≠ 0) (bb : Bb E b) (br : Bb E r) (h0 : 0 < E) (hE : 2 * E ≤ 100000000)
    (hk : ∀ (b4 b5 : Option PV), D.nx [some (.ref j), some vv, some (ilst (red c b r)), some (.int (c : Nat)), b4, b5, a6, a7] (st.set j (.lst ((cur.set c (some r)).map encO)))) :
    insBody D [some (.ref j), some vv, some (ilst r), some (.int (c : Nat)), a4, a5, a6, a7] st := by
  have hcl : c < cur.length := (List.getElem?_eq_some_iff.mp hc).1
  obtain ⟨x1, x2⟩ := encO_get hcl
  have ecb : encO cur[c] = ilst b := by
    rw [List.getElem?_eq_getElem hcl] at hc
    rw [Option.some.inj hc]
    rfl
  rw [ecb] at x2
  obtain ⟨x3, x4⟩ := ixv (v := b) (at_ := c) (by omega)
  obtain ⟨x5, x6⟩ := ixv (v := r) (at_ := c) (by omega)
  simp only [insBody, VM.sNil, VM.sCons, VM.sSet, VM.sPar, VM.sSetIx, VM.setIx, VM.sExpr, VM.sRet, VM.sRetN, VM.sIf, VM.sBreak, VM.sCont, VM.sFor, VM.gName, VM.gTup, VM.gEach, VM.eVar, VM.eC, VM.eBin, VM.eNeg, VM.eCmp, VM.eChain, VM.tOf, VM.tCmp, VM.tChain, VM.tAnd, VM.tOr, VM.tNot, VM.tYes, VM.eTest, VM.eAnd, VM.eOr, VM.eNot, VM.eIf, VM.aNil, VM.aCons, VM.eLst, VM.eLstM, VM.eTup, VM.eCall, VM.eIx, VM.getIx, VM.eSl, VM.getSl, VM.iE, VM.iRange1, VM.iRange2, VM.iZip, VM.iRev, VM.eComp, VM.eCompM, VM.eAppend, VM.eInsert, VM.eB1, VM.fLen, VM.fAbs, VM.fInt, VM.fList, VM.fListM, VM.fTuple, VM.fSum, VM.fAll, VM.fAny, VM.fIsi, VM.bLen, VM.seqOf, VM.sq, VM.asL, VM.items, VM.isSeq, VM.truth, VM.opBin, VM.opAdd, VM.opSub, VM.opMul, VM.opFdiv, VM.opMod, VM.opPow, VM.opCm, VM.opEq, VM.frz, VM.isD, VM.eqv, VM.isNon, VM.kdOf, VM.D0, VM.turn, List.map_cons, List.map_nil, List.replicate_succ, List.replicate_zero, List.cons_append, List.nil_append, List.getElem?_cons_zero, List.getElem?_cons_succ, List.set_cons_zero, List.set_cons_succ, Nat.reduceSub, VM.wipe, List.length_cons, List.length_nil, Nat.reduceAdd, hst, x1, x2, ilst, x3, x4, x5, x6, zip_ints]
  refine ⟨by unfold DivOk; omega, ?_⟩
  obtain ⟨σ, hσ, hp⟩ : ∃ σ : Int, (σ = 1 ∨ σ = -1) ∧ 0 < σ * nth r c := by
    by_cases h : 0 < nth r c
    · exact ⟨1, .inl rfl, by omega⟩
    · exact ⟨-1, .inr rfl, by omega⟩
  have q := (fdiv_sign (s := nth b c) hσ hp).2.2
  have q2 := bb.nth c
  refine comp_of (fun p : Int × Int => PV.tup [.int p.1, .int p.2]) (fun z => some (.int (z.1 - (nth b c).fdiv (nth r c) * z.2))) ⟨trivial, trivial⟩ (b.zip r) (fun z hz k' hk' => ?_) (by rw [List.length_zip]; show _ ≤ 16777216; omega) ?_
  · simp only [VM.sNil, VM.sCons, VM.sSet, VM.sPar, VM.sSetIx, VM.setIx, VM.sExpr, VM.sRet, VM.sRetN, VM.sIf, VM.sBreak, VM.sCont, VM.sFor, VM.gName, VM.gTup, VM.gEach, VM.eVar, VM.eC, VM.eBin, VM.eNeg, VM.eCmp, VM.eChain, VM.tOf, VM.tCmp, VM.tChain, VM.tAnd, VM.tOr, VM.tNot, VM.tYes, VM.eTest, VM.eAnd, VM.eOr, VM.eNot, VM.eIf, VM.aNil, VM.aCons, VM.eLst, VM.eLstM, VM.eTup, VM.eCall, VM.eIx, VM.getIx, VM.eSl, VM.getSl, VM.iE, VM.iRange1, VM.iRange2, VM.iZip, VM.iRev, VM.eComp, VM.eCompM, VM.eAppend, VM.eInsert, VM.eB1, VM.fLen, VM.fAbs, VM.fInt, VM.fList, VM.fListM, VM.fTuple, VM.fSum, VM.fAll, VM.fAny, VM.fIsi, VM.bLen, VM.seqOf, VM.sq, VM.asL, VM.items, VM.isSeq, VM.truth, VM.opBin, VM.opAdd, VM.opSub, VM.opMul, VM.opFdiv, VM.opMod, VM.opPow, VM.opCm, VM.opEq, VM.frz, VM.isD, VM.eqv, VM.isNon, VM.kdOf, VM.D0, VM.turn, List.map_cons, List.map_nil, List.replicate_succ, List.replicate_zero, List.cons_append, List.nil_append, List.getElem?_cons_zero, List.getElem?_cons_succ, List.set_cons_zero, List.set_cons_succ, Nat.reduceSub, VM.wipe, List.length_cons, List.length_nil, Nat.reduceAdd, if_true]
    exact ⟨trivial, mulOk_of (Nat.lt_of_le_of_lt q q2) (br _ (List.of_mem_zip hz).2) h0 h0 (by omega), hk'⟩
  · rw [fm_sub2]
    simp only [VM.sNil, VM.sCons, VM.sSet, VM.sPar, VM.sSetIx, VM.setIx, VM.sExpr, VM.sRet, VM.sRetN, VM.sIf, VM.sBreak, VM.sCont, VM.sFor, VM.gName, VM.gTup, VM.gEach, VM.eVar, VM.eC, VM.eBin, VM.eNeg, VM.eCmp, VM.eChain, VM.tOf, VM.tCmp, VM.tChain, VM.tAnd, VM.tOr, VM.tNot, VM.tYes, VM.eTest, VM.eAnd, VM.eOr, VM.eNot, VM.eIf, VM.aNil, VM.aCons, VM.eLst, VM.eLstM, VM.eTup, VM.eCall, VM.eIx, VM.getIx, VM.eSl, VM.getSl, VM.iE, VM.iRange1, VM.iRange2, VM.iZip, VM.iRev, VM.eComp, VM.eCompM, VM.eAppend, VM.eInsert, VM.eB1, VM.fLen, VM.fAbs, VM.fInt, VM.fList, VM.fListM, VM.fTuple, VM.fSum, VM.fAll, VM.fAny, VM.fIsi, VM.bLen, VM.seqOf, VM.sq, VM.asL, VM.items, VM.isSeq, VM.truth, VM.opBin, VM.opAdd, VM.opSub, VM.opMul, VM.opFdiv, VM.opMod, VM.opPow, VM.opCm, VM.opEq, VM.frz, VM.isD, VM.eqv, VM.isNon, VM.kdOf, VM.D0, VM.turn, List.map_cons, List.map_nil, List.replicate_succ, List.replicate_zero, List.cons_append, List.nil_append, List.getElem?_cons_zero, List.getElem?_cons_succ, List.set_cons_zero, List.set_cons_succ, Nat.reduceSub, VM.wipe, List.length_cons, List.length_nil, Nat.reduceAdd, hst, x1]
    have e := map_set_enc cur c r
    have e' : (List.map encO cur).set c (PV.lst (List.map PV.int r)) = (cur.set c (some r)).map encO := e
    rw [e']
    exact hk _ _
set_option maxHeartbeats 1000000 in
theorem ins_at {FT : Nat → Option FD} (hF : FT 12 = some ⟨2, 8, T__law_insert⟩) : At FT 1 SpIns := at_of (C := fun _ => True) hF (fun _ _ => trivial) fun cs cs' _ go => by
  intro j bs vv v w R β st k x hst hv hbl hw ok hB hl hR hR0 hs hk
  refine go _ _ _ _ rfl ?_
  have hj : j < st.length := (List.getElem?_eq_some_iff.mp hst).1
  have hself : ∀ o, (st.set j o)[j]? = some o := fun o => set_self hst
  show (sCons _ (sFor _ _ (sIf _ (sCons _ (sWhile _ insBody)) sNil))) _ _ _
  simp only [VM.sNil, VM.sCons, VM.sSet, VM.sPar, VM.sSetIx, VM.setIx, VM.sExpr, VM.sRet, VM.sRetN, VM.sIf, VM.sBreak, VM.sCont, VM.sFor, VM.gName, VM.gTup, VM.gEach, VM.eVar, VM.eC, VM.eBin, VM.eNeg, VM.eCmp, VM.eChain, VM.tOf, VM.tCmp, VM.tChain, VM.tAnd, VM.tOr, VM.tNot, VM.tYes, VM.eTest, VM.eAnd, VM.eOr, VM.eNot, VM.eIf, VM.aNil, VM.aCons, VM.eLst, VM.eLstM, VM.eTup, VM.eCall, VM.eIx, VM.eSl, VM.iE, VM.iRange1, VM.iRange2, VM.iZip, VM.iRev, VM.eComp, VM.eCompM, VM.eAppend, VM.eInsert, VM.eB1, VM.fLen, VM.fAbs, VM.fInt, VM.fList, VM.fListM, VM.fTuple, VM.fSum, VM.fAll, VM.fAny, VM.fIsi, VM.opBin, VM.opAdd, VM.opSub, VM.opMul, VM.opFdiv, VM.opMod, VM.opPow, VM.opCm, VM.frz, VM.isD, VM.eqv, VM.isNon, VM.D0, VM.turn, List.map_cons, List.map_nil, List.replicate_succ, List.replicate_zero, List.cons_append, List.nil_append, List.getElem?_cons_zero, List.getElem?_cons_succ, List.set_cons_zero, List.set_cons_succ, Nat.reduceSub, VM.wipe, List.length_cons, List.length_nil, Nat.reduceAdd, hv, bLen, asL, List.length_map, hl, Int.toNat_natCast]
  refine ⟨by unfold i62; omega, ?_⟩
  refine for_inv (fun rem ρ st' => ∃ (a3 a4 a5 a6 a7 : Option PV) (cur : Bs) (r : Vec) (pre : List PV), ρ = [some (.ref j), some vv, some (ilst r), a3, a4, a5, a6, a7] ∧ pre ++ rem = ((List.range w).map fun (i : Nat) => PV.int (i : Int)) ∧ st' = st.set j (.lst (cur.map encO)) ∧
    InsS w v bs β R pre.length cur r ∧ Bb (rc β R pre.length) r ∧ (∀ (a : Vec), cur[pre.length]? = some (some a) → Bb (β pre.length) a)) ?_ ?_ _ _ _ ⟨_, _, _, _, _, bs, v, [], rfl, rfl, ?_, ⟨hbl, ok, hl, fun i h => absurd h (Nat.not_lt_zero i), SE.refl (len_cons hl ok.len), fun i a h => absurd h (Nat.not_lt_zero i), fun i a _ e => hB i a e⟩, hR, fun a e => hB 0 a e⟩
  · rintro v' rem ρ st' ⟨a3, a4, a5, a6, a7, cur, r, pre, rfl, hp, rfl, I, br, hcb⟩
    refine ⟨trivial, fun D' d1 d2 d3 d4 d5 => ?_⟩
    obtain ⟨rfl, hn⟩ := range_split hp
    generalize hc : pre.length = c at *
    have hcl : c < cur.length := by rw [I.len]; exact hn
    have hm1 : rc β R c ≤ rc β R (c + 1) := rc_mono β R (Nat.le_succ c)
    have hm2 : rc β R (c + 1) ≤ rc β R w := rc_mono β R hn
    have hm3 : rc β R (c + 1) = max (β c) (rc β R c) + rc β R c + 3 := rfl
    have hm4 : 0 < rc β R c := Nat.lt_of_lt_of_le hR0 (rc_mono β R (Nat.zero_le c))
    obtain ⟨x1, x2⟩ := encO_get hcl
    obtain ⟨x5, x6⟩ := ixv (v := r) (at_ := c) (by rw [I.lr]; exact hn)
    have go2 : ∀ (cur' : Bs) (r' : Vec) (b4 b5 b6 b7 : Option PV), cur'.length = w → BsOk w cur' → r'.length = w → Z (c + 1) r' → SE w (v :: rws bs) (r' :: rws cur') → (∀ (i : Nat) (a : Vec), i < c + 1 → cur'[i]? = some (some a) → Bb (rc β R (i + 1)) a) → (∀ (i : Nat) (a : Vec), c < i → cur'[i]? = some (some a) → Bb (β i) a) → Bb (rc β R (c + 1)) r' →
        D'.nx [some (.ref j), some vv, some (ilst r'), some (.int (c : Nat)), b4, b5, b6, b7] (st.set j (.lst (cur'.map encO))) := by
      intro cur' r' b4 b5 b6 b7 g1 g2 g3 g4 g5 g6 g7 g8
      refine d4 _ _ ⟨_, _, _, _, _, cur', r', pre ++ [.int (c : Nat)], rfl, by simpa using hp, rfl, ?_⟩
      rw [List.length_append, List.length_singleton, hc]
      exact ⟨⟨g1, g2, g3, g4, g5, g6, fun i a h e => g7 i a (by omega) e⟩, g8, fun a e => g7 (c + 1) a (by omega) e⟩
    simp only [VM.sNil, VM.sCons, VM.sSet, VM.sPar, VM.sSetIx, VM.setIx, VM.sExpr, VM.sRet, VM.sRetN, VM.sIf, VM.sBreak, VM.sCont, VM.sFor, VM.gName, VM.gTup, VM.gEach, VM.eVar, VM.eC, VM.eBin, VM.eNeg, VM.eCmp, VM.eChain, VM.tOf, VM.tCmp, VM.tChain, VM.tAnd, VM.tOr, VM.tNot, VM.tYes, VM.eTest, VM.eAnd, VM.eOr, VM.eNot, VM.eIf, VM.aNil, VM.aCons, VM.eLst, VM.eLstM, VM.eTup, VM.eCall, VM.eIx, VM.getIx, VM.eSl, VM.getSl, VM.iE, VM.iRange1, VM.iRange2, VM.iZip, VM.iRev, VM.eComp, VM.eCompM, VM.eAppend, VM.eInsert, VM.eB1, VM.fLen, VM.fAbs, VM.fInt, VM.fList, VM.fListM, VM.fTuple, VM.fSum, VM.fAll, VM.fAny, VM.fIsi, VM.bLen, VM.seqOf, VM.sq, VM.asL, VM.items, VM.isSeq, VM.truth, VM.opBin, VM.opAdd, VM.opSub, VM.opMul, VM.opFdiv, VM.opMod, VM.opPow, VM.opCm, VM.opEq, VM.frz, VM.isD, VM.eqv, VM.isNon, VM.kdOf, VM.D0, VM.turn, List.map_cons, List.map_nil, List.replicate_succ, List.replicate_zero, List.cons_append, List.nil_append, List.getElem?_cons_zero, List.getElem?_cons_succ, List.set_cons_zero, List.set_cons_succ, Nat.reduceSub, VM.wipe, List.length_cons, List.length_nil, Nat.reduceAdd, ilst, x5, x6]
    refine ⟨trivial, trivial, ?_⟩
    by_cases hz : nth r c = 0
    · have hb : (!(nth r c == 0)) = false := by rw [hz]; rfl
      refine (if_neg (by rw [hb]; exact Bool.false_ne_true)).mpr' ?_
      refine go2 cur r _ _ _ _ I.len I.ok I.lr (fun i hi => ?_) I.se (fun i a hi e => ?_) I.hi (br.mono hm1)
      · by_cases h : i < c
        · exact I.z i h
        · have : i = c := by omega
          subst this
          exact hz
      · by_cases h : i < c
        · exact I.lo i a h e
        · have : i = c := by omega
          subst this
          exact (hcb a e).mono (by rw [hm3]; have := Nat.le_max_left (β i) (rc β R i); omega)
    · have hb : (!(nth r c == 0)) = true := by
        have : (nth r c == 0) = false := by rw [beq_eq_false_iff_ne]; exact hz
        rw [this]; rfl
      refine (if_pos hb).mpr' ?_
      simp only [hself, x1, x2]
      cases hcur : cur[c] with
      | none =>
        have hcn : cur[c]? = some none := by rw [List.getElem?_eq_getElem hcl, hcur]
        simp only [encO, if_true]
        refine ⟨trivial, ?_⟩
        have e' : (List.map encO cur).set c (PV.lst (List.map PV.int r)) = (cur.set c (some r)).map encO := map_set_enc cur c r
        rw [e', List.set_set, d1]
        refine hk (cur.set c (some r)) (by rw [List.length_set]; exact I.len) (ok_set I.ok I.lr I.z hz) (fun i a e => ?_) (I.se.trans (set_none I.ok hcn I.lr) (len_cons hl ok.len) (ok_set I.ok I.lr I.z hz).len)
        by_cases hi : c = i
        · subst hi
          rw [List.getElem?_set_self hcl] at e
          cases e
          exact br.mono hm1
        · rw [List.getElem?_set_ne hi] at e
          by_cases h : i < c
          · exact I.lo i a h e
          · exact (I.hi i a (by omega) e).mono (by show _ ≤ max _ _ + _ + 3; have := Nat.le_max_left (β i) (rc β R i); omega)
      | some b =>
        have hcb' : cur[c]? = some (some b) := by rw [List.getElem?_eq_getElem hcl, hcur]
        have okb := I.ok c b hcb'
        have bb := hcb b hcb'
        simp only [encO, ilst, Bool.false_eq_true, if_false]
        refine ⟨trivial, ?_⟩
        refine while_meas (fun m ρ st' => ∃ (b4 b5 : Option PV) (cur' : Bs) (b' r' : Vec), ρ = [some (.ref j), some vv, some (ilst r'), some (.int (c : Nat)), b4, b5, a6, a7] ∧ st' = st.set j (.lst (cur'.map encO)) ∧ cur'.length = w ∧ BsOk w cur' ∧ r'.length = w ∧ Z c r' ∧ SE w (v :: rws bs) (r' :: rws cur') ∧ cur'[c]? = some (some b') ∧
          (∀ (i : Nat), i ≠ c → cur'[i]? = cur[i]?) ∧ (nth r' c).natAbs ≤ m ∧ ((nth r' c ≠ 0 ∧ Bb (β c) b' ∧ Bb (rc β R c) r') ∨ PrOk c (2 ^ (max (β c) (rc β R c) + rc β R c + 2)) b' r')) ?_ (nth r c).natAbs _ _ ⟨_, _, cur, b, r, rfl, rfl, I.len, I.ok, I.lr, I.z, I.se, hcb', fun _ _ => rfl, Nat.le_refl _, .inl ⟨hz, bb, br⟩⟩
        rintro m ρ st' ⟨b4, b5, cur', b', r', rfl, rfl, g1, g2, g3, g4, g5, g6, g7, g8, g9⟩ D2 e1 e2 e3 e4 e5
        obtain ⟨y5, y6⟩ := ixv (v := r') (at_ := c) (by rw [g3]; exact hn)
        simp only [tCmp, eIx, eVar, eC, List.getElem?_cons_zero, List.getElem?_cons_succ]
        simp only [VM.sNil, VM.sCons, VM.sSet, VM.sPar, VM.sSetIx, VM.setIx, VM.sExpr, VM.sRet, VM.sRetN, VM.sIf, VM.sBreak, VM.sCont, VM.sFor, VM.gName, VM.gTup, VM.gEach, VM.eVar, VM.eC, VM.eBin, VM.eNeg, VM.eCmp, VM.eChain, VM.tOf, VM.tCmp, VM.tChain, VM.tAnd, VM.tOr, VM.tNot, VM.tYes, VM.eTest, VM.eAnd, VM.eOr, VM.eNot, VM.eIf, VM.aNil, VM.aCons, VM.eLst, VM.eLstM, VM.eTup, VM.eCall, VM.eIx, VM.getIx, VM.eSl, VM.getSl, VM.iE, VM.iRange1, VM.iRange2, VM.iZip, VM.iRev, VM.eComp, VM.eCompM, VM.eAppend, VM.eInsert, VM.eB1, VM.fLen, VM.fAbs, VM.fInt, VM.fList, VM.fListM, VM.fTuple, VM.fSum, VM.fAll, VM.fAny, VM.fIsi, VM.bLen, VM.seqOf, VM.sq, VM.asL, VM.items, VM.isSeq, VM.truth, VM.opBin, VM.opAdd, VM.opSub, VM.opMul, VM.opFdiv, VM.opMod, VM.opPow, VM.opCm, VM.opEq, VM.frz, VM.isD, VM.eqv, VM.isNon, VM.kdOf, VM.D0, VM.turn, List.map_cons, List.map_nil, List.replicate_succ, List.replicate_zero, List.cons_append, List.nil_append, List.getElem?_cons_zero, List.getElem?_cons_succ, List.set_cons_zero, List.set_cons_succ, Nat.reduceSub, VM.wipe, List.length_cons, List.length_nil, Nat.reduceAdd, ilst, y5, y6]
        refine ⟨trivial, trivial, ?_⟩
        by_cases hz' : nth r' c = 0
        · have hb' : (!(nth r' c == 0)) = false := by rw [hz']; rfl
          refine (if_neg (by rw [hb']; exact Bool.false_ne_true)).mpr' ?_
          have P : PrOk c (2 ^ (max (β c) (rc β R c) + rc β R c + 2)) b' r' := by
            rcases g9 with ⟨h, _⟩ | h
            · exact (h hz').elim
            · exact h
          obtain ⟨pb, pr⟩ := P.bits
          refine go2 cur' r' _ _ _ _ g1 g2 g3 (fun i hi => ?_) g5 (fun i a hi e => ?_) (fun i a hi e => ?_) (pr.mono (by rw [hm3]; omega))
          · by_cases h : i < c
            · exact g4 i h
            · have : i = c := by omega
              subst this
              exact hz'
          · by_cases h : i = c
            · subst h
              rw [g6] at e
              cases e
              exact pb.mono (by rw [hm3]; omega)
            · rw [g7 i h] at e
              exact I.lo i a (by omega) e
          · rw [g7 i (by omega)] at e
            exact I.hi i a hi e
        · have hb' : (!(nth r' c == 0)) = true := by
            have : (nth r' c == 0) = false := by rw [beq_eq_false_iff_ne]; exact hz'
            rw [this]; rfl
          refine (if_pos hb').mpr' ?_
          have ok' := g2 c b' g6
          have lbr : b'.length = r'.length := ok'.1.trans g3.symm
          have step : PrOk c (2 ^ (max (β c) (rc β R c) + rc β R c + 2)) r' (red c b' r') ∧ (nth (red c b' r') c).natAbs < (nth r' c).natAbs := by
            rcases g9 with ⟨_, h1, h2⟩ | h
            · exact PrOk.first lbr h1 h2 hz'
            · exact h.step lbr hz'
          have bits : Bb (rc β R (c + 1)) b' ∧ Bb (rc β R (c + 1)) r' := by
            rcases g9 with ⟨_, h1, h2⟩ | h
            · exact ⟨h1.mono (by rw [hm3]; have := Nat.le_max_left (β c) (rc β R c); omega), h2.mono hm1⟩
            · exact ⟨h.bits.1.mono (by rw [hm3]; omega), h.bits.2.mono (by rw [hm3]; omega)⟩
          refine ins_turn (hself _) g6 g1 ok'.1 g3 hw hz' bits.1 bits.2 (by omega) (by omega) fun b4 b5 => ?_
          rw [List.set_set]
          refine e4 (nth (red c b' r') c).natAbs _ _ (by omega) ⟨b4, b5, cur'.set c (some r'), r', red c b' r', rfl, rfl, by rw [List.length_set]; exact g1, ok_set g2 g3 g4 hz', (sub1_len lbr).trans ok'.1, z_red lbr ok'.2.1 g4, ?_, List.getElem?_set_self (by omega), fun i hi => by rw [List.getElem?_set_ne (Ne.symm hi)]; exact g7 i hi, Nat.le_refl _, .inr step.1⟩
          exact g5.trans (set_turn g2 g6 g3) (len_cons hl ok.len) (len_cons ((sub1_len lbr).trans ok'.1) (ok_set g2 g3 g4 hz').len)
  · rintro ρ st' ⟨a3, a4, a5, a6, a7, cur, r, pre, rfl, hp, rfl, I, br, hcb⟩
    rw [List.append_nil] at hp
    have hpl := range_pre hp
    rw [hpl] at I br
    refine ⟨trivial, ?_⟩
    have rz : r = zv w := vext (by rw [I.lr]; simp [zv]) fun i hi => by rw [nth_zv]; exact I.z i (by rw [I.lr] at hi; exact hi)
    refine hk cur I.len I.ok (fun i a e => ?_) (I.se.trans ⟨fun y m => ?_, fun y m => Span.mem (len_cons I.lr I.ok.len) (List.mem_cons_of_mem _ m)⟩ (len_cons hl ok.len) I.ok.len)
    · have hi : i < cur.length := (List.getElem?_eq_some_iff.mp e).1
      exact I.lo i a (by rw [I.len] at hi; exact hi) e
    · rcases List.mem_cons.mp m with rfl | m
      · rw [rz]; exact .zero
      · exact Span.mem I.ok.len m
  · obtain ⟨h1, h2⟩ := List.getElem?_eq_some_iff.mp hst
    rw [← h2]
    exact (List.set_getElem_self h1).symm
end VP
end
section
namespace VP
open VM ML
/-- how large the basis grows: by the count of its rows, or not at all where each row has a head of its own -/
def Bc (vs : List Vec) (w R X : Nat) : Prop := (∀ m, m < vs.length → rc (bn R m) R w ≤ X) ∨ (R ≤ X ∧ ∃ qs : Ps, qs.map (·.2) = vs ∧ qs.Pairwise (fun x y => x.1 < y.1) ∧ ∀ p a, (p, a) ∈ qs → p < w ∧ Z p a ∧ nth a p ≠ 0)
structure Sz (w R : Nat) (vs : List Vec) (X : Nat) : Prop where
  x : Bc vs w R X
  x1 : X ≤ 40000000
  x2 : 2 * (X + (w + 1) * (hb X w + 1)) ≤ 100000000
def SpBasis (cs : CS) : Prop := ∀ (vv : PV) (ys : List (Bool × Vec)) (w R X : Nat) (st : Store) (k x : KV), sq st vv = some (ys.map encV) → Len w (ys.map (·.2)) → (∀ r ∈ ys.map (·.2), Bb R r) → 0 < R → w ≤ 1000 → Bc (ys.map (·.2)) w R X → X ≤ 40000000 →
  (∀ bs : Bs, bs.length = w → BsOk w bs → BsB bs (fun _ => X) → SE w (ys.map (·.2)) (rws bs) → k (.ref st.length) (st ++ [.lst (bs.map encO)])) → cs 13 [vv, .int w] st k x
theorem stays_app {u : PV} {st : Store} {xs : List PV} {o : SO} (h : sq st u = some xs) : stays (st ++ [o]) u (st ++ [o]) ∧ sq (st ++ [o]) u = some xs := by
  refine ⟨stays_self _ _, ?_⟩
  by_cases ht : ∃ ys, u = .tup ys
  · obtain ⟨ys, rfl⟩ := ht
    exact h
  · have h2 : asL st u = some xs := by
      cases u <;> first | exact h | exact (ht ⟨_, rfl⟩).elim
    have h3 : asL (st ++ [o]) u = some xs := by
      cases u <;> simp only [asL] at h2 ⊢ <;> try exact h2
      rename_i i
      cases e : st[i]? with
      | none => rw [e] at h2; cases h2
      | some o' =>
        rw [List.getElem?_append_left (List.getElem?_eq_some_iff.mp e).1, e]
        rw [e] at h2
        exact h2
    cases u <;> first | exact h3 | exact (ht ⟨_, rfl⟩).elim
theorem stays_set {u : PV} {st : Store} {xs : List PV} {o o' : SO} (h : sq st u = some xs) : stays (st ++ [o]) u (st ++ [o']) := by
  cases u <;> first | trivial | skip
  rename_i i
  have hi : i < st.length := by
    simp only [sq, asL] at h
    cases e : st[i]? with
    | none => rw [e] at h; cases h
    | some o => exact (List.getElem?_eq_some_iff.mp e).1
  show (st ++ [o'])[i]? = (st ++ [o])[i]?
  rw [List.getElem?_append_left hi, List.getElem?_append_left hi]
theorem app_set {st : Store} {o o' : SO} : (st ++ [o]).set st.length o' = st ++ [o'] := by
  rw [List.set_append_right _ _ (Nat.le_refl _), Nat.sub_self]
  rfl
theorem rws_none (w : Nat) : rws (List.replicate w none) = [] := by
  induction w with
  | zero => rfl
  | succ w ih => simpa [rws, List.replicate_succ] using ih
/-- a row with a head of its own -/
def SpIns0 (cs : CS) : Prop := ∀ (j : Nat) (bs : Bs) (vv : PV) (v : Vec) (w c : Nat) (st : Store) (k x : KV), st[j]? = some (.lst (bs.map encO)) → seqOf st vv = some (pvis v) → bs.length = w → w ≤ 1000 → v.length = w → c < w → Z c v → nth v c ≠ 0 → bs[c]? = some none →
  k .non (st.set j (.lst ((bs.set c (some v)).map encO))) → cs 12 [.ref j, vv] st k x
theorem ins0_at {FT : Nat → Option FD} (hF : FT 12 = some ⟨2, 8, T__law_insert⟩) : At FT 1 SpIns0 := at_of (C := fun _ => True) hF (fun _ _ => trivial) fun cs cs' _ go => by
  intro j bs vv v w c st k x hst hv hbl hw hl hc hz hn hnone hk
  refine go _ _ _ _ rfl ?_
  show (sCons _ (sFor _ _ (sIf _ (sCons _ (sWhile _ insBody)) sNil))) _ _ _
  simp only [VM.sNil, VM.sCons, VM.sSet, VM.sPar, VM.sSetIx, VM.setIx, VM.sExpr, VM.sRet, VM.sRetN, VM.sIf, VM.sBreak, VM.sCont, VM.sFor, VM.gName, VM.gTup, VM.gEach, VM.eVar, VM.eC, VM.eBin, VM.eNeg, VM.eCmp, VM.eChain, VM.tOf, VM.tCmp, VM.tChain, VM.tAnd, VM.tOr, VM.tNot, VM.tYes, VM.eTest, VM.eAnd, VM.eOr, VM.eNot, VM.eIf, VM.aNil, VM.aCons, VM.eLst, VM.eLstM, VM.eTup, VM.eCall, VM.eIx, VM.eSl, VM.iE, VM.iRange1, VM.iRange2, VM.iZip, VM.iRev, VM.eComp, VM.eCompM, VM.eAppend, VM.eInsert, VM.eB1, VM.fLen, VM.fAbs, VM.fInt, VM.fList, VM.fListM, VM.fTuple, VM.fSum, VM.fAll, VM.fAny, VM.fIsi, VM.opBin, VM.opAdd, VM.opSub, VM.opMul, VM.opFdiv, VM.opMod, VM.opPow, VM.opCm, VM.frz, VM.isD, VM.eqv, VM.isNon, VM.D0, VM.turn, List.map_cons, List.map_nil, List.replicate_succ, List.replicate_zero, List.cons_append, List.nil_append, List.getElem?_cons_zero, List.getElem?_cons_succ, List.set_cons_zero, List.set_cons_succ, Nat.reduceSub, VM.wipe, List.length_cons, List.length_nil, Nat.reduceAdd, hv, bLen, asL, List.length_map, hl, Int.toNat_natCast]
  refine ⟨by unfold i62; omega, ?_⟩
  refine for_inv (fun rem ρ st' => st' = st ∧ ∃ (a3 a4 a5 a6 a7 : Option PV) (pre : List PV), ρ = [some (.ref j), some vv, some (ilst v), a3, a4, a5, a6, a7] ∧ pre ++ rem = ((List.range w).map fun (i : Nat) => PV.int (i : Int)) ∧ pre.length ≤ c) ?_ ?_ _ _ _ ⟨rfl, _, _, _, _, _, [], rfl, rfl, Nat.zero_le _⟩
  · rintro v' rem ρ st' ⟨rfl, a3, a4, a5, a6, a7, pre, rfl, hp, hpc⟩
    refine ⟨trivial, fun D' d1 d2 d3 d4 d5 => ?_⟩
    obtain ⟨rfl, hlt⟩ := range_split hp
    obtain ⟨x5, x6⟩ := ixv (v := v) (at_ := pre.length) (by omega)
    simp only [VM.sNil, VM.sCons, VM.sSet, VM.sPar, VM.sSetIx, VM.setIx, VM.sExpr, VM.sRet, VM.sRetN, VM.sIf, VM.sBreak, VM.sCont, VM.sFor, VM.gName, VM.gTup, VM.gEach, VM.eVar, VM.eC, VM.eBin, VM.eNeg, VM.eCmp, VM.eChain, VM.tOf, VM.tCmp, VM.tChain, VM.tAnd, VM.tOr, VM.tNot, VM.tYes, VM.eTest, VM.eAnd, VM.eOr, VM.eNot, VM.eIf, VM.aNil, VM.aCons, VM.eLst, VM.eLstM, VM.eTup, VM.eCall, VM.eIx, VM.getIx, VM.eSl, VM.getSl, VM.iE, VM.iRange1, VM.iRange2, VM.iZip, VM.iRev, VM.eComp, VM.eCompM, VM.eAppend, VM.eInsert, VM.eB1, VM.fLen, VM.fAbs, VM.fInt, VM.fList, VM.fListM, VM.fTuple, VM.fSum, VM.fAll, VM.fAny, VM.fIsi, VM.bLen, VM.seqOf, VM.sq, VM.asL, VM.items, VM.isSeq, VM.truth, VM.opBin, VM.opAdd, VM.opSub, VM.opMul, VM.opFdiv, VM.opMod, VM.opPow, VM.opCm, VM.opEq, VM.frz, VM.isD, VM.eqv, VM.isNon, VM.kdOf, VM.D0, VM.turn, List.map_cons, List.map_nil, List.replicate_succ, List.replicate_zero, List.cons_append, List.nil_append, List.getElem?_cons_zero, List.getElem?_cons_succ, List.set_cons_zero, List.set_cons_succ, Nat.reduceSub, VM.wipe, List.length_cons, List.length_nil, Nat.reduceAdd, ilst, x5, x6]
    refine ⟨trivial, trivial, ?_⟩
    by_cases h : pre.length < c
    · have hb : (!(nth v pre.length == 0)) = false := by rw [hz _ h]; rfl
      refine (if_neg (by rw [hb]; exact Bool.false_ne_true)).mpr' ?_
      exact d4 _ _ ⟨rfl, _, _, _, _, _, pre ++ [.int (pre.length : Nat)], rfl, by simpa using hp, by rw [List.length_append, List.length_singleton]; omega⟩
    · have hcp : c = pre.length := by omega
      subst hcp
      have hb : (!(nth v pre.length == 0)) = true := by
        have : (nth v pre.length == 0) = false := by rw [beq_eq_false_iff_ne]; exact hn
        rw [this]; rfl
      refine (if_pos hb).mpr' ?_
      have hcl : pre.length < bs.length := by omega
      obtain ⟨x1, x2⟩ := encO_get hcl
      have ecn : bs[pre.length] = none := by
        rw [List.getElem?_eq_getElem hcl] at hnone
        exact Option.some.inj hnone
      rw [ecn] at x2
      simp only [hst, x1, x2, encO, if_true]
      refine ⟨trivial, ?_⟩
      have e' : (List.map encO bs).set pre.length (PV.lst (List.map PV.int v)) = (bs.set pre.length (some v)).map encO := map_set_enc bs pre.length v
      rw [e', d1]
      exact hk
  · rintro ρ st' ⟨rfl, a3, a4, a5, a6, a7, pre, rfl, hp, hpc⟩
    rw [List.append_nil] at hp
    have hpl := range_pre hp
    omega
set_option maxHeartbeats 1000000 in
theorem basis_at {FT : Nat → Option FD} {d : Nat} (hF : FT 13 = some ⟨2, 5, T__law_basis⟩) (h1 : At FT d SpIns) (h0 : At FT d SpIns0) : At FT (d + 1) SpBasis := at_of (C := fun cs => SpIns cs ∧ SpIns0 cs) hF (fun n hn => ⟨h1 n hn, h0 n hn⟩) fun cs cs' C go => by
  obtain ⟨ins, ins0⟩ := C
  intro vv ys w R X st k x hq hl hb hR hw hX hX1 hk
  refine go _ _ _ _ rfl ?_
  simp only [T__law_basis, VM.sNil, VM.sCons, VM.sSet, VM.sPar, VM.sSetIx, VM.setIx, VM.sExpr, VM.sRet, VM.sRetN, VM.sIf, VM.sBreak, VM.sCont, VM.sFor, VM.gName, VM.gTup, VM.gEach, VM.eVar, VM.eC, VM.eBin, VM.eNeg, VM.eCmp, VM.eChain, VM.tOf, VM.tCmp, VM.tChain, VM.tAnd, VM.tOr, VM.tNot, VM.tYes, VM.eTest, VM.eAnd, VM.eOr, VM.eNot, VM.eIf, VM.aNil, VM.aCons, VM.eLst, VM.eLstM, VM.eTup, VM.eCall, VM.eIx, VM.eSl, VM.iE, VM.iRange1, VM.iRange2, VM.iZip, VM.iRev, VM.eComp, VM.eCompM, VM.eAppend, VM.eInsert, VM.eB1, VM.fLen, VM.fAbs, VM.fInt, VM.fList, VM.fListM, VM.fTuple, VM.fSum, VM.fAll, VM.fAny, VM.fIsi, VM.opBin, VM.opAdd, VM.opSub, VM.opMul, VM.opFdiv, VM.opMod, VM.opPow, VM.opCm, VM.frz, VM.isD, VM.eqv, VM.isNon, VM.D0, VM.turn, List.map_cons, List.map_nil, List.replicate_succ, List.replicate_zero, List.cons_append, List.nil_append, List.getElem?_cons_zero, List.getElem?_cons_succ, List.set_cons_zero, List.set_cons_succ, Nat.reduceSub, VM.wipe, List.length_cons, List.length_nil, Nat.reduceAdd, Int.toNat_natCast]
  refine ⟨by unfold i62; omega, ?_⟩
  refine comp_of (fun (i : Nat) => PV.int (i : Int)) (fun _ => some .non) trivial (List.range w) (fun n m k' hk' => by simpa only [VM.sNil, VM.sCons, VM.sSet, VM.sPar, VM.sSetIx, VM.setIx, VM.sExpr, VM.sRet, VM.sRetN, VM.sIf, VM.sBreak, VM.sCont, VM.sFor, VM.gName, VM.gTup, VM.gEach, VM.eVar, VM.eC, VM.eBin, VM.eNeg, VM.eCmp, VM.eChain, VM.tOf, VM.tCmp, VM.tChain, VM.tAnd, VM.tOr, VM.tNot, VM.tYes, VM.eTest, VM.eAnd, VM.eOr, VM.eNot, VM.eIf, VM.aNil, VM.aCons, VM.eLst, VM.eLstM, VM.eTup, VM.eCall, VM.eIx, VM.eSl, VM.iE, VM.iRange1, VM.iRange2, VM.iZip, VM.iRev, VM.eComp, VM.eCompM, VM.eAppend, VM.eInsert, VM.eB1, VM.fLen, VM.fAbs, VM.fInt, VM.fList, VM.fListM, VM.fTuple, VM.fSum, VM.fAll, VM.fAny, VM.fIsi, VM.opBin, VM.opAdd, VM.opSub, VM.opMul, VM.opFdiv, VM.opMod, VM.opPow, VM.opCm, VM.frz, VM.isD, VM.eqv, VM.isNon, VM.D0, VM.turn, List.map_cons, List.map_nil, List.replicate_succ, List.replicate_zero, List.cons_append, List.nil_append, List.getElem?_cons_zero, List.getElem?_cons_succ, List.set_cons_zero, List.set_cons_succ, Nat.reduceSub, VM.wipe, List.length_cons, List.length_nil, Nat.reduceAdd, if_true] using hk') (by rw [List.length_range]; show _ ≤ 16777216; omega) ?_
  have e0 : (List.range w).filterMap (fun _ => some PV.non) = (List.replicate w (none : Option Vec)).map encO := by
    rw [show (fun _ : Nat => some PV.non) = some ∘ (fun _ => PV.non) from rfl, List.filterMap_eq_map, List.map_const', List.map_replicate, List.length_range]
    rfl
  rw [e0]
  obtain ⟨s1, s2⟩ := stays_app (o := .lst ((List.replicate w (none : Option Vec)).map encO)) hq
  obtain ⟨f1, f2, f3, f4⟩ := sq_facts s2
  simp only [VM.sNil, VM.sCons, VM.sSet, VM.sPar, VM.sSetIx, VM.setIx, VM.sExpr, VM.sRet, VM.sRetN, VM.sIf, VM.sBreak, VM.sCont, VM.sFor, VM.gName, VM.gTup, VM.gEach, VM.eVar, VM.eC, VM.eBin, VM.eNeg, VM.eCmp, VM.eChain, VM.tOf, VM.tCmp, VM.tChain, VM.tAnd, VM.tOr, VM.tNot, VM.tYes, VM.eTest, VM.eAnd, VM.eOr, VM.eNot, VM.eIf, VM.aNil, VM.aCons, VM.eLst, VM.eLstM, VM.eTup, VM.eCall, VM.eIx, VM.eSl, VM.iE, VM.iRange1, VM.iRange2, VM.iZip, VM.iRev, VM.eComp, VM.eCompM, VM.eAppend, VM.eInsert, VM.eB1, VM.fLen, VM.fAbs, VM.fInt, VM.fList, VM.fListM, VM.fTuple, VM.fSum, VM.fAll, VM.fAny, VM.fIsi, VM.opBin, VM.opAdd, VM.opSub, VM.opMul, VM.opFdiv, VM.opMod, VM.opPow, VM.opCm, VM.frz, VM.isD, VM.eqv, VM.isNon, VM.D0, VM.turn, List.map_cons, List.map_nil, List.replicate_succ, List.replicate_zero, List.cons_append, List.nil_append, List.getElem?_cons_zero, List.getElem?_cons_succ, List.set_cons_zero, List.set_cons_succ, Nat.reduceSub, VM.wipe, List.length_cons, List.length_nil, Nat.reduceAdd, f1, f2]
  refine ⟨trivial, ?_⟩
  rcases hX with hX | hX
  · refine for_inv (fun rem ρ st' => ∃ (a3 a4 : Option PV) (bs : Bs) (m : Nat), ρ = [some vv, some (.int (w : Nat)), some (.ref st.length), a3, a4] ∧ st' = st ++ [.lst (bs.map encO)] ∧ rem = (ys.drop m).map encV ∧ m ≤ ys.length ∧ bs.length = w ∧ BsOk w bs ∧ BsB bs (bn R m) ∧ SE w ((ys.take m).map (·.2)) (rws bs)) ?_ ?_ _ _ _ ⟨_, _, List.replicate w none, 0, rfl, rfl, rfl, Nat.zero_le _, by simp, fun i a e => ?_, fun i a e => ?_, ?_⟩
    · rintro v rem ρ st' ⟨a3, a4, bs, m, rfl, rfl, hr, hm, g1, g2, g3, g4⟩
      refine ⟨stays_set hq, fun D' d1 d2 d3 d4 d5 => ?_⟩
      have hmlt : m < ys.length := by
        refine Classical.byContradiction fun hn => ?_
        rw [List.drop_of_length_le (by omega)] at hr
        cases hr
      rw [List.drop_eq_getElem_cons hmlt, List.map_cons] at hr
      obtain ⟨rfl, rfl⟩ := List.cons.inj hr
      have my : ys[m].2 ∈ ys.map (·.2) := List.mem_map.mpr ⟨_, List.getElem_mem hmlt, rfl⟩
      have htk : Len w ((ys.take m).map (·.2)) := fun y my => by
        obtain ⟨z, hz, rfl⟩ := List.mem_map.mp my
        exact hl _ (List.mem_map.mpr ⟨z, List.mem_of_mem_take hz, rfl⟩)
      simp only [VM.sNil, VM.sCons, VM.sSet, VM.sPar, VM.sSetIx, VM.setIx, VM.sExpr, VM.sRet, VM.sRetN, VM.sIf, VM.sBreak, VM.sCont, VM.sFor, VM.gName, VM.gTup, VM.gEach, VM.eVar, VM.eC, VM.eBin, VM.eNeg, VM.eCmp, VM.eChain, VM.tOf, VM.tCmp, VM.tChain, VM.tAnd, VM.tOr, VM.tNot, VM.tYes, VM.eTest, VM.eAnd, VM.eOr, VM.eNot, VM.eIf, VM.aNil, VM.aCons, VM.eLst, VM.eLstM, VM.eTup, VM.eCall, VM.eIx, VM.eSl, VM.iE, VM.iRange1, VM.iRange2, VM.iZip, VM.iRev, VM.eComp, VM.eCompM, VM.eAppend, VM.eInsert, VM.eB1, VM.fLen, VM.fAbs, VM.fInt, VM.fList, VM.fListM, VM.fTuple, VM.fSum, VM.fAll, VM.fAny, VM.fIsi, VM.opBin, VM.opAdd, VM.opSub, VM.opMul, VM.opFdiv, VM.opMod, VM.opPow, VM.opCm, VM.frz, VM.isD, VM.eqv, VM.isNon, VM.D0, VM.turn, List.map_cons, List.map_nil, List.replicate_succ, List.replicate_zero, List.cons_append, List.nil_append, List.getElem?_cons_zero, List.getElem?_cons_succ, List.set_cons_zero, List.set_cons_succ, Nat.reduceSub, VM.wipe, List.length_cons, List.length_nil, Nat.reduceAdd]
      refine ins st.length bs (encV ys[m]) ys[m].2 w R (bn R m) _ _ _ (by simp) (seq_enc _).1 g1 hw g2 g3 (hl _ my) (hb _ my) hR (Nat.le_trans (hX m (by rw [List.length_map]; exact hmlt)) hX1) fun bs' k1 k2 k3 k4 => ?_
      rw [app_set]
      refine d4 _ _ ⟨a3, some (encV ys[m]), bs', m + 1, rfl, rfl, rfl, hmlt, k1, k2, k3, ?_⟩
      rw [List.take_succ_eq_append_getElem hmlt, List.map_append]
      have hlm := hl _ my
      have t1 : SE w ((ys.take m).map (·.2) ++ [ys[m].2]) (ys[m].2 :: (ys.take m).map (·.2)) := by
        have L1 : Len w ((ys.take m).map (·.2) ++ [ys[m].2]) := fun y my' => by
          rcases List.mem_append.mp my' with h | h
          · exact htk y h
          · rw [List.mem_singleton.mp h]; exact hlm
        refine ⟨fun y my' => Span.mem (len_cons hlm htk) ?_, fun y my' => Span.mem L1 ?_⟩
        · rcases List.mem_append.mp my' with h | h
          · exact List.mem_cons_of_mem _ h
          · rw [List.mem_singleton.mp h]; exact List.mem_cons_self ..
        · rcases List.mem_cons.mp my' with h | h
          · rw [h]; exact List.mem_append_right _ (List.mem_singleton.mpr rfl)
          · exact List.mem_append_left _ h
      have L1 : Len w ((ys.take m).map (·.2) ++ [ys[m].2]) := fun y my' => by
        rcases List.mem_append.mp my' with h | h
        · exact htk y h
        · rw [List.mem_singleton.mp h]; exact hlm
      have t2 := SE.cons g4 hlm htk g2.len
      have t3 := t1.trans t2 L1 (len_cons hlm g2.len)
      exact t3.trans k4 L1 k2.len
    · rintro ρ st' ⟨a3, a4, bs, m, rfl, rfl, hr, hm, g1, g2, g3, g4⟩
      refine ⟨stays_set hq, ?_⟩
      have hml : m = ys.length := by
        have := congrArg List.length hr
        rw [List.length_map, List.length_drop] at this
        simp only [List.length_nil] at this
        omega
      subst hml
      rw [List.take_length] at g4
      simp only [VM.sNil, VM.sCons, VM.sSet, VM.sPar, VM.sSetIx, VM.setIx, VM.sExpr, VM.sRet, VM.sRetN, VM.sIf, VM.sBreak, VM.sCont, VM.sFor, VM.gName, VM.gTup, VM.gEach, VM.eVar, VM.eC, VM.eBin, VM.eNeg, VM.eCmp, VM.eChain, VM.tOf, VM.tCmp, VM.tChain, VM.tAnd, VM.tOr, VM.tNot, VM.tYes, VM.eTest, VM.eAnd, VM.eOr, VM.eNot, VM.eIf, VM.aNil, VM.aCons, VM.eLst, VM.eLstM, VM.eTup, VM.eCall, VM.eIx, VM.getIx, VM.eSl, VM.getSl, VM.iE, VM.iRange1, VM.iRange2, VM.iZip, VM.iRev, VM.eComp, VM.eCompM, VM.eAppend, VM.eInsert, VM.eB1, VM.fLen, VM.fAbs, VM.fInt, VM.fList, VM.fListM, VM.fTuple, VM.fSum, VM.fAll, VM.fAny, VM.fIsi, VM.bLen, VM.seqOf, VM.sq, VM.asL, VM.items, VM.isSeq, VM.truth, VM.opBin, VM.opAdd, VM.opSub, VM.opMul, VM.opFdiv, VM.opMod, VM.opPow, VM.opCm, VM.opEq, VM.frz, VM.isD, VM.eqv, VM.isNon, VM.kdOf, VM.D0, VM.turn, List.map_cons, List.map_nil, List.replicate_succ, List.replicate_zero, List.cons_append, List.nil_append, List.getElem?_cons_zero, List.getElem?_cons_succ, List.set_cons_zero, List.set_cons_succ, Nat.reduceSub, VM.wipe, List.length_cons, List.length_nil, Nat.reduceAdd]
      refine hk bs g1 g2 (fun i a e => ?_) g4
      have hi : i < bs.length := (List.getElem?_eq_some_iff.mp e).1
      have := g3 i a e
      cases hy : ys.length with
      | zero =>
        rw [hy] at this
        refine this.mono (Nat.zero_le _)
      | succ n =>
        rw [hy] at this
        exact this.mono (Nat.le_trans (rc_mono (bn R n) R (show i + 1 ≤ w by omega)) (hX n (by rw [List.length_map]; omega)))
    · rw [List.getElem?_replicate] at e
      split at e <;> cases e
    · rw [List.getElem?_replicate] at e
      split at e <;> cases e
    · rw [rws_none]
      exact SE.refl fun _ m => (nomatch m)
  · obtain ⟨hRX, qs, hqs, sq', hqr⟩ := hX
    have hql : qs.length = ys.length := by have := congrArg List.length hqs; simpa using this
    refine for_inv (fun rem ρ st' => ∃ (a3 a4 : Option PV) (bs : Bs) (m : Nat), ρ = [some vv, some (.int (w : Nat)), some (.ref st.length), a3, a4] ∧ st' = st ++ [.lst (bs.map encO)] ∧ rem = (ys.drop m).map encV ∧ m ≤ ys.length ∧ bs.length = w ∧ BsOk w bs ∧ BsB bs (fun _ => X) ∧ SE w ((ys.take m).map (·.2)) (rws bs) ∧ (∀ (i : Nat) (a : Vec), bs[i]? = some (some a) → ∃ n, n < m ∧ ∃ b, qs[n]? = some (i, b))) ?_ ?_ _ _ _ ⟨_, _, List.replicate w none, 0, rfl, rfl, rfl, Nat.zero_le _, by simp, fun i a e => ?_, fun i a e => ?_, ?_, fun i a e => ?_⟩
    · rintro v rem ρ st' ⟨a3, a4, bs, m, rfl, rfl, hr, hm, g1, g2, g3, g4, g5⟩
      refine ⟨stays_set hq, fun D' d1 d2 d3 d4 d5 => ?_⟩
      have hmlt : m < ys.length := by
        refine Classical.byContradiction fun hn => ?_
        rw [List.drop_of_length_le (by omega)] at hr
        cases hr
      rw [List.drop_eq_getElem_cons hmlt, List.map_cons] at hr
      obtain ⟨rfl, rfl⟩ := List.cons.inj hr
      have my : ys[m].2 ∈ ys.map (·.2) := List.mem_map.mpr ⟨_, List.getElem_mem hmlt, rfl⟩
      have htk : Len w ((ys.take m).map (·.2)) := fun y my => by
        obtain ⟨z, hz, rfl⟩ := List.mem_map.mp my
        exact hl _ (List.mem_map.mpr ⟨z, List.mem_of_mem_take hz, rfl⟩)
      have hqm : m < qs.length := by omega
      have eq2 : qs[m].2 = ys[m].2 := by
        have h1 : (qs.map (·.2))[m]? = (ys.map (·.2))[m]? := by rw [hqs]
        rw [List.getElem?_map, List.getElem?_map, List.getElem?_eq_getElem hqm, List.getElem?_eq_getElem hmlt] at h1
        exact Option.some.inj h1
      obtain ⟨p1, p2, p3⟩ := hqr qs[m].1 qs[m].2 (List.getElem_mem hqm)
      rw [eq2] at p2 p3
      have hnone : bs[qs[m].1]? = some none := by
        rw [List.getElem?_eq_getElem (by omega)]
        cases e : bs[qs[m].1]'(by omega) with
        | none => rfl
        | some a =>
          obtain ⟨n, hn, b, hb'⟩ := g5 qs[m].1 a (by rw [List.getElem?_eq_getElem (by omega), e])
          obtain ⟨hnl, hne⟩ := List.getElem?_eq_some_iff.mp hb'
          have := List.pairwise_iff_getElem.mp sq' n m hnl hqm hn
          rw [hne] at this
          simp at this
      simp only [VM.sNil, VM.sCons, VM.sSet, VM.sPar, VM.sSetIx, VM.setIx, VM.sExpr, VM.sRet, VM.sRetN, VM.sIf, VM.sBreak, VM.sCont, VM.sFor, VM.gName, VM.gTup, VM.gEach, VM.eVar, VM.eC, VM.eBin, VM.eNeg, VM.eCmp, VM.eChain, VM.tOf, VM.tCmp, VM.tChain, VM.tAnd, VM.tOr, VM.tNot, VM.tYes, VM.eTest, VM.eAnd, VM.eOr, VM.eNot, VM.eIf, VM.aNil, VM.aCons, VM.eLst, VM.eLstM, VM.eTup, VM.eCall, VM.eIx, VM.eSl, VM.iE, VM.iRange1, VM.iRange2, VM.iZip, VM.iRev, VM.eComp, VM.eCompM, VM.eAppend, VM.eInsert, VM.eB1, VM.fLen, VM.fAbs, VM.fInt, VM.fList, VM.fListM, VM.fTuple, VM.fSum, VM.fAll, VM.fAny, VM.fIsi, VM.opBin, VM.opAdd, VM.opSub, VM.opMul, VM.opFdiv, VM.opMod, VM.opPow, VM.opCm, VM.frz, VM.isD, VM.eqv, VM.isNon, VM.D0, VM.turn, List.map_cons, List.map_nil, List.replicate_succ, List.replicate_zero, List.cons_append, List.nil_append, List.getElem?_cons_zero, List.getElem?_cons_succ, List.set_cons_zero, List.set_cons_succ, Nat.reduceSub, VM.wipe, List.length_cons, List.length_nil, Nat.reduceAdd]
      refine ins0 st.length bs (encV ys[m]) ys[m].2 w qs[m].1 _ _ _ (by simp) (seq_enc _).1 g1 hw (hl _ my) p1 p2 p3 hnone ?_
      rw [app_set]
      have hlm := hl _ my
      have L1 : Len w ((ys.take m).map (·.2) ++ [ys[m].2]) := fun y my' => by
        rcases List.mem_append.mp my' with h | h
        · exact htk y h
        · rw [List.mem_singleton.mp h]; exact hlm
      refine d4 _ _ ⟨a3, some (encV ys[m]), bs.set qs[m].1 (some ys[m].2), m + 1, rfl, rfl, rfl, hmlt, by rw [List.length_set]; exact g1, ok_set g2 hlm p2 p3, fun i a e => ?_, ?_, fun i a e => ?_⟩
      · by_cases hi : qs[m].1 = i
        · subst hi
          rw [List.getElem?_set_self (by omega)] at e
          cases e
          exact (hb _ my).mono hRX
        · rw [List.getElem?_set_ne hi] at e
          exact g3 i a e
      · rw [List.take_succ_eq_append_getElem hmlt, List.map_append]
        have t1 : SE w ((ys.take m).map (·.2) ++ [ys[m].2]) (ys[m].2 :: (ys.take m).map (·.2)) := by
          refine ⟨fun y my' => Span.mem (len_cons hlm htk) ?_, fun y my' => Span.mem L1 ?_⟩
          · rcases List.mem_append.mp my' with h | h
            · exact List.mem_cons_of_mem _ h
            · rw [List.mem_singleton.mp h]; exact List.mem_cons_self ..
          · rcases List.mem_cons.mp my' with h | h
            · rw [h]; exact List.mem_append_right _ (List.mem_singleton.mpr rfl)
            · exact List.mem_append_left _ h
        have t2 := SE.cons g4 hlm htk g2.len
        have t3 := t1.trans t2 L1 (len_cons hlm g2.len)
        exact t3.trans (set_none g2 hnone hlm) L1 (ok_set g2 hlm p2 p3).len
      · by_cases hi : qs[m].1 = i
        · subst hi
          exact ⟨m, Nat.lt_succ_self m, qs[m].2, List.getElem?_eq_getElem hqm⟩
        · rw [List.getElem?_set_ne hi] at e
          obtain ⟨n, hn, b⟩ := g5 i a e
          exact ⟨n, by omega, b⟩
    · rintro ρ st' ⟨a3, a4, bs, m, rfl, rfl, hr, hm, g1, g2, g3, g4, g5⟩
      refine ⟨stays_set hq, ?_⟩
      have hml : m = ys.length := by
        have := congrArg List.length hr
        rw [List.length_map, List.length_drop] at this
        simp only [List.length_nil] at this
        omega
      subst hml
      rw [List.take_length] at g4
      simp only [VM.sNil, VM.sCons, VM.sSet, VM.sPar, VM.sSetIx, VM.setIx, VM.sExpr, VM.sRet, VM.sRetN, VM.sIf, VM.sBreak, VM.sCont, VM.sFor, VM.gName, VM.gTup, VM.gEach, VM.eVar, VM.eC, VM.eBin, VM.eNeg, VM.eCmp, VM.eChain, VM.tOf, VM.tCmp, VM.tChain, VM.tAnd, VM.tOr, VM.tNot, VM.tYes, VM.eTest, VM.eAnd, VM.eOr, VM.eNot, VM.eIf, VM.aNil, VM.aCons, VM.eLst, VM.eLstM, VM.eTup, VM.eCall, VM.eIx, VM.getIx, VM.eSl, VM.getSl, VM.iE, VM.iRange1, VM.iRange2, VM.iZip, VM.iRev, VM.eComp, VM.eCompM, VM.eAppend, VM.eInsert, VM.eB1, VM.fLen, VM.fAbs, VM.fInt, VM.fList, VM.fListM, VM.fTuple, VM.fSum, VM.fAll, VM.fAny, VM.fIsi, VM.bLen, VM.seqOf, VM.sq, VM.asL, VM.items, VM.isSeq, VM.truth, VM.opBin, VM.opAdd, VM.opSub, VM.opMul, VM.opFdiv, VM.opMod, VM.opPow, VM.opCm, VM.opEq, VM.frz, VM.isD, VM.eqv, VM.isNon, VM.kdOf, VM.D0, VM.turn, List.map_cons, List.map_nil, List.replicate_succ, List.replicate_zero, List.cons_append, List.nil_append, List.getElem?_cons_zero, List.getElem?_cons_succ, List.set_cons_zero, List.set_cons_succ, Nat.reduceSub, VM.wipe, List.length_cons, List.length_nil, Nat.reduceAdd]
      exact hk bs g1 g2 g3 g4
    · rw [List.getElem?_replicate] at e
      split at e <;> cases e
    · rw [List.getElem?_replicate] at e
      split at e <;> cases e
    · rw [rws_none]
      exact SE.refl fun _ m => (nomatch m)
    · rw [List.getElem?_replicate] at e
      split at e <;> cases e
end VP
end
section
namespace VP
open VM ML
def SpForm (cs : CS) : Prop := ∀ (vv : PV) (ys : List (Bool × Vec)) (w R X : Nat) (st : Store) (k x : KV), sq st vv = some (ys.map encV) → Len w (ys.map (·.2)) → (∀ r ∈ ys.map (·.2), Bb R r) → 0 < R → w ≤ 1000 → Sz w R (ys.map (·.2)) X →
  (∀ ps o, Form w (Span w (ys.map (·.2))) ps → (∀ p a, (p, a) ∈ ps → Bb (hb X w) a) → k (formV ps) (st ++ [.lst o])) → cs 15 [vv, .int w] st k x
/-- the same, the size of the made form known otherwise -/
def SpFormY (cs : CS) : Prop := ∀ (vv : PV) (ys : List (Bool × Vec)) (w R X Y : Nat) (st : Store) (k x : KV), sq st vv = some (ys.map encV) → Len w (ys.map (·.2)) → (∀ r ∈ ys.map (·.2), Bb R r) → 0 < R → w ≤ 1000 → Bc (ys.map (·.2)) w R X → X ≤ 40000000 → 2 * (X + (w + 1) * (Y + 1)) ≤ 100000000 →
  (hb X w ≤ Y ∨ ∀ ps, Form w (Span w (ys.map (·.2))) ps → ∀ p a, (p, a) ∈ ps → Bb Y a) →
  (∀ ps o, Form w (Span w (ys.map (·.2))) ps → (∀ p a, (p, a) ∈ ps → Bb Y a) → k (formV ps) (st ++ [.lst o])) → cs 15 [vv, .int w] st k x
theorem SpFormY.form {cs : CS} (h : SpFormY cs) : SpForm cs := fun vv ys w R X st k x h1 h2 h3 h4 h5 S hk => h vv ys w R X (hb X w) st k x h1 h2 h3 h4 h5 S.x S.x1 S.x2 (.inl (Nat.le_refl _)) hk
theorem redB_suf : ∀ (A B : Ps) (x : Nat × Vec), x ∈ redB B → x ∈ redB (A ++ B)
  | [], _, _, h => h
  | (p, a) :: A, B, x, h => List.mem_cons_of_mem _ (redB_suf A B x h)
theorem fm_enc : ∀ bs : Bs, bs.filterMap (fun o => if o.isSome = true then some (encO o) else none) = (rws bs).map ilst
  | [] => rfl
  | none :: bs => by
    have := fm_enc bs
    simpa [rws] using this
  | some a :: bs => by
    have := fm_enc bs
    simpa [rws, encO] using this
theorem redB_bits {X : Nat} : ∀ (ps : Ps), (∀ p a, (p, a) ∈ ps → Bb X a) → (∀ p a, (p, a) ∈ redB ps → 0 < nth a p) → ∀ p a, (p, a) ∈ redB ps → Bb (hb X ps.length) a
  | [], _, _, _, _, m => nomatch m
  | (q, b) :: ps, h, hp, p, a, m => by
    have ih := redB_bits ps (fun p a m => h p a (List.mem_cons_of_mem _ m)) fun p a m => hp p a (List.mem_cons_of_mem _ m)
    rcases List.mem_cons.mp m with e | m
    · cases e
      have h1 := lower_bits (H := hb X ps.length) (redB ps) b X (h q b (List.mem_cons_self ..)) fun p a m => ⟨ih p a m, hp p a (List.mem_cons_of_mem _ m)⟩
      have e1 : (redB ps).length = ps.length := by
        have : ∀ ps : Ps, (redB ps).length = ps.length := by
          intro ps
          induction ps with
          | nil => rfl
          | cons x ps ih => obtain ⟨p, a⟩ := x; simp [redB, ih]
        exact this ps
      rw [e1] at h1
      refine h1.mono ?_
      show _ ≤ X + (ps.length + 1) * (hb X ps.length + 1)
      exact Nat.add_le_add_left (Nat.mul_le_mul_right _ (Nat.le_succ _)) _
    · exact (ih p a m).mono (hb_mono X (Nat.le_succ _))
theorem redB_len : ∀ ps : Ps, (redB ps).length = ps.length
  | [] => rfl
  | (p, a) :: ps => by simp [redB, redB_len ps]
set_option maxHeartbeats 1000000 in
theorem formY_at {FT : Nat → Option FD} {d : Nat} (hF : FT 15 = some ⟨2, 9, T__law_form⟩) (h1 : At FT d SpBasis) (h2 : At FT d SpLow) : At FT (d + 1) SpFormY := at_of (C := fun cs => SpBasis cs ∧ SpLow cs) hF (fun n hn => ⟨h1 n hn, h2 n hn⟩) fun cs cs' C go => by
  obtain ⟨bas, low⟩ := C
  intro vv ys w R X Y st k x hq hl hb' hR hw Sx Sx1 hxs hY hk
  refine go _ _ _ _ rfl ?_
  simp only [T__law_form, VM.sNil, VM.sCons, VM.sSet, VM.sPar, VM.sSetIx, VM.setIx, VM.sExpr, VM.sRet, VM.sRetN, VM.sIf, VM.sBreak, VM.sCont, VM.sFor, VM.gName, VM.gTup, VM.gEach, VM.eVar, VM.eC, VM.eBin, VM.eNeg, VM.eCmp, VM.eChain, VM.tOf, VM.tCmp, VM.tChain, VM.tAnd, VM.tOr, VM.tNot, VM.tYes, VM.eTest, VM.eAnd, VM.eOr, VM.eNot, VM.eIf, VM.aNil, VM.aCons, VM.eLst, VM.eLstM, VM.eTup, VM.eCall, VM.eIx, VM.eSl, VM.iE, VM.iRange1, VM.iRange2, VM.iZip, VM.iRev, VM.eComp, VM.eCompM, VM.eAppend, VM.eInsert, VM.eB1, VM.fLen, VM.fAbs, VM.fInt, VM.fList, VM.fListM, VM.fTuple, VM.fSum, VM.fAll, VM.fAny, VM.fIsi, VM.opBin, VM.opAdd, VM.opSub, VM.opMul, VM.opFdiv, VM.opMod, VM.opPow, VM.opCm, VM.frz, VM.isD, VM.eqv, VM.isNon, VM.D0, VM.turn, List.map_cons, List.map_nil, List.replicate_succ, List.replicate_zero, List.cons_append, List.nil_append, List.getElem?_cons_zero, List.getElem?_cons_succ, List.set_cons_zero, List.set_cons_succ, Nat.reduceSub, VM.wipe, List.length_cons, List.length_nil, Nat.reduceAdd]
  refine bas vv ys w R X st _ _ hq hl hb' hR hw Sx Sx1 fun bs hbl ok bB se => ?_
  have hj : (st ++ [SO.lst (bs.map encO)])[st.length]? = some (.lst (bs.map encO)) := by simp
  simp only [items, isSeq, hj]
  refine ⟨trivial, ?_⟩
  refine comp_of encO (fun o => if o.isSome = true then some (encO o) else none) (stays_self _ _) bs (fun o m k' hk' => ?_) (by rw [hbl]; show _ ≤ 16777216; omega) ?_
  · cases o with
    | none => simpa [turn, gName, tCmp, eVar, eC, opCm, isNon, encO] using hk'
    | some a => simpa [turn, gName, tCmp, eVar, eC, opCm, isNon, encO] using hk'
  rw [fm_enc]
  simp only [VM.sNil, VM.sCons, VM.sSet, VM.sPar, VM.sSetIx, VM.setIx, VM.sExpr, VM.sRet, VM.sRetN, VM.sIf, VM.sBreak, VM.sCont, VM.sFor, VM.gName, VM.gTup, VM.gEach, VM.eVar, VM.eC, VM.eBin, VM.eNeg, VM.eCmp, VM.eChain, VM.tOf, VM.tCmp, VM.tChain, VM.tAnd, VM.tOr, VM.tNot, VM.tYes, VM.eTest, VM.eAnd, VM.eOr, VM.eNot, VM.eIf, VM.aNil, VM.aCons, VM.eLst, VM.eLstM, VM.eTup, VM.eCall, VM.eIx, VM.getIx, VM.eSl, VM.getSl, VM.iE, VM.iRange1, VM.iRange2, VM.iZip, VM.iRev, VM.eComp, VM.eCompM, VM.eAppend, VM.eInsert, VM.eB1, VM.fLen, VM.fAbs, VM.fInt, VM.fList, VM.fListM, VM.fTuple, VM.fSum, VM.fAll, VM.fAny, VM.fIsi, VM.bLen, VM.seqOf, VM.sq, VM.asL, VM.items, VM.isSeq, VM.truth, VM.opBin, VM.opAdd, VM.opSub, VM.opMul, VM.opFdiv, VM.opMod, VM.opPow, VM.opCm, VM.opEq, VM.frz, VM.isD, VM.eqv, VM.isNon, VM.kdOf, VM.D0, VM.turn, List.map_cons, List.map_nil, List.replicate_succ, List.replicate_zero, List.cons_append, List.nil_append, List.getElem?_cons_zero, List.getElem?_cons_succ, List.set_cons_zero, List.set_cons_succ, Nat.reduceSub, VM.wipe, List.length_cons, List.length_nil, Nat.reduceAdd]
  refine ⟨by decide, ?_⟩
  have hL := span_lat ok.len
  have h0 : Span w (rws bs) (zv w) := .zero
  have tri := bs_tri hbl ok
  obtain ⟨tri2, prop⟩ := sgn_tri hL h0 tri
  have hlen : (pairsOf 0 bs).length ≤ w := by
    have : ((pairsOf 0 bs).map (·.2)).length = (rws bs).length := by rw [pairs_snd]
    rw [List.length_map] at this
    rw [this, ← hbl]
    exact List.length_filterMap_le ..
  have hbits : ∀ p a, (p, a) ∈ pairsOf 0 bs → Bb X a := fun p a m => by
    obtain ⟨i, _, e⟩ := mem_pairs.mp m
    exact bB i a e
  have hsb : ∀ p a, (p, a) ∈ (pairsOf 0 bs).map sgn → Bb X a := fun p a m => by
    obtain ⟨⟨q, b⟩, hm, e⟩ := List.mem_map.mp m
    cases e
    exact sgn_bits (x := (q, b)) (hbits q b hm)
  rw [← pairs_snd bs 0]
  generalize hP : pairsOf 0 bs = P at *
  -- a part behind, lowered
  have part : ∀ A B : Ps, P = A ++ B → LowOk w Y (redB (B.map sgn)) ∧ Rd w (Span w (rws bs)) (B.map sgn) (redB (B.map sgn)) := by
    intro A B e
    have sB : (B.map sgn).Pairwise (fun x y => x.1 < y.1) := by
      have := tri2.sorted
      rw [e, List.map_append] at this
      exact (List.pairwise_append.mp this).2.1
    have mB : ∀ p a, (p, a) ∈ B.map sgn → (p, a) ∈ P.map sgn := fun p a m => by rw [e, List.map_append]; exact List.mem_append_right _ m
    have rd := redB_rd hL (B.map sgn) sB fun p a m => prop p a (mB p a m)
    have pos : ∀ p a, (p, a) ∈ redB (B.map sgn) → 0 < nth a p := fun p a m => by
      obtain ⟨_, _, c, g3, g4⟩ := rd.row p a m
      rw [g4]
      exact (prop p c (mB p c g3)).2.2
    refine ⟨⟨by rw [sorted_fst, rd.heads, ← sorted_fst]; exact sB, fun p a m => ?_⟩, rd⟩
    obtain ⟨g1, g2, c, g3, g4⟩ := rd.row p a m
    refine ⟨(tri2.row p c (mB p c g3)).1, hL.len a g1, g2, pos p a m, ?_⟩
    rcases hY with hY | hY
    · refine (redB_bits (B.map sgn) (fun p a m => hsb p a (mB p a m)) pos p a m).mono (Nat.le_trans (hb_mono X ?_) hY)
      rw [List.length_map]
      have := congrArg List.length e
      rw [List.length_append] at this
      omega
    · have rdP := redB_rd hL (P.map sgn) tri2.sorted fun p a m => prop p a m
      exact hY _ ((rdP.form tri2 fun p a m => (prop p a m).2.2).congr fun v => (se.iff hl ok.len v).symm) p a (by rw [e, List.map_append]; exact redB_suf _ _ _ m)
  refine for_inv (fun rem ρ st' => st' = st ++ [.lst (bs.map encO)] ∧ ∃ (a5 a6 a7 a8 a3 : Option PV) (A B : Ps), ρ = [some vv, some (.int (w : Nat)), some (.lst ((P.map (·.2)).map ilst)), a3, some (formV (redB (B.map sgn))), a5, a6, a7, a8] ∧ P = A ++ B ∧ rem = (A.map fun x => ilst x.2).reverse) ?_ ?_ _ _ _ ⟨rfl, _, _, _, _, _, P, [], rfl, by simp, by rw [List.map_map]; rfl⟩
  · rintro v rem ρ st' ⟨rfl, a5, a6, a7, a8, a3, A, B, rfl, e, hr⟩
    refine ⟨trivial, fun D' d1 d2 d3 d4 d5 => ?_⟩
    obtain ⟨A', y, rfl⟩ : ∃ A' y, A = A' ++ [y] := by
      rcases List.eq_nil_or_concat A with h | ⟨A', y, h⟩
      · subst h; simp at hr
      · exact ⟨A', y, by simpa using h⟩
    rw [List.map_append, List.reverse_append] at hr
    obtain ⟨rfl, rfl⟩ := List.cons.inj hr
    obtain ⟨p, a⟩ := y
    have mP : (p, a) ∈ P := by rw [e]; simp
    obtain ⟨r1, r2, r3, r4⟩ := tri.row p a mP
    have la := hL.len a r2
    have ba := hbits p a mP
    simp only [VM.sNil, VM.sCons, VM.sSet, VM.sPar, VM.sSetIx, VM.setIx, VM.sExpr, VM.sRet, VM.sRetN, VM.sIf, VM.sBreak, VM.sCont, VM.sFor, VM.gName, VM.gTup, VM.gEach, VM.eVar, VM.eC, VM.eBin, VM.eNeg, VM.eCmp, VM.eChain, VM.tOf, VM.tCmp, VM.tChain, VM.tAnd, VM.tOr, VM.tNot, VM.tYes, VM.eTest, VM.eAnd, VM.eOr, VM.eNot, VM.eIf, VM.aNil, VM.aCons, VM.eLst, VM.eLstM, VM.eTup, VM.eCall, VM.eIx, VM.eSl, VM.iE, VM.iRange1, VM.iRange2, VM.iZip, VM.iRev, VM.eComp, VM.eCompM, VM.eAppend, VM.eInsert, VM.eB1, VM.fLen, VM.fAbs, VM.fInt, VM.fList, VM.fListM, VM.fTuple, VM.fSum, VM.fAll, VM.fAny, VM.fIsi, VM.opBin, VM.opAdd, VM.opSub, VM.opMul, VM.opFdiv, VM.opMod, VM.opPow, VM.opCm, VM.frz, VM.isD, VM.eqv, VM.isNon, VM.D0, VM.turn, List.map_cons, List.map_nil, List.replicate_succ, List.replicate_zero, List.cons_append, List.nil_append, List.getElem?_cons_zero, List.getElem?_cons_succ, List.set_cons_zero, List.set_cons_succ, Nat.reduceSub, VM.wipe, List.length_cons, List.length_nil, Nat.reduceAdd, Int.toNat_natCast]
    refine ⟨by unfold i62; omega, ?_⟩
    refine comp_nz (a := a) (u := ilst a) (w := w) trivial (by decide) (by simp) rfl rfl la hw ?_
    have hf := first_nz r1 r3 r4
    have hfl : 0 < (((List.range w).filter fun i => !decide (nth a i = 0))).length := by
      cases hh : (List.range w).filter fun i => !decide (nth a i = 0) with
      | nil => rw [hh] at hf; simp at hf
      | cons => simp
    have x0 : ix (((List.range w).filter fun i => !decide (nth a i = 0)).map fun (i : Nat) => PV.int (i : Int)).length 0 = some 0 := by rw [ixN (by omega) (by rw [List.length_map]; omega)]; rfl
    have g0 : (((List.range w).filter fun i => !decide (nth a i = 0)).map fun (i : Nat) => PV.int (i : Int))[0]? = some (.int (p : Nat)) := by rw [List.getElem?_map, hf]; rfl
    obtain ⟨x3, x4⟩ := ixv (v := a) (at_ := p) (by omega)
    simp only [VM.sNil, VM.sCons, VM.sSet, VM.sPar, VM.sSetIx, VM.setIx, VM.sExpr, VM.sRet, VM.sRetN, VM.sIf, VM.sBreak, VM.sCont, VM.sFor, VM.gName, VM.gTup, VM.gEach, VM.eVar, VM.eC, VM.eBin, VM.eNeg, VM.eCmp, VM.eChain, VM.tOf, VM.tCmp, VM.tChain, VM.tAnd, VM.tOr, VM.tNot, VM.tYes, VM.eTest, VM.eAnd, VM.eOr, VM.eNot, VM.eIf, VM.aNil, VM.aCons, VM.eLst, VM.eLstM, VM.eTup, VM.eCall, VM.eIx, VM.getIx, VM.eSl, VM.getSl, VM.iE, VM.iRange1, VM.iRange2, VM.iZip, VM.iRev, VM.eComp, VM.eCompM, VM.eAppend, VM.eInsert, VM.eB1, VM.fLen, VM.fAbs, VM.fInt, VM.fList, VM.fListM, VM.fTuple, VM.fSum, VM.fAll, VM.fAny, VM.fIsi, VM.bLen, VM.seqOf, VM.sq, VM.asL, VM.items, VM.isSeq, VM.truth, VM.opBin, VM.opAdd, VM.opSub, VM.opMul, VM.opFdiv, VM.opMod, VM.opPow, VM.opCm, VM.opEq, VM.frz, VM.isD, VM.eqv, VM.isNon, VM.kdOf, VM.D0, VM.turn, List.map_cons, List.map_nil, List.replicate_succ, List.replicate_zero, List.cons_append, List.nil_append, List.getElem?_cons_zero, List.getElem?_cons_succ, List.set_cons_zero, List.set_cons_succ, Nat.reduceSub, VM.wipe, List.length_cons, List.length_nil, Nat.reduceAdd, ilst, x0, g0, x3, x4]
    -- the sign
    have tail : ∀ σ : Int, σ = (if 0 < nth a p then 1 else -1) → compGo (gName 8) tYes (eBin .mul (eVar 7) (eVar 8)) [8] (stays (st ++ [.lst (bs.map encO)]) (.lst (List.map PV.int a))) (pvis a) [] [some vv, some (.int (w : Nat)), some (.lst ((P.map (·.2)).map ilst)), some (.lst (List.map PV.int a)), some (formV (redB (B.map sgn))), some (.int (p : Nat)), a6, some (.int σ), none] (st ++ [.lst (bs.map encO)])
        (fun ys st => cs 14 [.lst ys, formV (redB (B.map sgn))] st (fun v st => 1 ≤ SZ ∧ 1 + (redB (B.map sgn)).length ≤ SZ ∧ D'.nx [some vv, some (.int (w : Nat)), some (.lst ((P.map (·.2)).map ilst)), some (.lst (List.map PV.int a)), some (.lst (v :: (redB (B.map sgn)).map fun x => itup x.2)), some (.int (p : Nat)), a6, some (.int σ), a8] st) D'.xk) := by
      intro σ hσ
      obtain ⟨lk, rd⟩ := part (A' ++ [(p, a)]) B e
      have hB : B.length ≤ w := by
        have := congrArg List.length e
        simp only [List.length_append] at this
        omega
      refine comp_of PV.int (fun z => some (.int (σ * z))) (stays_self _ _) a (fun z hz k' hk' => ?_) (by rw [la]; show _ ≤ 16777216; omega) ?_
      · simp only [VM.sNil, VM.sCons, VM.sSet, VM.sPar, VM.sSetIx, VM.setIx, VM.sExpr, VM.sRet, VM.sRetN, VM.sIf, VM.sBreak, VM.sCont, VM.sFor, VM.gName, VM.gTup, VM.gEach, VM.eVar, VM.eC, VM.eBin, VM.eNeg, VM.eCmp, VM.eChain, VM.tOf, VM.tCmp, VM.tChain, VM.tAnd, VM.tOr, VM.tNot, VM.tYes, VM.eTest, VM.eAnd, VM.eOr, VM.eNot, VM.eIf, VM.aNil, VM.aCons, VM.eLst, VM.eLstM, VM.eTup, VM.eCall, VM.eIx, VM.getIx, VM.eSl, VM.getSl, VM.iE, VM.iRange1, VM.iRange2, VM.iZip, VM.iRev, VM.eComp, VM.eCompM, VM.eAppend, VM.eInsert, VM.eB1, VM.fLen, VM.fAbs, VM.fInt, VM.fList, VM.fListM, VM.fTuple, VM.fSum, VM.fAll, VM.fAny, VM.fIsi, VM.bLen, VM.seqOf, VM.sq, VM.asL, VM.items, VM.isSeq, VM.truth, VM.opBin, VM.opAdd, VM.opSub, VM.opMul, VM.opFdiv, VM.opMod, VM.opPow, VM.opCm, VM.opEq, VM.frz, VM.isD, VM.eqv, VM.isNon, VM.kdOf, VM.D0, VM.turn, List.map_cons, List.map_nil, List.replicate_succ, List.replicate_zero, List.cons_append, List.nil_append, List.getElem?_cons_zero, List.getElem?_cons_succ, List.set_cons_zero, List.set_cons_succ, Nat.reduceSub, VM.wipe, List.length_cons, List.length_nil, Nat.reduceAdd, if_true]
        exact ⟨mulOk_of (a := 1) (b := X + 1) (by rw [hσ]; split <;> decide) (Nat.lt_of_lt_of_le (ba z hz) (Nat.pow_le_pow_right (by decide) (Nat.le_succ _))) (by decide) (by omega) (by have := Sx1; omega), hk'⟩
      · have e1 : a.filterMap (fun z => some (PV.int (σ * z))) = pvis (sgn (p, a)).2 := by
          rw [show (fun z : Int => some (PV.int (σ * z))) = some ∘ (fun z => PV.int (σ * z)) from rfl, List.filterMap_eq_map, hσ]
          simp [pvis, sgn]
        rw [e1]
        have sb := sgn_bits (x := (p, a)) ba
        have sl : (sgn (p, a)).2.length = w := by simp [sgn, la]
        refine low (ilst (sgn (p, a)).2) (sgn (p, a)).2 (redB (B.map sgn)) w (X + 1) Y _ _ _ rfl sl hw (sb.mono (Nat.le_succ _)) (by omega) lk ?_ ?_
        · rw [redB_len, List.length_map]
          have hB1 : B.length + 1 ≤ w := by
            have := congrArg List.length e
            simp only [List.length_append, List.length_singleton] at this
            omega
          have : (B.length + 1) * (Y + 1) ≤ w * (Y + 1) := Nat.mul_le_mul_right _ hB1
          rw [Nat.add_mul, Nat.one_mul] at hxs
          omega
        · rw [redB_len, List.length_map]
          refine ⟨by decide, by show _ ≤ 16777216; omega, ?_⟩
          refine d4 _ _ ⟨rfl, _, _, _, _, _, A', (p, a) :: B, rfl, by rw [e]; simp, by simp⟩
    by_cases hs : 0 < nth a p
    · simp only [hs, decide_true, if_true]
      refine ⟨trivial, ?_⟩
      have := tail 1 (by rw [if_pos hs])
      simpa using this
    · simp only [hs, decide_false, Bool.false_eq_true, if_false]
      refine ⟨trivial, ?_⟩
      have := tail (-1) (by rw [if_neg hs])
      simpa using this
  · rintro ρ st' ⟨rfl, a5, a6, a7, a8, a3, A, B, rfl, e, hr⟩
    refine ⟨trivial, ?_⟩
    have hA : A = [] := by
      have := congrArg List.length hr
      simp at this
      exact List.length_eq_zero_iff.mp this.symm
    subst hA
    rw [List.nil_append] at e
    subst e
    simp only [VM.sNil, VM.sCons, VM.sSet, VM.sPar, VM.sSetIx, VM.setIx, VM.sExpr, VM.sRet, VM.sRetN, VM.sIf, VM.sBreak, VM.sCont, VM.sFor, VM.gName, VM.gTup, VM.gEach, VM.eVar, VM.eC, VM.eBin, VM.eNeg, VM.eCmp, VM.eChain, VM.tOf, VM.tCmp, VM.tChain, VM.tAnd, VM.tOr, VM.tNot, VM.tYes, VM.eTest, VM.eAnd, VM.eOr, VM.eNot, VM.eIf, VM.aNil, VM.aCons, VM.eLst, VM.eLstM, VM.eTup, VM.eCall, VM.eIx, VM.getIx, VM.eSl, VM.getSl, VM.iE, VM.iRange1, VM.iRange2, VM.iZip, VM.iRev, VM.eComp, VM.eCompM, VM.eAppend, VM.eInsert, VM.eB1, VM.fLen, VM.fAbs, VM.fInt, VM.fList, VM.fListM, VM.fTuple, VM.fSum, VM.fAll, VM.fAny, VM.fIsi, VM.bLen, VM.seqOf, VM.sq, VM.asL, VM.items, VM.isSeq, VM.truth, VM.opBin, VM.opAdd, VM.opSub, VM.opMul, VM.opFdiv, VM.opMod, VM.opPow, VM.opCm, VM.opEq, VM.frz, VM.isD, VM.eqv, VM.isNon, VM.kdOf, VM.D0, VM.turn, List.map_cons, List.map_nil, List.replicate_succ, List.replicate_zero, List.cons_append, List.nil_append, List.getElem?_cons_zero, List.getElem?_cons_succ, List.set_cons_zero, List.set_cons_succ, Nat.reduceSub, VM.wipe, List.length_cons, List.length_nil, Nat.reduceAdd]
    obtain ⟨lk, rd⟩ := part [] P rfl
    refine hk (redB (P.map sgn)) _ ((rd.form tri2 fun p a m => (prop p a m).2.2).congr fun v => (se.iff hl ok.len v).symm) fun p a m => (lk.2 p a m).2.2.2.2
theorem form_at {FT : Nat → Option FD} {d : Nat} (hF : FT 15 = some ⟨2, 9, T__law_form⟩) (h1 : At FT d SpBasis) (h2 : At FT d SpLow) : At FT (d + 1) SpForm := (formY_at hF h1 h2).imp fun _ h => h.form
end VP
end
section
namespace VP
open VM ML
def Sm : Nat → PV → Prop
  | _, .non => True
  | _, .bl _ => True
  | _, .int _ => True
  | _, .str _ => True
  | n + 1, .lst xs => xs.length ≤ SZ ∧ ∀ x ∈ xs, Sm n x
  | n + 1, .tup xs => xs.length ≤ SZ ∧ ∀ x ∈ xs, Sm n x
  | _, _ => False
def SpSame (n : Nat) (cs : CS) : Prop := ∀ (y : PV) (st : Store) (k x : KV), Sm n y → k (.bl true) st → cs 16 [y, y] st k x
theorem all_true (n : Nat) : allBl (List.replicate n (PV.bl true)) = some (List.replicate n true) := by
  induction n with
  | zero => rfl
  | succ n ih => rw [List.replicate_succ, allBl, ih]; rfl
theorem all_true2 (n : Nat) : (List.replicate n true).all id = true := by
  induction n with
  | zero => rfl
  | succ n ih => rw [List.replicate_succ, List.all_cons, ih]; rfl
theorem zip_self (xs : List PV) : List.zipWith (fun x y => PV.tup [x, y]) xs xs = xs.map fun x => PV.tup [x, x] := by
  induction xs with
  | nil => rfl
  | cons x xs ih => simp [ih]
theorem same_at {FT : Nat → Option FD} (hF : FT 16 = some ⟨2, 4, T__law_same⟩) : ∀ n, At FT (n + 1) (SpSame n) := by
  intro n
  induction n with
  | zero =>
    refine at_of (C := fun _ => True) hF (fun _ _ => trivial) fun cs cs' _ go => ?_
    intro y st k x hy hk
    refine go _ _ _ _ rfl ?_
    cases y <;> first | (exact hy.elim) | (simp [T__law_same, VM.sNil, VM.sCons, VM.sSet, VM.sPar, VM.sSetIx, VM.setIx, VM.sExpr, VM.sRet, VM.sRetN, VM.sIf, VM.sBreak, VM.sCont, VM.sFor, VM.gName, VM.gTup, VM.gEach, VM.eVar, VM.eC, VM.eBin, VM.eNeg, VM.eCmp, VM.eChain, VM.tOf, VM.tCmp, VM.tChain, VM.tAnd, VM.tOr, VM.tNot, VM.tYes, VM.eTest, VM.eAnd, VM.eOr, VM.eNot, VM.eIf, VM.aNil, VM.aCons, VM.eLst, VM.eLstM, VM.eTup, VM.eCall, VM.eIx, VM.getIx, VM.eSl, VM.getSl, VM.iE, VM.iRange1, VM.iRange2, VM.iZip, VM.iRev, VM.eComp, VM.eCompM, VM.eAppend, VM.eInsert, VM.eB1, VM.fLen, VM.fAbs, VM.fInt, VM.fList, VM.fListM, VM.fTuple, VM.fSum, VM.fAll, VM.fAny, VM.fIsi, VM.bLen, VM.seqOf, VM.sq, VM.asL, VM.items, VM.isSeq, VM.truth, VM.opBin, VM.opAdd, VM.opSub, VM.opMul, VM.opFdiv, VM.opMod, VM.opPow, VM.opCm, VM.opEq, VM.frz, VM.isD, VM.eqv, VM.isNon, VM.kdOf, VM.D0, VM.turn, List.map_cons, List.map_nil, List.replicate_succ, List.replicate_zero, List.cons_append, List.nil_append, List.getElem?_cons_zero, List.getElem?_cons_succ, List.set_cons_zero, List.set_cons_succ, Nat.reduceSub, VM.wipe, List.length_cons, List.length_nil, Nat.reduceAdd, kdIs]; exact hk)
  | succ n ih =>
    refine at_of hF ih fun cs cs' ih go => ?_
    intro y st k x hy hk
    refine go _ _ _ _ rfl ?_
    cases y <;> first | (exact hy.elim) | (simp [T__law_same, VM.sNil, VM.sCons, VM.sSet, VM.sPar, VM.sSetIx, VM.setIx, VM.sExpr, VM.sRet, VM.sRetN, VM.sIf, VM.sBreak, VM.sCont, VM.sFor, VM.gName, VM.gTup, VM.gEach, VM.eVar, VM.eC, VM.eBin, VM.eNeg, VM.eCmp, VM.eChain, VM.tOf, VM.tCmp, VM.tChain, VM.tAnd, VM.tOr, VM.tNot, VM.tYes, VM.eTest, VM.eAnd, VM.eOr, VM.eNot, VM.eIf, VM.aNil, VM.aCons, VM.eLst, VM.eLstM, VM.eTup, VM.eCall, VM.eIx, VM.getIx, VM.eSl, VM.getSl, VM.iE, VM.iRange1, VM.iRange2, VM.iZip, VM.iRev, VM.eComp, VM.eCompM, VM.eAppend, VM.eInsert, VM.eB1, VM.fLen, VM.fAbs, VM.fInt, VM.fList, VM.fListM, VM.fTuple, VM.fSum, VM.fAll, VM.fAny, VM.fIsi, VM.bLen, VM.seqOf, VM.sq, VM.asL, VM.items, VM.isSeq, VM.truth, VM.opBin, VM.opAdd, VM.opSub, VM.opMul, VM.opFdiv, VM.opMod, VM.opPow, VM.opCm, VM.opEq, VM.frz, VM.isD, VM.eqv, VM.isNon, VM.kdOf, VM.D0, VM.turn, List.map_cons, List.map_nil, List.replicate_succ, List.replicate_zero, List.cons_append, List.nil_append, List.getElem?_cons_zero, List.getElem?_cons_succ, List.set_cons_zero, List.set_cons_succ, Nat.reduceSub, VM.wipe, List.length_cons, List.length_nil, Nat.reduceAdd, kdIs]; exact hk) | skip
    · rename_i xs
      obtain ⟨h1, h2⟩ := hy
      have fin : compGo (gTup [gName 2, gName 3]) tYes (eCall cs 16 (aCons (eVar 2) (aCons (eVar 3) aNil))) [2, 3] (fun st' => stays st (.tup xs) st' ∧ stays st (.tup xs) st') (List.zipWith (fun x y => PV.tup [x, y]) xs xs) [] [some (.tup xs), some (.tup xs), none, none] st
          (fun ys st => match allBl ys with | some bs => k (.bl (bs.all id)) st | none => False) := by
        rw [zip_self]
        refine comp_of (fun z => PV.tup [z, z]) (fun _ => some (.bl true)) ⟨trivial, trivial⟩ xs (fun z hz k' hk' => ?_) h1 ?_
        · simp only [VM.sNil, VM.sCons, VM.sSet, VM.sPar, VM.sSetIx, VM.setIx, VM.sExpr, VM.sRet, VM.sRetN, VM.sIf, VM.sBreak, VM.sCont, VM.sFor, VM.gName, VM.gTup, VM.gEach, VM.eVar, VM.eC, VM.eBin, VM.eNeg, VM.eCmp, VM.eChain, VM.tOf, VM.tCmp, VM.tChain, VM.tAnd, VM.tOr, VM.tNot, VM.tYes, VM.eTest, VM.eAnd, VM.eOr, VM.eNot, VM.eIf, VM.aNil, VM.aCons, VM.eLst, VM.eLstM, VM.eTup, VM.eCall, VM.eIx, VM.getIx, VM.eSl, VM.getSl, VM.iE, VM.iRange1, VM.iRange2, VM.iZip, VM.iRev, VM.eComp, VM.eCompM, VM.eAppend, VM.eInsert, VM.eB1, VM.fLen, VM.fAbs, VM.fInt, VM.fList, VM.fListM, VM.fTuple, VM.fSum, VM.fAll, VM.fAny, VM.fIsi, VM.bLen, VM.seqOf, VM.sq, VM.asL, VM.items, VM.isSeq, VM.truth, VM.opBin, VM.opAdd, VM.opSub, VM.opMul, VM.opFdiv, VM.opMod, VM.opPow, VM.opCm, VM.opEq, VM.frz, VM.isD, VM.eqv, VM.isNon, VM.kdOf, VM.D0, VM.turn, List.map_cons, List.map_nil, List.replicate_succ, List.replicate_zero, List.cons_append, List.nil_append, List.getElem?_cons_zero, List.getElem?_cons_succ, List.set_cons_zero, List.set_cons_succ, Nat.reduceSub, VM.wipe, List.length_cons, List.length_nil, Nat.reduceAdd, if_true]
          exact ⟨trivial, ih z st _ _ (h2 z hz) hk'⟩
        · have e : xs.filterMap (fun _ => some (PV.bl true)) = List.replicate xs.length (.bl true) := by
            rw [show (fun _ : PV => some (PV.bl true)) = some ∘ (fun _ => PV.bl true) from rfl, List.filterMap_eq_map, List.map_const']
          rw [e, all_true]
          show k _ _
          rw [all_true2]
          exact hk
      simp only [and_self, zip_self] at fin
      simp [T__law_same, VM.sNil, VM.sCons, VM.sSet, VM.sPar, VM.sSetIx, VM.setIx, VM.sExpr, VM.sRet, VM.sRetN, VM.sIf, VM.sBreak, VM.sCont, VM.sFor, VM.gName, VM.gTup, VM.gEach, VM.eVar, VM.eC, VM.eBin, VM.eNeg, VM.eCmp, VM.eChain, VM.tOf, VM.tCmp, VM.tChain, VM.tAnd, VM.tOr, VM.tNot, VM.tYes, VM.eTest, VM.eAnd, VM.eOr, VM.eNot, VM.eIf, VM.aNil, VM.aCons, VM.eLst, VM.eLstM, VM.eTup, VM.eCall, VM.eIx, VM.getIx, VM.eSl, VM.getSl, VM.iE, VM.iRange1, VM.iRange2, VM.iZip, VM.iRev, VM.eComp, VM.eCompM, VM.eAppend, VM.eInsert, VM.eB1, VM.fLen, VM.fAbs, VM.fInt, VM.fList, VM.fListM, VM.fTuple, VM.fSum, VM.fAll, VM.fAny, VM.fIsi, VM.bLen, VM.seqOf, VM.sq, VM.asL, VM.items, VM.isSeq, VM.truth, VM.opBin, VM.opAdd, VM.opSub, VM.opMul, VM.opFdiv, VM.opMod, VM.opPow, VM.opCm, VM.opEq, VM.frz, VM.isD, VM.eqv, VM.isNon, VM.kdOf, VM.D0, VM.turn, List.map_cons, List.map_nil, List.replicate_succ, List.replicate_zero, List.cons_append, List.nil_append, List.getElem?_cons_zero, List.getElem?_cons_succ, List.set_cons_zero, List.set_cons_succ, Nat.reduceSub, VM.wipe, List.length_cons, List.length_nil, Nat.reduceAdd, kdIs, zip_self]
      exact fin
    · rename_i xs
      obtain ⟨h1, h2⟩ := hy
      have fin : compGo (gTup [gName 2, gName 3]) tYes (eCall cs 16 (aCons (eVar 2) (aCons (eVar 3) aNil))) [2, 3] (fun st' => stays st (.lst xs) st' ∧ stays st (.lst xs) st') (List.zipWith (fun x y => PV.tup [x, y]) xs xs) [] [some (.lst xs), some (.lst xs), none, none] st
          (fun ys st => match allBl ys with | some bs => k (.bl (bs.all id)) st | none => False) := by
        rw [zip_self]
        refine comp_of (fun z => PV.tup [z, z]) (fun _ => some (.bl true)) ⟨trivial, trivial⟩ xs (fun z hz k' hk' => ?_) h1 ?_
        · simp only [VM.sNil, VM.sCons, VM.sSet, VM.sPar, VM.sSetIx, VM.setIx, VM.sExpr, VM.sRet, VM.sRetN, VM.sIf, VM.sBreak, VM.sCont, VM.sFor, VM.gName, VM.gTup, VM.gEach, VM.eVar, VM.eC, VM.eBin, VM.eNeg, VM.eCmp, VM.eChain, VM.tOf, VM.tCmp, VM.tChain, VM.tAnd, VM.tOr, VM.tNot, VM.tYes, VM.eTest, VM.eAnd, VM.eOr, VM.eNot, VM.eIf, VM.aNil, VM.aCons, VM.eLst, VM.eLstM, VM.eTup, VM.eCall, VM.eIx, VM.getIx, VM.eSl, VM.getSl, VM.iE, VM.iRange1, VM.iRange2, VM.iZip, VM.iRev, VM.eComp, VM.eCompM, VM.eAppend, VM.eInsert, VM.eB1, VM.fLen, VM.fAbs, VM.fInt, VM.fList, VM.fListM, VM.fTuple, VM.fSum, VM.fAll, VM.fAny, VM.fIsi, VM.bLen, VM.seqOf, VM.sq, VM.asL, VM.items, VM.isSeq, VM.truth, VM.opBin, VM.opAdd, VM.opSub, VM.opMul, VM.opFdiv, VM.opMod, VM.opPow, VM.opCm, VM.opEq, VM.frz, VM.isD, VM.eqv, VM.isNon, VM.kdOf, VM.D0, VM.turn, List.map_cons, List.map_nil, List.replicate_succ, List.replicate_zero, List.cons_append, List.nil_append, List.getElem?_cons_zero, List.getElem?_cons_succ, List.set_cons_zero, List.set_cons_succ, Nat.reduceSub, VM.wipe, List.length_cons, List.length_nil, Nat.reduceAdd, if_true]
          exact ⟨trivial, ih z st _ _ (h2 z hz) hk'⟩
        · have e : xs.filterMap (fun _ => some (PV.bl true)) = List.replicate xs.length (.bl true) := by
            rw [show (fun _ : PV => some (PV.bl true)) = some ∘ (fun _ => PV.bl true) from rfl, List.filterMap_eq_map, List.map_const']
          rw [e, all_true]
          show k _ _
          rw [all_true2]
          exact hk
      simp only [and_self, zip_self] at fin
      simp [T__law_same, VM.sNil, VM.sCons, VM.sSet, VM.sPar, VM.sSetIx, VM.setIx, VM.sExpr, VM.sRet, VM.sRetN, VM.sIf, VM.sBreak, VM.sCont, VM.sFor, VM.gName, VM.gTup, VM.gEach, VM.eVar, VM.eC, VM.eBin, VM.eNeg, VM.eCmp, VM.eChain, VM.tOf, VM.tCmp, VM.tChain, VM.tAnd, VM.tOr, VM.tNot, VM.tYes, VM.eTest, VM.eAnd, VM.eOr, VM.eNot, VM.eIf, VM.aNil, VM.aCons, VM.eLst, VM.eLstM, VM.eTup, VM.eCall, VM.eIx, VM.getIx, VM.eSl, VM.getSl, VM.iE, VM.iRange1, VM.iRange2, VM.iZip, VM.iRev, VM.eComp, VM.eCompM, VM.eAppend, VM.eInsert, VM.eB1, VM.fLen, VM.fAbs, VM.fInt, VM.fList, VM.fListM, VM.fTuple, VM.fSum, VM.fAll, VM.fAny, VM.fIsi, VM.bLen, VM.seqOf, VM.sq, VM.asL, VM.items, VM.isSeq, VM.truth, VM.opBin, VM.opAdd, VM.opSub, VM.opMul, VM.opFdiv, VM.opMod, VM.opPow, VM.opCm, VM.opEq, VM.frz, VM.isD, VM.eqv, VM.isNon, VM.kdOf, VM.D0, VM.turn, List.map_cons, List.map_nil, List.replicate_succ, List.replicate_zero, List.cons_append, List.nil_append, List.getElem?_cons_zero, List.getElem?_cons_succ, List.set_cons_zero, List.set_cons_succ, Nat.reduceSub, VM.wipe, List.length_cons, List.length_nil, Nat.reduceAdd, kdIs, zip_self]
      exact fin
end VP
end
section
namespace VP
open VM ML
def SpIsForm (cs : CS) : Prop := ∀ (ps : Ps) (w : Nat) (L : Vec → Prop) (st : Store) (k x : KV), Form w L ps → (∀ p a, (p, a) ∈ ps → a.length = w) → ps.length ≤ w → w ≤ 1000 → (∀ o, k (.bl true) (st ++ [.lst o])) → cs 11 [formV ps, .int w] st k x
theorem formV_get {ps : Ps} {i : Nat} (h : i < ps.length) : ix (ps.map fun x => itup x.2).length (i : Int) = some i ∧ (ps.map fun x => itup x.2)[i]? = some (itup ps[i].2) := by
  rw [List.length_map, ixN (by omega) (by omega), List.getElem?_map, List.getElem?_eq_getElem h]
  simp
theorem heads_get {ps : Ps} {i : Nat} (h : i < ps.length) : ix (ps.map fun x => PV.int (x.1 : Nat)).length (i : Int) = some i ∧ (ps.map fun x => PV.int (x.1 : Nat))[i]? = some (.int (ps[i].1 : Nat)) := by
  rw [List.length_map, ixN (by omega) (by omega), List.getElem?_map, List.getElem?_eq_getElem h]
  simp
def isfRow (cs : CS) : TS := (sCons (sIf (tOr (tNot (tOf (eB1 (fIsi [.tuple]) (eVar 3)))) (tCmp .ne (eB1 fLen (eVar 3)) (eVar 1)))
    (sRet (eC (.bl false)))
    sNil)
    (sCons (sIf (tNot (tOf (eB1 fAll (eComp (iE (eVar 3)) (gName 4) tYes (eAnd (eB1 (fIsi [.int]) (eVar 4)) (eNot (eB1 (fIsi [.bool]) (eVar 4)))) [4]))))
    (sRet (eC (.bl false)))
    sNil)
    (sCons (sSet (gName 5) (eComp (iRange1 (eVar 1)) (gName 6) (tCmp .ne (eIx (eVar 3) (eVar 6)) (eC (.int 0))) (eVar 6) [6]))
    (sCons (sIf (tOr (tCmp .eq (eVar 5) (eLst aNil)) (tCmp .lt (eIx (eVar 3) (eIx (eVar 5) (eC (.int 0)))) (eC (.int 0))))
    (sRet (eC (.bl false)))
    sNil)
    (sExpr (eAppend (eVar 2) (eIx (eVar 5) (eC (.int 0)))))))))
theorem isf_row {cs : CS} {p w j : Nat} {a : Vec} {hs : List PV} {st : Store} {D : Ends} {b0 a4 a5 a6 a7 a8 : Option PV} (hw : w ≤ 1000) (la : a.length = w) (hp : p < w) (hz : Z p a) (h0 : 0 < nth a p) (hj : st[j]? = some (.lst hs)) (hl : hs.length < 1000)
    (hk : ∀ b4 b5 b6, D.nx [b0, some (.int (w : Nat)), some (.ref j), some (itup a), b4, b5, b6, a7, a8] (st.set j (.lst (hs ++ [.int (p : Nat)])))) : isfRow cs D [b0, some (.int (w : Nat)), some (.ref j), some (itup a), a4, a5, a6, a7, a8] st := by
  have hf := first_nz hp hz (by omega : nth a p ≠ 0)
  have hne : ((List.range w).filter fun i => !decide (nth a i = 0)) ≠ [] := fun e => by rw [e] at hf; simp at hf
  have hfl : 0 < (((List.range w).filter fun i => !decide (nth a i = 0))).length := List.length_pos_iff.mpr hne
  have x0 : ix (((List.range w).filter fun i => !decide (nth a i = 0)).map fun (i : Nat) => PV.int (i : Int)).length 0 = some 0 := by rw [ixN (by omega) (by rw [List.length_map]; omega)]; rfl
  have g0 : (((List.range w).filter fun i => !decide (nth a i = 0)).map fun (i : Nat) => PV.int (i : Int))[0]? = some (.int (p : Nat)) := by rw [List.getElem?_map, hf]; rfl
  obtain ⟨x3, x4⟩ := ixv (v := a) (at_ := p) (by omega)
  rw [List.length_map, la] at x3
  have eln : ((w : Int) == (w : Int)) = true := by simp
  simp only [isfRow, VM.sNil, VM.sCons, VM.sSet, VM.sPar, VM.sSetIx, VM.setIx, VM.sExpr, VM.sRet, VM.sRetN, VM.sIf, VM.sBreak, VM.sCont, VM.sFor, VM.gName, VM.gTup, VM.gEach, VM.eVar, VM.eC, VM.eBin, VM.eNeg, VM.eCmp, VM.eChain, VM.tOf, VM.tCmp, VM.tChain, VM.tAnd, VM.tOr, VM.tNot, VM.tYes, VM.eTest, VM.eAnd, VM.eOr, VM.eNot, VM.eIf, VM.aNil, VM.aCons, VM.eLst, VM.eLstM, VM.eTup, VM.eCall, VM.eIx, VM.getIx, VM.eSl, VM.getSl, VM.iE, VM.iRange1, VM.iRange2, VM.iZip, VM.iRev, VM.eComp, VM.eCompM, VM.eAppend, VM.eInsert, VM.eB1, VM.fLen, VM.fAbs, VM.fInt, VM.fList, VM.fListM, VM.fTuple, VM.fSum, VM.fAll, VM.fAny, VM.fIsi, VM.bLen, VM.seqOf, VM.sq, VM.asL, VM.items, VM.isSeq, VM.truth, VM.opBin, VM.opAdd, VM.opSub, VM.opMul, VM.opFdiv, VM.opMod, VM.opPow, VM.opCm, VM.opEq, VM.frz, VM.isD, VM.eqv, VM.isNon, VM.kdOf, VM.D0, VM.turn, List.map_cons, List.map_nil, List.replicate_succ, List.replicate_zero, List.cons_append, List.nil_append, List.getElem?_cons_zero, List.getElem?_cons_succ, List.set_cons_zero, List.set_cons_succ, Nat.reduceSub, VM.wipe, List.length_cons, List.length_nil, Nat.reduceAdd, itup, kdIs, List.any_cons, List.any_nil, Bool.or_false, List.length_map, la, eln, Bool.not_true, Bool.false_eq_true, if_false]
  refine ⟨by decide, (by first | trivial | decide | simp [VM.isDL, VM.isD]), (by first | trivial | decide | simp [VM.isDL, VM.isD]), ?_⟩
  refine ⟨trivial, comp_of PV.int (fun _ => some (.bl true)) trivial a (fun z hz k' hk' => ?_) (by rw [la]; show _ ≤ 16777216; omega) ?_⟩
  · simp only [VM.sNil, VM.sCons, VM.sSet, VM.sPar, VM.sSetIx, VM.setIx, VM.sExpr, VM.sRet, VM.sRetN, VM.sIf, VM.sBreak, VM.sCont, VM.sFor, VM.gName, VM.gTup, VM.gEach, VM.eVar, VM.eC, VM.eBin, VM.eNeg, VM.eCmp, VM.eChain, VM.tOf, VM.tCmp, VM.tChain, VM.tAnd, VM.tOr, VM.tNot, VM.tYes, VM.eTest, VM.eAnd, VM.eOr, VM.eNot, VM.eIf, VM.aNil, VM.aCons, VM.eLst, VM.eLstM, VM.eTup, VM.eCall, VM.eIx, VM.getIx, VM.eSl, VM.getSl, VM.iE, VM.iRange1, VM.iRange2, VM.iZip, VM.iRev, VM.eComp, VM.eCompM, VM.eAppend, VM.eInsert, VM.eB1, VM.fLen, VM.fAbs, VM.fInt, VM.fList, VM.fListM, VM.fTuple, VM.fSum, VM.fAll, VM.fAny, VM.fIsi, VM.bLen, VM.seqOf, VM.sq, VM.asL, VM.items, VM.isSeq, VM.truth, VM.opBin, VM.opAdd, VM.opSub, VM.opMul, VM.opFdiv, VM.opMod, VM.opPow, VM.opCm, VM.opEq, VM.frz, VM.isD, VM.eqv, VM.isNon, VM.kdOf, VM.D0, VM.turn, List.map_cons, List.map_nil, List.replicate_succ, List.replicate_zero, List.cons_append, List.nil_append, List.getElem?_cons_zero, List.getElem?_cons_succ, List.set_cons_zero, List.set_cons_succ, Nat.reduceSub, VM.wipe, List.length_cons, List.length_nil, Nat.reduceAdd, kdIs, List.any_cons, List.any_nil, Bool.or_false, if_true, Bool.not_false]
    exact ⟨by decide, by decide, hk'⟩
  have e1 : a.filterMap (fun _ => some (PV.bl true)) = List.replicate w (.bl true) := by
    rw [show (fun _ : Int => some (PV.bl true)) = some ∘ (fun _ => PV.bl true) from rfl, List.filterMap_eq_map, List.map_const', la]
  rw [e1]
  simp only [all_true, all_true2, Bool.not_true, Bool.false_eq_true, if_false, VM.asL]
  simp only [VM.sNil, VM.sCons, VM.sSet, VM.sPar, VM.sSetIx, VM.setIx, VM.sExpr, VM.sRet, VM.sRetN, VM.sIf, VM.sBreak, VM.sCont, VM.sFor, VM.gName, VM.gTup, VM.gEach, VM.eVar, VM.eC, VM.eBin, VM.eNeg, VM.eCmp, VM.eChain, VM.tOf, VM.tCmp, VM.tChain, VM.tAnd, VM.tOr, VM.tNot, VM.tYes, VM.eTest, VM.eAnd, VM.eOr, VM.eNot, VM.eIf, VM.aNil, VM.aCons, VM.eLst, VM.eLstM, VM.eTup, VM.eCall, VM.eIx, VM.eSl, VM.iE, VM.iRange1, VM.iRange2, VM.iZip, VM.iRev, VM.eComp, VM.eCompM, VM.eAppend, VM.eInsert, VM.eB1, VM.fLen, VM.fAbs, VM.fInt, VM.fList, VM.fListM, VM.fTuple, VM.fSum, VM.fAll, VM.fAny, VM.fIsi, VM.opBin, VM.opAdd, VM.opSub, VM.opMul, VM.opFdiv, VM.opMod, VM.opPow, VM.opCm, VM.frz, VM.isD, VM.eqv, VM.isNon, VM.D0, VM.turn, List.map_cons, List.map_nil, List.replicate_succ, List.replicate_zero, List.cons_append, List.nil_append, List.getElem?_cons_zero, List.getElem?_cons_succ, List.set_cons_zero, List.set_cons_succ, Nat.reduceSub, VM.wipe, List.length_cons, List.length_nil, Nat.reduceAdd, Int.toNat_natCast]
  refine ⟨by unfold i62; omega, ?_⟩
  refine comp_nz (a := a) (u := itup a) (w := w) trivial (by decide) (by simp) rfl rfl la hw ?_
  generalize hF : ((List.range w).filter fun i => !decide (nth a i = 0)) = F at *
  have dF : ∀ F : List Nat, isDL 60 (F.map fun (i : Nat) => PV.int (i : Int)) = true := by
    intro F
    induction F with
    | nil => simp [isDL]
    | cons x F ih => rw [List.map_cons, isDL, ih]; simp [isD]
  have dF2 : isD 60 (.lst (F.map fun (i : Nat) => PV.int (i : Int))) = true := by
    have : ∀ F : List Nat, isDL 59 (F.map fun (i : Nat) => PV.int (i : Int)) = true := by
      intro F
      induction F with
      | nil => simp [isDL]
      | cons x F ih => rw [List.map_cons, isDL, ih]; simp [isD]
    simp only [isD]
    exact this F
  have q0 : eqvL (F.map fun (i : Nat) => PV.int (i : Int)) [] = false := by
    cases F with
    | nil => exact (hne rfl).elim
    | cons => rfl
  have hn0 : ¬ nth a p < 0 := by omega
  refine ⟨by decide, dF2, by simp [isD, isDL], ?_⟩
  simp only [eqv, q0, Bool.false_eq_true, if_false]
  rw [List.length_map] at x0
  simp only [VM.sNil, VM.sCons, VM.sSet, VM.sPar, VM.sSetIx, VM.setIx, VM.sExpr, VM.sRet, VM.sRetN, VM.sIf, VM.sBreak, VM.sCont, VM.sFor, VM.gName, VM.gTup, VM.gEach, VM.eVar, VM.eC, VM.eBin, VM.eNeg, VM.eCmp, VM.eChain, VM.tOf, VM.tCmp, VM.tChain, VM.tAnd, VM.tOr, VM.tNot, VM.tYes, VM.eTest, VM.eAnd, VM.eOr, VM.eNot, VM.eIf, VM.aNil, VM.aCons, VM.eLst, VM.eLstM, VM.eTup, VM.eCall, VM.eIx, VM.getIx, VM.eSl, VM.getSl, VM.iE, VM.iRange1, VM.iRange2, VM.iZip, VM.iRev, VM.eComp, VM.eCompM, VM.eAppend, VM.eInsert, VM.eB1, VM.fLen, VM.fAbs, VM.fInt, VM.fList, VM.fListM, VM.fTuple, VM.fSum, VM.fAll, VM.fAny, VM.fIsi, VM.bLen, VM.seqOf, VM.sq, VM.asL, VM.items, VM.isSeq, VM.truth, VM.opBin, VM.opAdd, VM.opSub, VM.opMul, VM.opFdiv, VM.opMod, VM.opPow, VM.opCm, VM.opEq, VM.frz, VM.isD, VM.eqv, VM.isNon, VM.kdOf, VM.D0, VM.turn, List.map_cons, List.map_nil, List.replicate_succ, List.replicate_zero, List.cons_append, List.nil_append, List.getElem?_cons_zero, List.getElem?_cons_succ, List.set_cons_zero, List.set_cons_succ, Nat.reduceSub, VM.wipe, List.length_cons, List.length_nil, Nat.reduceAdd, List.length_map, la, itup, x0, g0, x3, x4, hn0, decide_false, Bool.false_eq_true, if_false, hj]
  exact ⟨rfl, by show _ < 16777216; omega, hk _ _ _⟩
set_option maxHeartbeats 1000000 in
theorem isf_at {FT : Nat → Option FD} (hF : FT 11 = some ⟨2, 9, T__law_is_form⟩) : At FT 1 SpIsForm := at_of (C := fun _ => True) hF (fun _ _ => trivial) fun cs cs' _ go => by
  intro ps w L st k x FM hl hpl hw hk
  refine go _ _ _ _ rfl ?_
  show (sCons _ (sCons _ (sCons (sFor _ _ (isfRow cs)) _))) _ _ _
  simp only [VM.sNil, VM.sCons, VM.sSet, VM.sPar, VM.sSetIx, VM.setIx, VM.sExpr, VM.sRet, VM.sRetN, VM.sIf, VM.sBreak, VM.sCont, VM.sFor, VM.gName, VM.gTup, VM.gEach, VM.eVar, VM.eC, VM.eBin, VM.eNeg, VM.eCmp, VM.eChain, VM.tOf, VM.tCmp, VM.tChain, VM.tAnd, VM.tOr, VM.tNot, VM.tYes, VM.eTest, VM.eAnd, VM.eOr, VM.eNot, VM.eIf, VM.aNil, VM.aCons, VM.eLst, VM.eLstM, VM.eTup, VM.eCall, VM.eIx, VM.getIx, VM.eSl, VM.getSl, VM.iE, VM.iRange1, VM.iRange2, VM.iZip, VM.iRev, VM.eComp, VM.eCompM, VM.eAppend, VM.eInsert, VM.eB1, VM.fLen, VM.fAbs, VM.fInt, VM.fList, VM.fListM, VM.fTuple, VM.fSum, VM.fAll, VM.fAny, VM.fIsi, VM.bLen, VM.seqOf, VM.sq, VM.asL, VM.items, VM.isSeq, VM.truth, VM.opBin, VM.opAdd, VM.opSub, VM.opMul, VM.opFdiv, VM.opMod, VM.opPow, VM.opCm, VM.opEq, VM.frz, VM.isD, VM.eqv, VM.isNon, VM.kdOf, VM.D0, VM.turn, List.map_cons, List.map_nil, List.replicate_succ, List.replicate_zero, List.cons_append, List.nil_append, List.getElem?_cons_zero, List.getElem?_cons_succ, List.set_cons_zero, List.set_cons_succ, Nat.reduceSub, VM.wipe, List.length_cons, List.length_nil, Nat.reduceAdd, kdIs, List.any_cons, List.any_nil, Bool.or_false, Bool.not_true, Bool.false_eq_true, if_false]
  refine ⟨by decide, by decide, trivial, ?_⟩
  generalize hj : st.length = j
  refine for_inv (fun rem ρ st' => ∃ (a3 a4 a5 a6 a7 a8 : Option PV) (m : Nat), ρ = [some (formV ps), some (.int (w : Nat)), some (.ref j), a3, a4, a5, a6, a7, a8] ∧ st' = st ++ [.lst ((ps.take m).map fun x => PV.int (x.1 : Nat))] ∧ rem = (ps.drop m).map (fun x => itup x.2) ∧ m ≤ ps.length) ?_ ?_ _ _ _ ⟨_, _, _, _, _, _, 0, rfl, rfl, rfl, Nat.zero_le _⟩
  · rintro v rem ρ st' ⟨a3, a4, a5, a6, a7, a8, m, rfl, rfl, hr, hm⟩
    refine ⟨trivial, fun D' d1 d2 d3 d4 d5 => ?_⟩
    have hmlt : m < ps.length := by
      refine Classical.byContradiction fun hn => ?_
      rw [List.drop_of_length_le (by omega)] at hr
      cases hr
    rw [List.drop_eq_getElem_cons hmlt, List.map_cons] at hr
    obtain ⟨rfl, rfl⟩ := List.cons.inj hr
    generalize hph : ps[m] = ph
    have mph : ph ∈ ps := by rw [← hph]; exact List.getElem_mem hmlt
    obtain ⟨p, a⟩ := ph
    obtain ⟨r1, r2, r3, r4⟩ := FM.row p a mph
    have r5 := FM.pos p a mph
    subst hj
    refine isf_row (cs := cs) (hs := (ps.take m).map fun x => PV.int (x.1 : Nat)) hw (hl p a mph) r1 r3 r5 (by simp) (by rw [List.length_map, List.length_take]; omega) fun b4 b5 b6 => ?_
    rw [app_set]
    refine d4 _ _ ⟨_, _, _, _, _, _, m + 1, rfl, ?_, rfl, hmlt⟩
    rw [List.take_succ_eq_append_getElem hmlt, hph, List.map_append]
    rfl
  · rintro ρ st' ⟨a3, a4, a5, a6, a7, a8, m, rfl, rfl, hr, hm⟩
    refine ⟨trivial, ?_⟩
    have hml : m = ps.length := by
      have := congrArg List.length hr
      rw [List.length_map, List.length_drop] at this
      simp only [List.length_nil] at this
      omega
    subst hml
    rw [List.take_length]
    subst hj
    have hst : (st ++ [SO.lst (ps.map fun x => PV.int (x.1 : Nat))])[st.length]? = some (.lst (ps.map fun x => PV.int (x.1 : Nat))) := by simp
    simp only [VM.sNil, VM.sCons, VM.sSet, VM.sPar, VM.sSetIx, VM.setIx, VM.sExpr, VM.sRet, VM.sRetN, VM.sIf, VM.sBreak, VM.sCont, VM.sFor, VM.gName, VM.gTup, VM.gEach, VM.eVar, VM.eC, VM.eBin, VM.eNeg, VM.eCmp, VM.eChain, VM.tOf, VM.tCmp, VM.tChain, VM.tAnd, VM.tOr, VM.tNot, VM.tYes, VM.eTest, VM.eAnd, VM.eOr, VM.eNot, VM.eIf, VM.aNil, VM.aCons, VM.eLst, VM.eLstM, VM.eTup, VM.eCall, VM.eIx, VM.getIx, VM.eSl, VM.getSl, VM.iE, VM.iRange1, VM.iRange2, VM.iZip, VM.iRev, VM.eComp, VM.eCompM, VM.eAppend, VM.eInsert, VM.eB1, VM.fLen, VM.fAbs, VM.fInt, VM.fList, VM.fListM, VM.fTuple, VM.fSum, VM.fAll, VM.fAny, VM.fIsi, VM.bLen, VM.seqOf, VM.sq, VM.asL, VM.items, VM.isSeq, VM.truth, VM.opBin, VM.opAdd, VM.opSub, VM.opMul, VM.opFdiv, VM.opMod, VM.opPow, VM.opCm, VM.opEq, VM.frz, VM.isD, VM.eqv, VM.isNon, VM.kdOf, VM.D0, VM.turn, List.map_cons, List.map_nil, List.replicate_succ, List.replicate_zero, List.cons_append, List.nil_append, List.getElem?_cons_zero, List.getElem?_cons_succ, List.set_cons_zero, List.set_cons_succ, Nat.reduceSub, VM.wipe, List.length_cons, List.length_nil, Nat.reduceAdd, hst, List.length_map, Int.toNat_natCast]
    refine ⟨by unfold i62; omega, ?_⟩
    refine for_inv (fun rem ρ st' => st' = st ++ [.lst (ps.map fun x => PV.int (x.1 : Nat))] ∧ ∃ (a3 a4 a5 a6 a7 a8 : Option PV) (pre : List PV), ρ = [some (formV ps), some (.int (w : Nat)), some (.ref st.length), a3, a4, a5, a6, a7, a8] ∧ pre ++ rem = ((List.range ps.length).map fun (i : Nat) => PV.int (i : Int))) ?_ ?_ _ _ _ ⟨rfl, _, _, _, _, _, _, [], rfl, rfl⟩
    · rintro v rem ρ st' ⟨rfl, a3, a4, a5, a6, a7, a8, pre, rfl, hp⟩
      refine ⟨trivial, fun D' d1 d2 d3 d4 d5 => ?_⟩
      obtain ⟨rfl, hi⟩ := range_split hp
      simp only [VM.sNil, VM.sCons, VM.sSet, VM.sPar, VM.sSetIx, VM.setIx, VM.sExpr, VM.sRet, VM.sRetN, VM.sIf, VM.sBreak, VM.sCont, VM.sFor, VM.gName, VM.gTup, VM.gEach, VM.eVar, VM.eC, VM.eBin, VM.eNeg, VM.eCmp, VM.eChain, VM.tOf, VM.tCmp, VM.tChain, VM.tAnd, VM.tOr, VM.tNot, VM.tYes, VM.eTest, VM.eAnd, VM.eOr, VM.eNot, VM.eIf, VM.aNil, VM.aCons, VM.eLst, VM.eLstM, VM.eTup, VM.eCall, VM.eIx, VM.getIx, VM.eSl, VM.getSl, VM.iE, VM.iRange1, VM.iRange2, VM.iZip, VM.iRev, VM.eComp, VM.eCompM, VM.eAppend, VM.eInsert, VM.eB1, VM.fLen, VM.fAbs, VM.fInt, VM.fList, VM.fListM, VM.fTuple, VM.fSum, VM.fAll, VM.fAny, VM.fIsi, VM.bLen, VM.seqOf, VM.sq, VM.asL, VM.items, VM.isSeq, VM.truth, VM.opBin, VM.opAdd, VM.opSub, VM.opMul, VM.opFdiv, VM.opMod, VM.opPow, VM.opCm, VM.opEq, VM.frz, VM.isD, VM.eqv, VM.isNon, VM.kdOf, VM.D0, VM.turn, List.map_cons, List.map_nil, List.replicate_succ, List.replicate_zero, List.cons_append, List.nil_append, List.getElem?_cons_zero, List.getElem?_cons_succ, List.set_cons_zero, List.set_cons_succ, Nat.reduceSub, VM.wipe, List.length_cons, List.length_nil, Nat.reduceAdd, Int.toNat_natCast]
      refine ⟨by unfold i62; omega, ?_⟩
      refine for_inv (fun rem2 ρ st2 => st2 = st ++ [.lst (ps.map fun x => PV.int (x.1 : Nat))] ∧ ∃ (a7 a8 : Option PV) (pre2 : List PV), ρ = [some (formV ps), some (.int (w : Nat)), some (.ref st.length), a3, a4, a5, some (.int (pre.length : Nat)), a7, a8] ∧ pre2 ++ rem2 = ((List.range pre.length).map fun (i : Nat) => PV.int (i : Int))) ?_ ?_ _ _ _ ⟨rfl, _, _, [], rfl, rfl⟩
      · rintro v rem2 ρ st2 ⟨rfl, a7, a8, pre2, rfl, hp2⟩
        refine ⟨trivial, fun D2 e1 e2 e3 e4 e5 => ?_⟩
        obtain ⟨rfl, hi2⟩ := range_split hp2
        obtain ⟨h1, h2⟩ := heads_get hi
        obtain ⟨h3, h4⟩ := heads_get (show pre2.length < ps.length by omega)
        obtain ⟨f1, f2⟩ := formV_get hi
        obtain ⟨f3, f4⟩ := formV_get (show pre2.length < ps.length by omega)
        have mi : (ps[pre.length].1, ps[pre.length].2) ∈ ps := List.getElem_mem hi
        have mj : (ps[pre2.length].1, ps[pre2.length].2) ∈ ps := List.getElem_mem (show pre2.length < ps.length by omega)
        have lt : ps[pre2.length].1 < ps[pre.length].1 := List.pairwise_iff_getElem.mp FM.sorted _ _ (by omega) hi hi2
        obtain ⟨q1, q2⟩ := FM.red _ _ _ _ mj mi lt
        have li := hl _ _ mi
        have lj := hl _ _ mj
        have hpw := (FM.row _ _ mi).1
        obtain ⟨y1, y2⟩ := ixv (v := ps[pre.length].2) (at_ := ps[pre.length].1) (by omega)
        obtain ⟨y3, y4⟩ := ixv (v := ps[pre2.length].2) (at_ := ps[pre.length].1) (by omega)
        have lt' : ¬ ((ps[pre.length].1 : Nat) : Int) ≤ ((ps[pre2.length].1 : Nat) : Int) := by omega
        simp only [VM.sNil, VM.sCons, VM.sSet, VM.sPar, VM.sSetIx, VM.setIx, VM.sExpr, VM.sRet, VM.sRetN, VM.sIf, VM.sBreak, VM.sCont, VM.sFor, VM.gName, VM.gTup, VM.gEach, VM.eVar, VM.eC, VM.eBin, VM.eNeg, VM.eCmp, VM.eChain, VM.tOf, VM.tCmp, VM.tChain, VM.tAnd, VM.tOr, VM.tNot, VM.tYes, VM.eTest, VM.eAnd, VM.eOr, VM.eNot, VM.eIf, VM.aNil, VM.aCons, VM.eLst, VM.eLstM, VM.eTup, VM.eCall, VM.eIx, VM.getIx, VM.eSl, VM.getSl, VM.iE, VM.iRange1, VM.iRange2, VM.iZip, VM.iRev, VM.eComp, VM.eCompM, VM.eAppend, VM.eInsert, VM.eB1, VM.fLen, VM.fAbs, VM.fInt, VM.fList, VM.fListM, VM.fTuple, VM.fSum, VM.fAll, VM.fAny, VM.fIsi, VM.bLen, VM.seqOf, VM.sq, VM.asL, VM.items, VM.isSeq, VM.truth, VM.opBin, VM.opAdd, VM.opSub, VM.opMul, VM.opFdiv, VM.opMod, VM.opPow, VM.opCm, VM.opEq, VM.frz, VM.isD, VM.eqv, VM.isNon, VM.kdOf, VM.D0, VM.turn, List.map_cons, List.map_nil, List.replicate_succ, List.replicate_zero, List.cons_append, List.nil_append, List.getElem?_cons_zero, List.getElem?_cons_succ, List.set_cons_zero, List.set_cons_succ, Nat.reduceSub, VM.wipe, List.length_cons, List.length_nil, Nat.reduceAdd, hst, h1, h2, h3, h4, f1, f2, f3, f4, itup, y1, y2, y3, y4, lt', q1, q2, decide_true, decide_false, if_true, Bool.not_true, Bool.false_eq_true, if_false]
        exact e4 _ _ ⟨rfl, _, _, pre2 ++ [.int (pre2.length : Nat)], rfl, by simpa using hp2⟩
      · rintro ρ st2 ⟨rfl, a7, a8, pre2, rfl, hp2⟩
        exact ⟨trivial, d4 _ _ ⟨rfl, _, _, _, _, _, _, pre ++ [.int (pre.length : Nat)], rfl, by simpa using hp⟩⟩
    · rintro ρ st' ⟨rfl, a3, a4, a5, a6, a7, a8, pre, rfl, hp⟩
      refine ⟨trivial, ?_⟩
      simp only [VM.sNil, VM.sCons, VM.sSet, VM.sPar, VM.sSetIx, VM.setIx, VM.sExpr, VM.sRet, VM.sRetN, VM.sIf, VM.sBreak, VM.sCont, VM.sFor, VM.gName, VM.gTup, VM.gEach, VM.eVar, VM.eC, VM.eBin, VM.eNeg, VM.eCmp, VM.eChain, VM.tOf, VM.tCmp, VM.tChain, VM.tAnd, VM.tOr, VM.tNot, VM.tYes, VM.eTest, VM.eAnd, VM.eOr, VM.eNot, VM.eIf, VM.aNil, VM.aCons, VM.eLst, VM.eLstM, VM.eTup, VM.eCall, VM.eIx, VM.getIx, VM.eSl, VM.getSl, VM.iE, VM.iRange1, VM.iRange2, VM.iZip, VM.iRev, VM.eComp, VM.eCompM, VM.eAppend, VM.eInsert, VM.eB1, VM.fLen, VM.fAbs, VM.fInt, VM.fList, VM.fListM, VM.fTuple, VM.fSum, VM.fAll, VM.fAny, VM.fIsi, VM.bLen, VM.seqOf, VM.sq, VM.asL, VM.items, VM.isSeq, VM.truth, VM.opBin, VM.opAdd, VM.opSub, VM.opMul, VM.opFdiv, VM.opMod, VM.opPow, VM.opCm, VM.opEq, VM.frz, VM.isD, VM.eqv, VM.isNon, VM.kdOf, VM.D0, VM.turn, List.map_cons, List.map_nil, List.replicate_succ, List.replicate_zero, List.cons_append, List.nil_append, List.getElem?_cons_zero, List.getElem?_cons_succ, List.set_cons_zero, List.set_cons_succ, Nat.reduceSub, VM.wipe, List.length_cons, List.length_nil, Nat.reduceAdd]
      exact hk _
end VP
end
section
namespace VP
open VM ML
/-- heads in order, rows that begin there -/
structure Trg (w H : Nat) (ps : Ps) : Prop where
  sorted : ps.Pairwise (fun x y => x.1 < y.1)
  row : ∀ p a, (p, a) ∈ ps → p < w ∧ a.length = w ∧ Z p a ∧ 0 < nth a p ∧ Bb H a
def SpEchF (cs : CS) : Prop := ∀ (ps : Ps) (w H : Nat) (st : Store) (k x : KV), Trg w H ps → w ≤ 1000 → ps.length ≤ 1000 → 8 * H + 10 ≤ 100000000 → k (.tup [.lst (ps.map hd), rl []]) st → cs 9 [formV ps, .int w] st k x
theorem fil_cons {at_ : Nat} {a : Vec} {rows : List Vec} (h : nth a at_ ≠ 0) (hr : ∀ r ∈ rows, nth r at_ = 0) : fnz at_ (a :: rows) = [a] ∧ fz at_ (a :: rows) = rows := by
  unfold fnz fz
  rw [List.filter_cons, List.filter_cons]
  have e1 : rows.filter (fun r => !decide (nth r at_ = 0)) = [] := List.filter_eq_nil_iff.mpr fun r m => by simp [hr r m]
  have e2 : rows.filter (fun r => decide (nth r at_ = 0)) = rows := List.filter_eq_self.mpr fun r m => by simp [hr r m]
  simp [h, e1, e2]
theorem fil_all {at_ : Nat} {rows : List Vec} (hr : ∀ r ∈ rows, nth r at_ = 0) : fnz at_ rows = [] ∧ fz at_ rows = rows := by
  unfold fnz fz
  exact ⟨List.filter_eq_nil_iff.mpr fun r m => by simp [hr r m], List.filter_eq_self.mpr fun r m => by simp [hr r m]⟩
set_option maxHeartbeats 1000000 in
theorem echF_at {FT : Nat → Option FD} {d : Nat} (hF : FT 9 = some ⟨2, 8, T_echelon⟩) (h1 : At FT d SpCleared) : At FT (d + 1) SpEchF := at_of hF h1 fun cs cs' cl go => by
  intro ps w H st k x T hw hy hs hk
  refine go _ _ _ _ rfl ?_
  simp only [T_echelon, VM.sNil, VM.sCons, VM.sSet, VM.sPar, VM.sSetIx, VM.setIx, VM.sExpr, VM.sRet, VM.sRetN, VM.sIf, VM.sBreak, VM.sCont, VM.sFor, VM.gName, VM.gTup, VM.gEach, VM.eVar, VM.eC, VM.eBin, VM.eNeg, VM.eCmp, VM.eChain, VM.tOf, VM.tCmp, VM.tChain, VM.tAnd, VM.tOr, VM.tNot, VM.tYes, VM.eTest, VM.eAnd, VM.eOr, VM.eNot, VM.eIf, VM.aNil, VM.aCons, VM.eLst, VM.eLstM, VM.eTup, VM.eCall, VM.eIx, VM.eSl, VM.iE, VM.iRange1, VM.iRange2, VM.iZip, VM.iRev, VM.eComp, VM.eCompM, VM.eAppend, VM.eInsert, VM.eB1, VM.fLen, VM.fAbs, VM.fInt, VM.fList, VM.fListM, VM.fTuple, VM.fSum, VM.fAll, VM.fAny, VM.fIsi, VM.opBin, VM.opAdd, VM.opSub, VM.opMul, VM.opFdiv, VM.opMod, VM.opPow, VM.opCm, VM.frz, VM.isD, VM.eqv, VM.isNon, VM.D0, VM.turn, List.map_cons, List.map_nil, List.replicate_succ, List.replicate_zero, List.cons_append, List.nil_append, List.getElem?_cons_zero, List.getElem?_cons_succ, List.set_cons_zero, List.set_cons_succ, Nat.reduceSub, VM.wipe, List.length_cons, List.length_nil, Nat.reduceAdd, items, isSeq]
  refine ⟨trivial, comp_of (fun x : Nat × Vec => itup x.2) (fun x => some (ilst x.2)) (stays_self _ _) ps (fun p m k' hk' => ?_) (by show _ ≤ 16777216; omega) ?_⟩
  · simp only [VM.sNil, VM.sCons, VM.sSet, VM.sPar, VM.sSetIx, VM.setIx, VM.sExpr, VM.sRet, VM.sRetN, VM.sIf, VM.sBreak, VM.sCont, VM.sFor, VM.gName, VM.gTup, VM.gEach, VM.eVar, VM.eC, VM.eBin, VM.eNeg, VM.eCmp, VM.eChain, VM.tOf, VM.tCmp, VM.tChain, VM.tAnd, VM.tOr, VM.tNot, VM.tYes, VM.eTest, VM.eAnd, VM.eOr, VM.eNot, VM.eIf, VM.aNil, VM.aCons, VM.eLst, VM.eLstM, VM.eTup, VM.eCall, VM.eIx, VM.eSl, VM.iE, VM.iRange1, VM.iRange2, VM.iZip, VM.iRev, VM.eComp, VM.eCompM, VM.eAppend, VM.eInsert, VM.eB1, VM.fLen, VM.fAbs, VM.fInt, VM.fList, VM.fListM, VM.fTuple, VM.fSum, VM.fAll, VM.fAny, VM.fIsi, VM.opBin, VM.opAdd, VM.opSub, VM.opMul, VM.opFdiv, VM.opMod, VM.opPow, VM.opCm, VM.frz, VM.isD, VM.eqv, VM.isNon, VM.D0, VM.turn, List.map_cons, List.map_nil, List.replicate_succ, List.replicate_zero, List.cons_append, List.nil_append, List.getElem?_cons_zero, List.getElem?_cons_succ, List.set_cons_zero, List.set_cons_succ, Nat.reduceSub, VM.wipe, List.length_cons, List.length_nil, Nat.reduceAdd, seqOf, if_true]
    exact hk'
  have e1 : ps.filterMap (fun p => some (ilst p.2)) = (ps.map (·.2)).map ilst := by
    rw [show (fun p : Nat × Vec => some (ilst p.2)) = some ∘ (fun p => ilst p.2) from rfl, List.filterMap_eq_map, List.map_map]
    rfl
  rw [e1]
  refine ⟨by decide, by unfold i62; omega, ?_⟩
  simp only [Int.toNat_natCast]
  refine for_inv (fun rem ρ st' => st' = st ∧ ∃ (a3 a5 a6 a7 : Option PV) (A B : Ps) (pre : List PV), ρ = [some (formV ps), some (.int w), some (rl (B.map (·.2))), a3, some (.lst (A.map hd)), a5, a6, a7] ∧ pre ++ rem = ((List.range w).map fun (i : Nat) => PV.int (i : Int)) ∧
    ps = A ++ B ∧ (∀ p a, (p, a) ∈ B → pre.length ≤ p)) ?_ ?_ _ _ _ ⟨rfl, _, _, _, _, [], ps, [], rfl, rfl, rfl, fun _ _ _ => Nat.zero_le _⟩
  · rintro v rem ρ st' ⟨rfl, a3, a5, a6, a7, A, B, pre, rfl, hp, e, hB⟩
    refine ⟨trivial, fun D' d1 d2 d3 d4 d5 => ?_⟩
    obtain ⟨rfl, hn⟩ := range_split hp
    have inP : ∀ x, x ∈ B → x ∈ ps := fun x m => by rw [e]; exact List.mem_append_right _ m
    have hBl : B.length ≤ ps.length := by rw [e, List.length_append]; omega
    have sB : B.Pairwise (fun x y => x.1 < y.1) := by
      have := T.sorted
      rw [e] at this
      exact (List.pairwise_append.mp this).2.1
    simp only [VM.sNil, VM.sCons, VM.sSet, VM.sPar, VM.sSetIx, VM.setIx, VM.sExpr, VM.sRet, VM.sRetN, VM.sIf, VM.sBreak, VM.sCont, VM.sFor, VM.gName, VM.gTup, VM.gEach, VM.eVar, VM.eC, VM.eBin, VM.eNeg, VM.eCmp, VM.eChain, VM.tOf, VM.tCmp, VM.tChain, VM.tAnd, VM.tOr, VM.tNot, VM.tYes, VM.eTest, VM.eAnd, VM.eOr, VM.eNot, VM.eIf, VM.aNil, VM.aCons, VM.eLst, VM.eLstM, VM.eTup, VM.eCall, VM.eIx, VM.eSl, VM.iE, VM.iRange1, VM.iRange2, VM.iZip, VM.iRev, VM.eComp, VM.eCompM, VM.eAppend, VM.eInsert, VM.eB1, VM.fLen, VM.fAbs, VM.fInt, VM.fList, VM.fListM, VM.fTuple, VM.fSum, VM.fAll, VM.fAny, VM.fIsi, VM.opBin, VM.opAdd, VM.opSub, VM.opMul, VM.opFdiv, VM.opMod, VM.opPow, VM.opCm, VM.frz, VM.isD, VM.eqv, VM.isNon, VM.D0, VM.turn, List.map_cons, List.map_nil, List.replicate_succ, List.replicate_zero, List.cons_append, List.nil_append, List.getElem?_cons_zero, List.getElem?_cons_succ, List.set_cons_zero, List.set_cons_succ, Nat.reduceSub, VM.wipe, List.length_cons, List.length_nil, Nat.reduceAdd]
    refine cl (B.map (·.2)) w pre.length H _ _ _ (fun r m => ?_) (fun r m => ?_) hn hw (by rw [List.length_map]; omega) hs fun left rest' R => ?_
    · obtain ⟨y, hy, rfl⟩ := List.mem_map.mp m
      exact (T.row y.1 y.2 (inP y hy)).2.1
    · obtain ⟨y, hy, rfl⟩ := List.mem_map.mp m
      exact (T.row y.1 y.2 (inP y hy)).2.2.2.2
    obtain ⟨c, hlen, few⟩ := R
    simp only [VM.sNil, VM.sCons, VM.sSet, VM.sPar, VM.sSetIx, VM.setIx, VM.sExpr, VM.sRet, VM.sRetN, VM.sIf, VM.sBreak, VM.sCont, VM.sFor, VM.gName, VM.gTup, VM.gEach, VM.eVar, VM.eC, VM.eBin, VM.eNeg, VM.eCmp, VM.eChain, VM.tOf, VM.tCmp, VM.tChain, VM.tAnd, VM.tOr, VM.tNot, VM.tYes, VM.eTest, VM.eAnd, VM.eOr, VM.eNot, VM.eIf, VM.aNil, VM.aCons, VM.eLst, VM.eLstM, VM.eTup, VM.eCall, VM.eIx, VM.eSl, VM.iE, VM.iRange1, VM.iRange2, VM.iZip, VM.iRev, VM.eComp, VM.eCompM, VM.eAppend, VM.eInsert, VM.eB1, VM.fLen, VM.fAbs, VM.fInt, VM.fList, VM.fListM, VM.fTuple, VM.fSum, VM.fAll, VM.fAny, VM.fIsi, VM.opBin, VM.opAdd, VM.opSub, VM.opMul, VM.opFdiv, VM.opMod, VM.opPow, VM.opCm, VM.frz, VM.isD, VM.eqv, VM.isNon, VM.D0, VM.turn, List.map_cons, List.map_nil, List.replicate_succ, List.replicate_zero, List.cons_append, List.nil_append, List.getElem?_cons_zero, List.getElem?_cons_succ, List.set_cons_zero, List.set_cons_succ, Nat.reduceSub, VM.wipe, List.length_cons, List.length_nil, Nat.reduceAdd]
    refine ⟨trivial, ?_⟩
    -- either the first of B has its head here, or none
    by_cases hh : ∃ a B', B = (pre.length, a) :: B'
    · obtain ⟨a, B', rfl⟩ := hh
      obtain ⟨s1, s2⟩ := List.pairwise_cons.mp sB
      obtain ⟨r1, r2, r3, r4, r5⟩ := T.row _ a (inP _ (List.mem_cons_self ..))
      have fl := fil_cons (at_ := pre.length) (a := a) (rows := B'.map (·.2)) (by omega) fun r m => by
        obtain ⟨y, hy, rfl⟩ := List.mem_map.mp m
        exact (T.row y.1 y.2 (inP y (List.mem_cons_of_mem _ hy))).2.2.1 _ (s1 y hy)
      have lr : left = [a] ∧ rest' = B'.map (·.2) := by
        rcases few with f | ⟨f1, f2⟩
        · rw [List.map_cons, fl.1] at f
          exact absurd f (by simp)
        · rw [List.map_cons, fl.1] at f1
          rw [List.map_cons, fl.2] at f2
          exact ⟨f1, f2⟩
      obtain ⟨rfl, rfl⟩ := lr
      obtain ⟨x1, x2⟩ := ixv (v := a) (at_ := pre.length) (by omega)
      have x0 : ix 1 0 = some 0 := rfl
      have hps : (A.map hd).length + 1 ≤ SZ := by
        have := congrArg List.length e
        rw [List.length_append, List.length_cons] at this
        rw [List.length_map]
        show _ ≤ 16777216
        omega
      have hneg : ¬ nth a pre.length < 0 := by omega
      simp only [VM.sNil, VM.sCons, VM.sSet, VM.sPar, VM.sSetIx, VM.setIx, VM.sExpr, VM.sRet, VM.sRetN, VM.sIf, VM.sBreak, VM.sCont, VM.sFor, VM.gName, VM.gTup, VM.gEach, VM.eVar, VM.eC, VM.eBin, VM.eNeg, VM.eCmp, VM.eChain, VM.tOf, VM.tCmp, VM.tChain, VM.tAnd, VM.tOr, VM.tNot, VM.tYes, VM.eTest, VM.eAnd, VM.eOr, VM.eNot, VM.eIf, VM.aNil, VM.aCons, VM.eLst, VM.eLstM, VM.eTup, VM.eCall, VM.eIx, VM.getIx, VM.eSl, VM.getSl, VM.iE, VM.iRange1, VM.iRange2, VM.iZip, VM.iRev, VM.eComp, VM.eCompM, VM.eAppend, VM.eInsert, VM.eB1, VM.fLen, VM.fAbs, VM.fInt, VM.fList, VM.fListM, VM.fTuple, VM.fSum, VM.fAll, VM.fAny, VM.fIsi, VM.bLen, VM.seqOf, VM.sq, VM.asL, VM.items, VM.isSeq, VM.truth, VM.opBin, VM.opAdd, VM.opSub, VM.opMul, VM.opFdiv, VM.opMod, VM.opPow, VM.opCm, VM.opEq, VM.frz, VM.isD, VM.eqv, VM.isNon, VM.kdOf, VM.D0, VM.turn, List.map_cons, List.map_nil, List.replicate_succ, List.replicate_zero, List.cons_append, List.nil_append, List.getElem?_cons_zero, List.getElem?_cons_succ, List.set_cons_zero, List.set_cons_succ, Nat.reduceSub, VM.wipe, List.length_cons, List.length_nil, Nat.reduceAdd, isDL, eqvL, ilst, isDL_ints, x0, x1, x2, List.map_cons, List.map_nil]
      refine ⟨(by first | trivial | decide | simp [VM.isDL, VM.isD]), (by first | trivial | decide | simp [VM.isDL, VM.isD]), ?_⟩
      simp only [Bool.not_false, if_true]
      refine ⟨(by first | trivial | decide | simp [VM.isDL, VM.isD]), ?_⟩
      simp only [hneg, decide_false, Bool.false_eq_true, if_false]
      refine ⟨by decide, by decide, hps, ?_⟩
      refine d4 _ _ ⟨rfl, _, _, _, _, A ++ [(pre.length, a)], B', pre ++ [.int pre.length], by rw [List.map_append]; rfl, by simpa using hp, by rw [e]; simp, fun p b m => ?_⟩
      rw [List.length_append, List.length_singleton]
      exact s1 (p, b) m
    · have zz : ∀ r ∈ B.map (·.2), nth r pre.length = 0 := fun r m => by
        obtain ⟨y, hy, rfl⟩ := List.mem_map.mp m
        have h1 := hB y.1 y.2 hy
        refine (T.row y.1 y.2 (inP y hy)).2.2.1 _ ?_
        refine Classical.byContradiction fun hn' => hh ?_
        have hy1 : y.1 = pre.length := by omega
        cases hB' : B with
        | nil => rw [hB'] at hy; cases hy
        | cons z B' =>
          rw [hB'] at hy sB hB
          obtain ⟨s1, _⟩ := List.pairwise_cons.mp sB
          have hz := hB z.1 z.2 (List.mem_cons_self ..)
          rcases List.mem_cons.mp hy with e' | m'
          · exact ⟨y.2, B', by rw [← e', ← hy1]⟩
          · have := s1 y m'
            omega
      have fl := fil_all zz
      have lr : left = [] ∧ rest' = B.map (·.2) := by
        rcases few with f | ⟨f1, f2⟩
        · rw [fl.1] at f
          exact absurd f (by simp)
        · exact ⟨f1.trans fl.1, f2.trans fl.2⟩
      obtain ⟨rfl, rfl⟩ := lr
      simp only [VM.sNil, VM.sCons, VM.sSet, VM.sPar, VM.sSetIx, VM.setIx, VM.sExpr, VM.sRet, VM.sRetN, VM.sIf, VM.sBreak, VM.sCont, VM.sFor, VM.gName, VM.gTup, VM.gEach, VM.eVar, VM.eC, VM.eBin, VM.eNeg, VM.eCmp, VM.eChain, VM.tOf, VM.tCmp, VM.tChain, VM.tAnd, VM.tOr, VM.tNot, VM.tYes, VM.eTest, VM.eAnd, VM.eOr, VM.eNot, VM.eIf, VM.aNil, VM.aCons, VM.eLst, VM.eLstM, VM.eTup, VM.eCall, VM.eIx, VM.getIx, VM.eSl, VM.getSl, VM.iE, VM.iRange1, VM.iRange2, VM.iZip, VM.iRev, VM.eComp, VM.eCompM, VM.eAppend, VM.eInsert, VM.eB1, VM.fLen, VM.fAbs, VM.fInt, VM.fList, VM.fListM, VM.fTuple, VM.fSum, VM.fAll, VM.fAny, VM.fIsi, VM.bLen, VM.seqOf, VM.sq, VM.asL, VM.items, VM.isSeq, VM.truth, VM.opBin, VM.opAdd, VM.opSub, VM.opMul, VM.opFdiv, VM.opMod, VM.opPow, VM.opCm, VM.opEq, VM.frz, VM.isD, VM.eqv, VM.isNon, VM.kdOf, VM.D0, VM.turn, List.map_cons, List.map_nil, List.replicate_succ, List.replicate_zero, List.cons_append, List.nil_append, List.getElem?_cons_zero, List.getElem?_cons_succ, List.set_cons_zero, List.set_cons_succ, Nat.reduceSub, VM.wipe, List.length_cons, List.length_nil, Nat.reduceAdd, isDL, eqvL]
      refine ⟨(by first | trivial | decide | simp [VM.isDL, VM.isD]), (by first | trivial | decide | simp [VM.isDL, VM.isD]), ?_⟩
      simp only [Bool.not_true, Bool.false_eq_true, if_false]
      refine ⟨(by first | trivial | decide | simp [VM.isDL, VM.isD]), ?_⟩
      refine d4 _ _ ⟨rfl, _, _, _, _, A, B, pre ++ [.int pre.length], rfl, by simpa using hp, e, fun p b m => ?_⟩
      rw [List.length_append, List.length_singleton]
      have h1 := hB p b m
      refine Classical.byContradiction fun hn' => ?_
      have hp' : p = pre.length := by omega
      subst hp'
      have := zz b (List.mem_map.mpr ⟨_, m, rfl⟩)
      have := (T.row _ b (inP _ m)).2.2.2.1
      omega
  · rintro ρ st' ⟨rfl, a3, a5, a6, a7, A, B, pre, rfl, hp, e, hB⟩
    rw [List.append_nil] at hp
    have hpl := range_pre hp
    have hBn : B = [] := by
      cases hB' : B with
      | nil => rfl
      | cons z B' =>
        have h1 := hB z.1 z.2 (by rw [hB']; exact List.mem_cons_self ..)
        have h2 := (T.row z.1 z.2 (by rw [e, hB']; simp)).1
        omega
    subst hBn
    rw [List.append_nil] at e
    subst e
    refine ⟨trivial, ?_⟩
    simp only [VM.sNil, VM.sCons, VM.sSet, VM.sPar, VM.sSetIx, VM.setIx, VM.sExpr, VM.sRet, VM.sRetN, VM.sIf, VM.sBreak, VM.sCont, VM.sFor, VM.gName, VM.gTup, VM.gEach, VM.eVar, VM.eC, VM.eBin, VM.eNeg, VM.eCmp, VM.eChain, VM.tOf, VM.tCmp, VM.tChain, VM.tAnd, VM.tOr, VM.tNot, VM.tYes, VM.eTest, VM.eAnd, VM.eOr, VM.eNot, VM.eIf, VM.aNil, VM.aCons, VM.eLst, VM.eLstM, VM.eTup, VM.eCall, VM.eIx, VM.getIx, VM.eSl, VM.getSl, VM.iE, VM.iRange1, VM.iRange2, VM.iZip, VM.iRev, VM.eComp, VM.eCompM, VM.eAppend, VM.eInsert, VM.eB1, VM.fLen, VM.fAbs, VM.fInt, VM.fList, VM.fListM, VM.fTuple, VM.fSum, VM.fAll, VM.fAny, VM.fIsi, VM.bLen, VM.seqOf, VM.sq, VM.asL, VM.items, VM.isSeq, VM.truth, VM.opBin, VM.opAdd, VM.opSub, VM.opMul, VM.opFdiv, VM.opMod, VM.opPow, VM.opCm, VM.opEq, VM.frz, VM.isD, VM.eqv, VM.isNon, VM.kdOf, VM.D0, VM.turn, List.map_cons, List.map_nil, List.replicate_succ, List.replicate_zero, List.cons_append, List.nil_append, List.getElem?_cons_zero, List.getElem?_cons_succ, List.set_cons_zero, List.set_cons_succ, Nat.reduceSub, VM.wipe, List.length_cons, List.length_nil, Nat.reduceAdd]
    exact ⟨by decide, hk⟩
theorem low_id : ∀ (qs : Ps) (a : Vec), (∀ q b, (q, b) ∈ qs → a.length = b.length ∧ 0 ≤ nth a q ∧ nth a q < nth b q) → lower a qs = a
  | [], _, _ => rfl
  | (q, b) :: qs, a, h => by
    obtain ⟨l, h1, h2⟩ := h q b (List.mem_cons_self ..)
    have e : low1 a (q, b) = a := by
      unfold low1
      have e1 : (nth a q).fdiv (nth b q) = 0 := by
        rw [Int.fdiv_eq_ediv_of_nonneg _ (by omega)]
        exact Int.ediv_eq_zero_of_lt h1 h2
      show sub1 a b ((nth a q).fdiv (nth b q)) = a
      rw [e1]
      exact vext (sub1_len l) fun i _ => by rw [nth_sub1 l]; omega
    show lower (low1 a (q, b)) qs = a
    rw [e]
    exact low_id qs a fun q b m => h q b (List.mem_cons_of_mem _ m)
def SpRedF (cs : CS) : Prop := ∀ (ps : Ps) (w H : Nat) (L : Vec → Prop) (st : Store) (k x : KV), Form w L ps → Trg w H ps → w ≤ 1000 → ps.length ≤ 1000 → 8 * H + 10 ≤ 100000000 → k (formV ps) st → cs 10 [formV ps] st k x
set_option maxHeartbeats 1000000 in
theorem redF_at {FT : Nat → Option FD} {d : Nat} (hF : FT 10 = some ⟨1, 8, T_reduced⟩) (h1 : At FT d SpEchF) (h2 : At FT d SpMinus) : At FT (d + 1) SpRedF := at_of (C := fun cs => SpEchF cs ∧ SpMinus cs) hF (fun n hn => ⟨h1 n hn, h2 n hn⟩) fun cs cs' C go => by
  obtain ⟨ec, mn⟩ := C
  intro ps w H L st k x FM T hw hy hs hk
  refine go _ _ _ _ rfl ?_
  have f3 : bLen (formV ps) st = some ps.length := by simp [bLen, asL]
  simp only [T_reduced, VM.sNil, VM.sCons, VM.sSet, VM.sPar, VM.sSetIx, VM.setIx, VM.sExpr, VM.sRet, VM.sRetN, VM.sIf, VM.sBreak, VM.sCont, VM.sFor, VM.gName, VM.gTup, VM.gEach, VM.eVar, VM.eC, VM.eBin, VM.eNeg, VM.eCmp, VM.eChain, VM.tOf, VM.tCmp, VM.tChain, VM.tAnd, VM.tOr, VM.tNot, VM.tYes, VM.eTest, VM.eAnd, VM.eOr, VM.eNot, VM.eIf, VM.aNil, VM.aCons, VM.eLst, VM.eLstM, VM.eTup, VM.eCall, VM.eIx, VM.eSl, VM.iE, VM.iRange1, VM.iRange2, VM.iZip, VM.iRev, VM.eComp, VM.eCompM, VM.eAppend, VM.eInsert, VM.eB1, VM.fLen, VM.fAbs, VM.fInt, VM.fList, VM.fListM, VM.fTuple, VM.fSum, VM.fAll, VM.fAny, VM.fIsi, VM.opBin, VM.opAdd, VM.opSub, VM.opMul, VM.opFdiv, VM.opMod, VM.opPow, VM.opCm, VM.frz, VM.isD, VM.eqv, VM.isNon, VM.D0, VM.turn, List.map_cons, List.map_nil, List.replicate_succ, List.replicate_zero, List.cons_append, List.nil_append, List.getElem?_cons_zero, List.getElem?_cons_succ, List.set_cons_zero, List.set_cons_succ, Nat.reduceSub, VM.wipe, List.length_cons, List.length_nil, Nat.reduceAdd, f3, VM.opEq, VM.frz, VM.isD, VM.eqv]
  refine ⟨(by first | trivial | decide | simp [VM.isDL, VM.isD]), (by first | trivial | decide | simp [VM.isDL, VM.isD]), ?_⟩
  cases hps : ps with
  | nil =>
    subst hps
    simp only [List.length_nil]
    refine (if_pos rfl).mpr' ⟨by decide, hk⟩
  | cons y0 yr =>
  rw [← hps]
  have hn : ((ps.length : Int) == 0) = false := by
    rw [beq_eq_false_iff_ne, hps]
    simp
    omega
  refine (if_neg (by rw [hn]; exact Bool.false_ne_true)).mpr' ?_
  have m0 : (y0.1, y0.2) ∈ ps := by rw [hps]; exact List.mem_cons_self ..
  have l0 : y0.2.length = w := (T.row _ _ m0).2.1
  obtain ⟨g1, g2⟩ := formV_get (ps := ps) (i := 0) (by rw [hps]; simp)
  have g3 : ps[0]'(by rw [hps]; simp) = y0 := by simp [hps]
  rw [g3] at g2
  have g1' : ix (ps.map fun x => itup x.2).length 0 = some 0 := g1
  simp only [VM.sNil, VM.sCons, VM.sSet, VM.sPar, VM.sSetIx, VM.setIx, VM.sExpr, VM.sRet, VM.sRetN, VM.sIf, VM.sBreak, VM.sCont, VM.sFor, VM.gName, VM.gTup, VM.gEach, VM.eVar, VM.eC, VM.eBin, VM.eNeg, VM.eCmp, VM.eChain, VM.tOf, VM.tCmp, VM.tChain, VM.tAnd, VM.tOr, VM.tNot, VM.tYes, VM.eTest, VM.eAnd, VM.eOr, VM.eNot, VM.eIf, VM.aNil, VM.aCons, VM.eLst, VM.eLstM, VM.eTup, VM.eCall, VM.eIx, VM.getIx, VM.eSl, VM.getSl, VM.iE, VM.iRange1, VM.iRange2, VM.iZip, VM.iRev, VM.eComp, VM.eCompM, VM.eAppend, VM.eInsert, VM.eB1, VM.fLen, VM.fAbs, VM.fInt, VM.fList, VM.fListM, VM.fTuple, VM.fSum, VM.fAll, VM.fAny, VM.fIsi, VM.bLen, VM.seqOf, VM.sq, VM.asL, VM.items, VM.isSeq, VM.truth, VM.opBin, VM.opAdd, VM.opSub, VM.opMul, VM.opFdiv, VM.opMod, VM.opPow, VM.opCm, VM.opEq, VM.frz, VM.isD, VM.eqv, VM.isNon, VM.kdOf, VM.D0, VM.turn, List.map_cons, List.map_nil, List.replicate_succ, List.replicate_zero, List.cons_append, List.nil_append, List.getElem?_cons_zero, List.getElem?_cons_succ, List.set_cons_zero, List.set_cons_succ, Nat.reduceSub, VM.wipe, List.length_cons, List.length_nil, Nat.reduceAdd, g1', g2]
  simp only [itup, List.length_map, l0]
  refine ec ps w H st _ _ T hw hy hs ?_
  simp only [VM.sNil, VM.sCons, VM.sSet, VM.sPar, VM.sSetIx, VM.setIx, VM.sExpr, VM.sRet, VM.sRetN, VM.sIf, VM.sBreak, VM.sCont, VM.sFor, VM.gName, VM.gTup, VM.gEach, VM.eVar, VM.eC, VM.eBin, VM.eNeg, VM.eCmp, VM.eChain, VM.tOf, VM.tCmp, VM.tChain, VM.tAnd, VM.tOr, VM.tNot, VM.tYes, VM.eTest, VM.eAnd, VM.eOr, VM.eNot, VM.eIf, VM.aNil, VM.aCons, VM.eLst, VM.eLstM, VM.eTup, VM.eCall, VM.eIx, VM.getIx, VM.eSl, VM.getSl, VM.iE, VM.iRange1, VM.iRange2, VM.iZip, VM.iRev, VM.eComp, VM.eCompM, VM.eAppend, VM.eInsert, VM.eB1, VM.fLen, VM.fAbs, VM.fInt, VM.fList, VM.fListM, VM.fTuple, VM.fSum, VM.fAll, VM.fAny, VM.fIsi, VM.bLen, VM.seqOf, VM.sq, VM.asL, VM.items, VM.isSeq, VM.truth, VM.opBin, VM.opAdd, VM.opSub, VM.opMul, VM.opFdiv, VM.opMod, VM.opPow, VM.opCm, VM.opEq, VM.frz, VM.isD, VM.eqv, VM.isNon, VM.kdOf, VM.D0, VM.turn, List.map_cons, List.map_nil, List.replicate_succ, List.replicate_zero, List.cons_append, List.nil_append, List.getElem?_cons_zero, List.getElem?_cons_succ, List.set_cons_zero, List.set_cons_succ, Nat.reduceSub, VM.wipe, List.length_cons, List.length_nil, Nat.reduceAdd, List.length_map, Int.toNat_natCast]
  refine ⟨trivial, by decide, by unfold i62; omega, ?_⟩
  have la : ∀ p a, (p, a) ∈ ps → a.length = w := fun p a m => (T.row p a m).2.1
  refine for_inv (fun rem ρ st' => st' = st ∧ ∃ (a4 a5 a6 a7 : Option PV) (pre : List PV), ρ = [some (formV ps), some (.lst (ps.map hd)), some (rl []), some (.lst ((ps.take pre.length).map fun x => itup x.2)), a4, a5, a6, a7] ∧ pre ++ rem = ((List.range ps.length).map fun (i : Nat) => PV.int (i : Int))) ?_ ?_ _ _ _ ⟨rfl, _, _, _, _, [], rfl, rfl⟩
  · rintro v rem ρ st' ⟨rfl, a4, a5, a6, a7, pre, rfl, hp⟩
    refine ⟨trivial, fun D' d1 d2 d3 d4 d5 => ?_⟩
    obtain ⟨rfl, hi⟩ := range_split hp
    have x0 : ix 2 1 = some 1 := rfl
    have xk : ix ps.length (pre.length : Int) = some pre.length := by rw [ixN (by omega) (by omega)]; simp
    have xg : (ps.map hd)[pre.length]? = some (hd ps[pre.length]) := by rw [List.getElem?_map, List.getElem?_eq_getElem hi]; rfl
    have xs : slc (ps.map hd) (some ((pre.length : Int) + 1)) none = (ps.drop (pre.length + 1)).map hd := by
      have : ((pre.length : Int) + 1) = ((pre.length + 1 : Nat) : Int) := by omega
      rw [this, slc_drop, List.map_drop]
    generalize hpa : ps[pre.length] = pa at *
    have mpa : (pa.1, pa.2) ∈ ps := by rw [← hpa]; exact List.getElem_mem hi
    simp only [VM.sNil, VM.sCons, VM.sSet, VM.sPar, VM.sSetIx, VM.setIx, VM.sExpr, VM.sRet, VM.sRetN, VM.sIf, VM.sBreak, VM.sCont, VM.sFor, VM.gName, VM.gTup, VM.gEach, VM.eVar, VM.eC, VM.eBin, VM.eNeg, VM.eCmp, VM.eChain, VM.tOf, VM.tCmp, VM.tChain, VM.tAnd, VM.tOr, VM.tNot, VM.tYes, VM.eTest, VM.eAnd, VM.eOr, VM.eNot, VM.eIf, VM.aNil, VM.aCons, VM.eLst, VM.eLstM, VM.eTup, VM.eCall, VM.eIx, VM.getIx, VM.eSl, VM.getSl, VM.iE, VM.iRange1, VM.iRange2, VM.iZip, VM.iRev, VM.eComp, VM.eCompM, VM.eAppend, VM.eInsert, VM.eB1, VM.fLen, VM.fAbs, VM.fInt, VM.fList, VM.fListM, VM.fTuple, VM.fSum, VM.fAll, VM.fAny, VM.fIsi, VM.bLen, VM.seqOf, VM.sq, VM.asL, VM.items, VM.isSeq, VM.truth, VM.opBin, VM.opAdd, VM.opSub, VM.opMul, VM.opFdiv, VM.opMod, VM.opPow, VM.opCm, VM.opEq, VM.frz, VM.isD, VM.eqv, VM.isNon, VM.kdOf, VM.D0, VM.turn, List.map_cons, List.map_nil, List.replicate_succ, List.replicate_zero, List.cons_append, List.nil_append, List.getElem?_cons_zero, List.getElem?_cons_succ, List.set_cons_zero, List.set_cons_succ, Nat.reduceSub, VM.wipe, List.length_cons, List.length_nil, Nat.reduceAdd, List.length_map, xk, xg, hd, x0, xs]
    refine ⟨trivial, ?_⟩
    refine for_inv (fun rem2 ρ st2 => st2 = st' ∧ ∃ (a6 a7 : Option PV) (m : Nat), ρ = [some (formV ps), some (.lst (ps.map hd)), some (rl []), some (.lst ((ps.take pre.length).map fun x => itup x.2)), some (.int (pre.length : Nat)), some (ilst pa.2), a6, a7] ∧ rem2 = ((ps.drop (pre.length + 1)).drop m).map hd ∧ m ≤ (ps.drop (pre.length + 1)).length) ?_ ?_ _ _ _ ⟨rfl, _, _, 0, rfl, rfl, Nat.zero_le _⟩
    · rintro v rem2 ρ st2 ⟨rfl, a6, a7, m, rfl, hr, hm⟩
      refine ⟨trivial, fun D2 g1 g2 g3 g4 g5 => ?_⟩
      have hmlt : m < (ps.drop (pre.length + 1)).length := by
        refine Classical.byContradiction fun hn => ?_
        rw [List.drop_of_length_le (by omega)] at hr
        cases hr
      rw [List.drop_eq_getElem_cons hmlt, List.map_cons] at hr
      obtain ⟨rfl, rfl⟩ := List.cons.inj hr
      generalize hph : (ps.drop (pre.length + 1))[m] = ph
      have mph : ph ∈ ps := by rw [← hph]; exact List.mem_of_mem_drop (List.getElem_mem hmlt)
      have lt : pa.1 < ph.1 := by
        have e1 : ph = ps[pre.length + 1 + m]'(by rw [List.length_drop] at hmlt; omega) := by rw [← hph, List.getElem_drop]
        rw [e1, ← hpa]
        exact List.pairwise_iff_getElem.mp T.sorted _ _ hi (by rw [List.length_drop] at hmlt; omega) (by omega)
      obtain ⟨pp, b⟩ := ph
      obtain ⟨r1, r2, r3, r4, r5⟩ := T.row pp b mph
      have lrow := la _ _ mpa
      obtain ⟨q1, q2⟩ := FM.red _ _ _ _ mpa mph lt
      obtain ⟨x1, x2⟩ := ixv (v := pa.2) (at_ := pp) (by omega)
      obtain ⟨x3, x4⟩ := ixv (v := b) (at_ := pp) (by omega)
      simp only [VM.sNil, VM.sCons, VM.sSet, VM.sPar, VM.sSetIx, VM.setIx, VM.sExpr, VM.sRet, VM.sRetN, VM.sIf, VM.sBreak, VM.sCont, VM.sFor, VM.gName, VM.gTup, VM.gEach, VM.eVar, VM.eC, VM.eBin, VM.eNeg, VM.eCmp, VM.eChain, VM.tOf, VM.tCmp, VM.tChain, VM.tAnd, VM.tOr, VM.tNot, VM.tYes, VM.eTest, VM.eAnd, VM.eOr, VM.eNot, VM.eIf, VM.aNil, VM.aCons, VM.eLst, VM.eLstM, VM.eTup, VM.eCall, VM.eIx, VM.getIx, VM.eSl, VM.getSl, VM.iE, VM.iRange1, VM.iRange2, VM.iZip, VM.iRev, VM.eComp, VM.eCompM, VM.eAppend, VM.eInsert, VM.eB1, VM.fLen, VM.fAbs, VM.fInt, VM.fList, VM.fListM, VM.fTuple, VM.fSum, VM.fAll, VM.fAny, VM.fIsi, VM.bLen, VM.seqOf, VM.sq, VM.asL, VM.items, VM.isSeq, VM.truth, VM.opBin, VM.opAdd, VM.opSub, VM.opMul, VM.opFdiv, VM.opMod, VM.opPow, VM.opCm, VM.opEq, VM.frz, VM.isD, VM.eqv, VM.isNon, VM.kdOf, VM.D0, VM.turn, List.map_cons, List.map_nil, List.replicate_succ, List.replicate_zero, List.cons_append, List.nil_append, List.getElem?_cons_zero, List.getElem?_cons_succ, List.set_cons_zero, List.set_cons_succ, Nat.reduceSub, VM.wipe, List.length_cons, List.length_nil, Nat.reduceAdd, hd, x1, x2, x3, x4]
      refine ⟨trivial, by unfold DivOk; omega, ?_⟩
      have e0 : (nth pa.2 pp).fdiv (nth b pp) = 0 := by
        rw [Int.fdiv_eq_ediv_of_nonneg _ (by omega)]
        exact Int.ediv_eq_zero_of_lt q1 q2
      rw [e0]
      refine mn pa.2 b 0 _ _ _ (fun z mz => mulOk_of (a := H + 1) (b := 1) (Nat.lt_of_lt_of_le (r5 z mz) (Nat.pow_le_pow_right (by decide) (Nat.le_succ _))) (by decide) (by omega) (by decide) (by omega)) (by rw [lrow]; show _ ≤ 16777216; omega) ?_
      have l : pa.2.length = b.length := lrow.trans r2.symm
      have e1 : sub1 pa.2 b 0 = pa.2 := vext (sub1_len l) fun i _ => by rw [nth_sub1 l]; omega
      rw [e1]
      exact g4 _ _ ⟨rfl, some (.int (pp : Nat)), some (ilst b), m + 1, rfl, rfl, hmlt⟩
    · rintro ρ st2 ⟨rfl, a6, a7, m, rfl, hr, hm⟩
      refine ⟨trivial, ?_⟩
      simp only [VM.sNil, VM.sCons, VM.sSet, VM.sPar, VM.sSetIx, VM.setIx, VM.sExpr, VM.sRet, VM.sRetN, VM.sIf, VM.sBreak, VM.sCont, VM.sFor, VM.gName, VM.gTup, VM.gEach, VM.eVar, VM.eC, VM.eBin, VM.eNeg, VM.eCmp, VM.eChain, VM.tOf, VM.tCmp, VM.tChain, VM.tAnd, VM.tOr, VM.tNot, VM.tYes, VM.eTest, VM.eAnd, VM.eOr, VM.eNot, VM.eIf, VM.aNil, VM.aCons, VM.eLst, VM.eLstM, VM.eTup, VM.eCall, VM.eIx, VM.getIx, VM.eSl, VM.getSl, VM.iE, VM.iRange1, VM.iRange2, VM.iZip, VM.iRev, VM.eComp, VM.eCompM, VM.eAppend, VM.eInsert, VM.eB1, VM.fLen, VM.fAbs, VM.fInt, VM.fList, VM.fListM, VM.fTuple, VM.fSum, VM.fAll, VM.fAny, VM.fIsi, VM.bLen, VM.seqOf, VM.sq, VM.asL, VM.items, VM.isSeq, VM.truth, VM.opBin, VM.opAdd, VM.opSub, VM.opMul, VM.opFdiv, VM.opMod, VM.opPow, VM.opCm, VM.opEq, VM.frz, VM.isD, VM.eqv, VM.isNon, VM.kdOf, VM.D0, VM.turn, List.map_cons, List.map_nil, List.replicate_succ, List.replicate_zero, List.cons_append, List.nil_append, List.getElem?_cons_zero, List.getElem?_cons_succ, List.set_cons_zero, List.set_cons_succ, Nat.reduceSub, VM.wipe, List.length_cons, List.length_nil, Nat.reduceAdd, List.length_map]
      refine ⟨by decide, by rw [List.length_take]; show _ ≤ 16777216; omega, ?_⟩
      refine d4 _ _ ⟨rfl, some (.int (pre.length : Nat)), some (ilst pa.2), a6, a7, pre ++ [.int pre.length], ?_, by simpa using hp⟩
      rw [List.length_append, List.length_singleton, List.take_succ_eq_append_getElem hi, hpa]
      simp
  · rintro ρ st' ⟨rfl, a4, a5, a6, a7, pre, rfl, hp⟩
    rw [List.append_nil] at hp
    have hpl := range_pre hp
    refine ⟨trivial, ?_⟩
    simp only [VM.sNil, VM.sCons, VM.sSet, VM.sPar, VM.sSetIx, VM.setIx, VM.sExpr, VM.sRet, VM.sRetN, VM.sIf, VM.sBreak, VM.sCont, VM.sFor, VM.gName, VM.gTup, VM.gEach, VM.eVar, VM.eC, VM.eBin, VM.eNeg, VM.eCmp, VM.eChain, VM.tOf, VM.tCmp, VM.tChain, VM.tAnd, VM.tOr, VM.tNot, VM.tYes, VM.eTest, VM.eAnd, VM.eOr, VM.eNot, VM.eIf, VM.aNil, VM.aCons, VM.eLst, VM.eLstM, VM.eTup, VM.eCall, VM.eIx, VM.getIx, VM.eSl, VM.getSl, VM.iE, VM.iRange1, VM.iRange2, VM.iZip, VM.iRev, VM.eComp, VM.eCompM, VM.eAppend, VM.eInsert, VM.eB1, VM.fLen, VM.fAbs, VM.fInt, VM.fList, VM.fListM, VM.fTuple, VM.fSum, VM.fAll, VM.fAny, VM.fIsi, VM.bLen, VM.seqOf, VM.sq, VM.asL, VM.items, VM.isSeq, VM.truth, VM.opBin, VM.opAdd, VM.opSub, VM.opMul, VM.opFdiv, VM.opMod, VM.opPow, VM.opCm, VM.opEq, VM.frz, VM.isD, VM.eqv, VM.isNon, VM.kdOf, VM.D0, VM.turn, List.map_cons, List.map_nil, List.replicate_succ, List.replicate_zero, List.cons_append, List.nil_append, List.getElem?_cons_zero, List.getElem?_cons_succ, List.set_cons_zero, List.set_cons_succ, Nat.reduceSub, VM.wipe, List.length_cons, List.length_nil, Nat.reduceAdd]
    rw [hpl, List.take_length]
    exact hk
end VP
end
section
namespace VP
open VM ML
theorem zeros2 (w : Nat) : (List.replicate w [PV.int 0]).flatten = pvis (zv w) := by
  induction w with
  | zero => rfl
  | succ w ih => rw [List.replicate_succ, List.flatten_cons, ih]; rfl
theorem allInt_pvis : ∀ v : List Int, allInt (pvis v) = some v
  | [] => rfl
  | a :: v => by
    show (allInt (pvis v)).map (a :: ·) = _
    rw [allInt_pvis v]
    rfl
theorem fm_dot (u v : List Int) : (u.zip v).filterMap (fun p => some (PV.int (p.1 * p.2))) = pvis (List.zipWith (fun a b => a * b) u v) := by
  induction u generalizing v with
  | nil => rfl
  | cons a u ih =>
    cases v with
    | nil => rfl
    | cons b v => simp [pvis] at ih ⊢; exact ih v
theorem sum_bound : ∀ (l : List Int) (B : Nat), (∀ a ∈ l, a.natAbs ≤ B) → l.sum.natAbs ≤ l.length * B
  | [], B, _ => by simp
  | a :: l, B, h => by
    have h1 := sum_bound l B fun x m => h x (List.mem_cons_of_mem _ m)
    have h2 := h a (List.mem_cons_self ..)
    rw [List.sum_cons, List.length_cons, Nat.add_mul, Nat.one_mul]
    have := Int.natAbs_add_le a l.sum
    omega
theorem dot_bound {u fs : Vec} {w : Nat} (hu : Bb 10 u) (hf : Bb 10 fs) (hl : u.length = w) (hw : w ≤ 4) : (dot u fs).natAbs < 2 ^ 23 := by
  have h := sum_bound (List.zipWith (fun a b => a * b) u fs) (1024 * 1024) fun a m => by
    obtain ⟨i, hi, e⟩ := List.mem_iff_getElem.mp m
    rw [List.getElem_zipWith] at e
    rw [← e, Int.natAbs_mul]
    exact Nat.mul_le_mul (Nat.le_of_lt (hu _ (List.getElem_mem _))) (Nat.le_of_lt (hf _ (List.getElem_mem _)))
  have h2 : (List.zipWith (fun a b : Int => a * b) u fs).length ≤ 4 := by rw [List.length_zipWith]; omega
  have h3 := Nat.mul_le_mul_right (1024 * 1024) h2
  show ((List.zipWith (fun a b : Int => a * b) u fs).sum).natAbs < 8388608
  omega
/-- the sum of products, as the programs write it -/
theorem dot_comp {i1 i2 : Nat} {own : List Nat} {stay : Store → Prop} {ρ : Env} {st : Store} {k : List PV → Store → Prop} {u fs : Vec} (hst : stay st) (h12 : i1 ≠ i2) (l1 : i1 < ρ.length) (l2 : i2 < ρ.length) (hu : ∀ a ∈ u, ∀ b ∈ fs, MulOk a b) (hl : u.length ≤ SZ) (hk : k (pvis (List.zipWith (fun a b => a * b) u fs)) st) :
    compGo (gTup [gName i1, gName i2]) tYes (eBin .mul (eVar i1) (eVar i2)) own stay (List.zipWith (fun x y => PV.tup [x, y]) (pvis u) (pvis fs)) [] ρ st k := by
  rw [zip_ints]
  refine comp_of (fun p : Int × Int => PV.tup [.int p.1, .int p.2]) (fun p => some (.int (p.1 * p.2))) hst (u.zip fs) (fun p hp k' hk' => ?_) (by rw [List.length_zip]; omega) (by rw [fm_dot]; exact hk)
  have e1 : ((ρ.set i1 (some (PV.int p.1))).set i2 (some (PV.int p.2)))[i1]? = some (some (PV.int p.1)) := by rw [List.getElem?_set_ne (Ne.symm h12), List.getElem?_set_self l1]
  have e2 : ((ρ.set i1 (some (PV.int p.1))).set i2 (some (PV.int p.2)))[i2]? = some (some (PV.int p.2)) := List.getElem?_set_self (by rw [List.length_set]; exact l2)
  simp only [turn, gTup, gEach, gName, tYes, eBin, eVar, e1, e2, opBin, opMul, if_true, List.length_cons, List.length_nil]
  exact ⟨trivial, hu _ (List.of_mem_zip hp).1 _ (List.of_mem_zip hp).2, hk'⟩
def SpDiv (cs : CS) : Prop := ∀ (vv ff : PV) (vs : List Vec) (fs : Vec) (m : Int) (w : Nat) (st : Store) (k x : KV), sq st vv = some (vs.map itup) → sq st ff = some (pvis fs) → vs ≠ [] → Len w vs → (∀ v ∈ vs, Bb 10 v) → Bb 10 fs → w ≤ 4 → vs.length ≤ 4 → 0 ≤ m → m < 2 ^ 23 →
  (∀ ps, Form w (Tail 1 (Span (1 + w) (rowsK fs m w vs))) ps → (∀ p a, (p, a) ∈ ps → Bb 200000 a) → k (formV ps) st) → cs 23 [vv, ff, .int m] st k x
theorem rowsK_bits {fs : Vec} {m : Int} {w : Nat} {vs : List Vec} (hl : Len w vs) (hb : ∀ v ∈ vs, Bb 10 v) (hf : Bb 10 fs) (hw : w ≤ 4) (h0 : 0 ≤ m) (hm : m < 2 ^ 23) : ∀ r ∈ rowsK fs m w vs, Bb 23 r := fun r mr z hz => by
  have e23 : (2 : Nat) ^ 23 = 8388608 := by decide
  have e10 : (2 : Nat) ^ 10 = 1024 := by decide
  unfold rowsK at mr
  rcases List.mem_append.mp mr with h | h
  · obtain ⟨u, hu, rfl⟩ := List.mem_map.mp h
    rcases List.mem_cons.mp hz with rfl | hz
    · exact dot_bound (hb u hu) hf (hl u hu) hw
    · have := hb u hu z hz
      omega
  · split at h
    · rw [List.mem_singleton.mp h] at hz
      rcases List.mem_cons.mp hz with rfl | hz
      · rw [e23]; omega
      · have : z = 0 := List.eq_of_mem_replicate hz
        subst this
        decide
    · cases h
set_option maxHeartbeats 1000000 in
theorem div_at {FT : Nat → Option FD} {d : Nat} (hF : FT 23 = some ⟨3, 11, T_divisible⟩) (h1 : At FT d SpEch) (h2 : At FT d SpReduced) : At FT (d + 1) SpDiv := at_of (C := fun cs => SpEch cs ∧ SpReduced cs) hF (fun n hn => ⟨h1 n hn, h2 n hn⟩) fun cs cs' C go => by
  obtain ⟨ec, rd⟩ := C
  intro vv ff vs fs m w st k x hv hf hne hl hb hfb hw hn hm0 hm1 hk
  refine go _ _ _ _ rfl ?_
  obtain ⟨f1, f2, f3, f4⟩ := sq_facts hv
  rw [List.length_map] at f3
  have L := rowsK_len (fs := fs) (m := m) hl
  have B := rowsK_bits (m := m) hl hb hfb hw hm0 hm1
  simp only [T_divisible, VM.sNil, VM.sCons, VM.sSet, VM.sPar, VM.sSetIx, VM.setIx, VM.sExpr, VM.sRet, VM.sRetN, VM.sIf, VM.sBreak, VM.sCont, VM.sFor, VM.gName, VM.gTup, VM.gEach, VM.eVar, VM.eC, VM.eBin, VM.eNeg, VM.eCmp, VM.eChain, VM.tOf, VM.tCmp, VM.tChain, VM.tAnd, VM.tOr, VM.tNot, VM.tYes, VM.eTest, VM.eAnd, VM.eOr, VM.eNot, VM.eIf, VM.aNil, VM.aCons, VM.eLst, VM.eLstM, VM.eTup, VM.eCall, VM.eIx, VM.eSl, VM.iE, VM.iRange1, VM.iRange2, VM.iZip, VM.iRev, VM.eComp, VM.eCompM, VM.eAppend, VM.eInsert, VM.eB1, VM.fLen, VM.fAbs, VM.fInt, VM.fList, VM.fListM, VM.fTuple, VM.fSum, VM.fAll, VM.fAny, VM.fIsi, VM.opBin, VM.opAdd, VM.opSub, VM.opMul, VM.opFdiv, VM.opMod, VM.opPow, VM.opCm, VM.frz, VM.isD, VM.eqv, VM.isNon, VM.D0, VM.turn, List.map_cons, List.map_nil, List.replicate_succ, List.replicate_zero, List.cons_append, List.nil_append, List.getElem?_cons_zero, List.getElem?_cons_succ, List.set_cons_zero, List.set_cons_succ, Nat.reduceSub, VM.wipe, List.length_cons, List.length_nil, Nat.reduceAdd, f3, VM.opEq, VM.frz, VM.isD, VM.eqv]
  refine ⟨(by first | trivial | decide | simp [VM.isDL, VM.isD]), (by first | trivial | decide | simp [VM.isDL, VM.isD]), ?_⟩
  have hz : ((vs.length : Int) == 0) = false := by
    rw [beq_eq_false_iff_ne]
    cases vs with
    | nil => exact (hne rfl).elim
    | cons => simp; omega
  refine (if_neg (by rw [hz]; exact Bool.false_ne_true)).mpr' ?_
  simp only [f1, f2]
  refine ⟨by decide, trivial, ?_⟩
  refine for_inv (fun rem ρ st' => st' = st ∧ ∃ (a4 a5 a6 a7 a8 a9 a10 : Option PV) (n : Nat), ρ = [some vv, some ff, some (.int m), some (.lst (((vs.take n).map (aug fs)).map ilst)), a4, a5, a6, a7, a8, a9, a10] ∧ rem = (vs.drop n).map itup ∧ n ≤ vs.length) ?_ ?_ _ _ _ ⟨rfl, _, _, _, _, _, _, _, 0, rfl, rfl, Nat.zero_le _⟩
  · rintro v rem ρ st' ⟨rfl, a4, a5, a6, a7, a8, a9, a10, n, rfl, hr, hnl⟩
    refine ⟨stays_self _ _, fun D' d1 d2 d3 d4 d5 => ?_⟩
    have hlt : n < vs.length := by
      refine Classical.byContradiction fun hn => ?_
      rw [List.drop_of_length_le (by omega)] at hr
      cases hr
    rw [List.drop_eq_getElem_cons hlt, List.map_cons] at hr
    obtain ⟨rfl, rfl⟩ := List.cons.inj hr
    generalize hu : vs[n] = u
    have mu : u ∈ vs := by rw [← hu]; exact List.getElem_mem hlt
    have lu := hl u mu
    have sqt : sq st' (itup u) = some (pvis u) := rfl
    simp only [VM.sNil, VM.sCons, VM.sSet, VM.sPar, VM.sSetIx, VM.setIx, VM.sExpr, VM.sRet, VM.sRetN, VM.sIf, VM.sBreak, VM.sCont, VM.sFor, VM.gName, VM.gTup, VM.gEach, VM.eVar, VM.eC, VM.eBin, VM.eNeg, VM.eCmp, VM.eChain, VM.tOf, VM.tCmp, VM.tChain, VM.tAnd, VM.tOr, VM.tNot, VM.tYes, VM.eTest, VM.eAnd, VM.eOr, VM.eNot, VM.eIf, VM.aNil, VM.aCons, VM.eLst, VM.eLstM, VM.eTup, VM.eCall, VM.eIx, VM.eSl, VM.iE, VM.iRange1, VM.iRange2, VM.iZip, VM.iRev, VM.eComp, VM.eCompM, VM.eAppend, VM.eInsert, VM.eB1, VM.fLen, VM.fAbs, VM.fInt, VM.fList, VM.fListM, VM.fTuple, VM.fSum, VM.fAll, VM.fAny, VM.fIsi, VM.opBin, VM.opAdd, VM.opSub, VM.opMul, VM.opFdiv, VM.opMod, VM.opPow, VM.opCm, VM.frz, VM.isD, VM.eqv, VM.isNon, VM.D0, VM.turn, List.map_cons, List.map_nil, List.replicate_succ, List.replicate_zero, List.cons_append, List.nil_append, List.getElem?_cons_zero, List.getElem?_cons_succ, List.set_cons_zero, List.set_cons_succ, Nat.reduceSub, VM.wipe, List.length_cons, List.length_nil, Nat.reduceAdd, sqt, hf]
    refine dot_comp ⟨stays_self _ _, stays_self _ _⟩ (by decide) (by simp) (by simp) (fun a ha b hb' => mulOk_of (hb u mu a ha) (hfb b hb') (by decide) (by decide) (by decide)) (by rw [lu]; show _ ≤ 16777216; omega) ?_
    simp only [VM.sNil, VM.sCons, VM.sSet, VM.sPar, VM.sSetIx, VM.setIx, VM.sExpr, VM.sRet, VM.sRetN, VM.sIf, VM.sBreak, VM.sCont, VM.sFor, VM.gName, VM.gTup, VM.gEach, VM.eVar, VM.eC, VM.eBin, VM.eNeg, VM.eCmp, VM.eChain, VM.tOf, VM.tCmp, VM.tChain, VM.tAnd, VM.tOr, VM.tNot, VM.tYes, VM.eTest, VM.eAnd, VM.eOr, VM.eNot, VM.eIf, VM.aNil, VM.aCons, VM.eLst, VM.eLstM, VM.eTup, VM.eCall, VM.eIx, VM.getIx, VM.eSl, VM.getSl, VM.iE, VM.iRange1, VM.iRange2, VM.iZip, VM.iRev, VM.eComp, VM.eCompM, VM.eAppend, VM.eInsert, VM.eB1, VM.fLen, VM.fAbs, VM.fInt, VM.fList, VM.fListM, VM.fTuple, VM.fSum, VM.fAll, VM.fAny, VM.fIsi, VM.bLen, VM.seqOf, VM.sq, VM.asL, VM.items, VM.isSeq, VM.truth, VM.opBin, VM.opAdd, VM.opSub, VM.opMul, VM.opFdiv, VM.opMod, VM.opPow, VM.opCm, VM.opEq, VM.frz, VM.isD, VM.eqv, VM.isNon, VM.kdOf, VM.D0, VM.turn, List.map_cons, List.map_nil, List.replicate_succ, List.replicate_zero, List.cons_append, List.nil_append, List.getElem?_cons_zero, List.getElem?_cons_succ, List.set_cons_zero, List.set_cons_succ, Nat.reduceSub, VM.wipe, List.length_cons, List.length_nil, Nat.reduceAdd, allInt_pvis, itup]
    refine ⟨by decide, ?_⟩
    refine ⟨by rw [List.length_map, lu]; show 1 + w ≤ 16777216; omega, by decide, by rw [List.length_map, List.length_map, List.length_take]; show _ ≤ 16777216; omega, ?_⟩
    refine d4 _ _ ⟨rfl, some (itup u), some (.int (dot u fs)), a6, a7, a8, a9, a10, n + 1, ?_, rfl, hlt⟩
    rw [List.take_succ_eq_append_getElem hlt, hu, List.map_append, List.map_append]
    rfl
  · rintro ρ st' ⟨rfl, a4, a5, a6, a7, a8, a9, a10, n, rfl, hr, hnl⟩
    refine ⟨stays_self _ _, ?_⟩
    have hnn : n = vs.length := by
      have := congrArg List.length hr
      rw [List.length_map, List.length_drop] at this
      simp only [List.length_nil] at this
      omega
    subst hnn
    rw [List.take_length]
    -- what follows, the rows being whole
    have fin : ∀ (a3 : PV), a3 = .lst ((rowsK fs m w vs).map ilst) →
        (sCons (sSet (gTup [(gName 8), (gName 9)]) (eCall cs 9 (aCons (eVar 3) (aCons (eC (.int 1)) aNil))))
          (sRet (eCall cs 10 (aCons (eComp (iE (eVar 9)) (gName 10) tYes (eSl (eVar 10) (some (eC (.int 1))) none) [10]) aNil)))) (D0 k x) [some vv, some ff, some (.int m), some a3, a4, a5, a6, a7, a8, a9, a10] st' := by
      intro a3 e3
      subst e3
      have hrl : (rowsK fs m w vs).length ≤ 5 := by
        unfold rowsK
        rw [List.length_append, List.length_map]
        split <;> simp <;> omega
      have ef : ((rowsK fs m w vs).map fun r => (false, r)).map (·.2) = rowsK fs m w vs := by rw [List.map_map]; exact List.map_id' _
      have ee : ((rowsK fs m w vs).map fun r => (false, r)).map encV = (rowsK fs m w vs).map ilst := by rw [List.map_map]; rfl
      have x1 : ex 23 1 = 94 := by decide
      simp only [VM.sNil, VM.sCons, VM.sSet, VM.sPar, VM.sSetIx, VM.setIx, VM.sExpr, VM.sRet, VM.sRetN, VM.sIf, VM.sBreak, VM.sCont, VM.sFor, VM.gName, VM.gTup, VM.gEach, VM.eVar, VM.eC, VM.eBin, VM.eNeg, VM.eCmp, VM.eChain, VM.tOf, VM.tCmp, VM.tChain, VM.tAnd, VM.tOr, VM.tNot, VM.tYes, VM.eTest, VM.eAnd, VM.eOr, VM.eNot, VM.eIf, VM.aNil, VM.aCons, VM.eLst, VM.eLstM, VM.eTup, VM.eCall, VM.eIx, VM.eSl, VM.iE, VM.iRange1, VM.iRange2, VM.iZip, VM.iRev, VM.eComp, VM.eCompM, VM.eAppend, VM.eInsert, VM.eB1, VM.fLen, VM.fAbs, VM.fInt, VM.fList, VM.fListM, VM.fTuple, VM.fSum, VM.fAll, VM.fAny, VM.fIsi, VM.opBin, VM.opAdd, VM.opSub, VM.opMul, VM.opFdiv, VM.opMod, VM.opPow, VM.opCm, VM.frz, VM.isD, VM.eqv, VM.isNon, VM.D0, VM.turn, List.map_cons, List.map_nil, List.replicate_succ, List.replicate_zero, List.cons_append, List.nil_append, List.getElem?_cons_zero, List.getElem?_cons_succ, List.set_cons_zero, List.set_cons_succ, Nat.reduceSub, VM.wipe, List.length_cons, List.length_nil, Nat.reduceAdd]
      refine ec (.lst ((rowsK fs m w vs).map ilst)) ((rowsK fs m w vs).map fun r => (false, r)) (1 + w) 1 23 _ _ _ (by rw [ee]; rfl) rfl (stays_self _ _) (by rw [ef]; exact L) (by rw [ef]; exact B) (by omega) (by omega) (by rw [List.length_map]; omega) (by rw [x1]; decide) fun ps rest R => ?_
      rw [ef] at R
      obtain ⟨E, _, b2, _, l2⟩ := R
      rw [x1] at b2
      simp only [VM.sNil, VM.sCons, VM.sSet, VM.sPar, VM.sSetIx, VM.setIx, VM.sExpr, VM.sRet, VM.sRetN, VM.sIf, VM.sBreak, VM.sCont, VM.sFor, VM.gName, VM.gTup, VM.gEach, VM.eVar, VM.eC, VM.eBin, VM.eNeg, VM.eCmp, VM.eChain, VM.tOf, VM.tCmp, VM.tChain, VM.tAnd, VM.tOr, VM.tNot, VM.tYes, VM.eTest, VM.eAnd, VM.eOr, VM.eNot, VM.eIf, VM.aNil, VM.aCons, VM.eLst, VM.eLstM, VM.eTup, VM.eCall, VM.eIx, VM.eSl, VM.iE, VM.iRange1, VM.iRange2, VM.iZip, VM.iRev, VM.eComp, VM.eCompM, VM.eAppend, VM.eInsert, VM.eB1, VM.fLen, VM.fAbs, VM.fInt, VM.fList, VM.fListM, VM.fTuple, VM.fSum, VM.fAll, VM.fAny, VM.fIsi, VM.opBin, VM.opAdd, VM.opSub, VM.opMul, VM.opFdiv, VM.opMod, VM.opPow, VM.opCm, VM.frz, VM.isD, VM.eqv, VM.isNon, VM.D0, VM.turn, List.map_cons, List.map_nil, List.replicate_succ, List.replicate_zero, List.cons_append, List.nil_append, List.getElem?_cons_zero, List.getElem?_cons_succ, List.set_cons_zero, List.set_cons_succ, Nat.reduceSub, VM.wipe, List.length_cons, List.length_nil, Nat.reduceAdd, items, isSeq]
      refine ⟨trivial, trivial, comp_of ilst (fun r => some (ilst (r.drop 1))) (stays_self _ _) rest (fun r mr k' hk' => ?_) (by show _ ≤ 16777216; omega) ?_⟩
      · have es : slc (pvis r) (some 1) none = pvis (r.drop 1) := by
          have := slc_drop (pvis r) 1
          rw [show ((1 : Nat) : Int) = 1 from rfl] at this
          rw [this, ← List.map_drop]
        simp only [VM.sNil, VM.sCons, VM.sSet, VM.sPar, VM.sSetIx, VM.setIx, VM.sExpr, VM.sRet, VM.sRetN, VM.sIf, VM.sBreak, VM.sCont, VM.sFor, VM.gName, VM.gTup, VM.gEach, VM.eVar, VM.eC, VM.eBin, VM.eNeg, VM.eCmp, VM.eChain, VM.tOf, VM.tCmp, VM.tChain, VM.tAnd, VM.tOr, VM.tNot, VM.tYes, VM.eTest, VM.eAnd, VM.eOr, VM.eNot, VM.eIf, VM.aNil, VM.aCons, VM.eLst, VM.eLstM, VM.eTup, VM.eCall, VM.eIx, VM.getIx, VM.eSl, VM.getSl, VM.iE, VM.iRange1, VM.iRange2, VM.iZip, VM.iRev, VM.eComp, VM.eCompM, VM.eAppend, VM.eInsert, VM.eB1, VM.fLen, VM.fAbs, VM.fInt, VM.fList, VM.fListM, VM.fTuple, VM.fSum, VM.fAll, VM.fAny, VM.fIsi, VM.bLen, VM.seqOf, VM.sq, VM.asL, VM.items, VM.isSeq, VM.truth, VM.opBin, VM.opAdd, VM.opSub, VM.opMul, VM.opFdiv, VM.opMod, VM.opPow, VM.opCm, VM.opEq, VM.frz, VM.isD, VM.eqv, VM.isNon, VM.kdOf, VM.D0, VM.turn, List.map_cons, List.map_nil, List.replicate_succ, List.replicate_zero, List.cons_append, List.nil_append, List.getElem?_cons_zero, List.getElem?_cons_succ, List.set_cons_zero, List.set_cons_succ, Nat.reduceSub, VM.wipe, List.length_cons, List.length_nil, Nat.reduceAdd, ilst, es, if_true]
        exact hk'
      · have e4 : rest.filterMap (fun r => some (ilst (r.drop 1))) = (rest.map fun r => (false, r.drop 1)).map encV := by
          rw [show (fun r : Vec => some (ilst (r.drop 1))) = some ∘ (fun r => ilst (r.drop 1)) from rfl, List.filterMap_eq_map, List.map_map]
          rfl
        have e5 : (rest.map fun r => (false, r.drop 1)).map (·.2) = rest.map fun r => r.drop 1 := by rw [List.map_map]; rfl
        rw [e4]
        have x2 : ex 94 4 = 24234 := by decide
        have x3 : ex 94 w ≤ ex 94 4 := ex_le 94 hw
        refine rd (.lst ((rest.map fun r => (false, r.drop 1)).map encV)) (rest.map fun r => (false, r.drop 1)) w 94 _ _ _ rfl (by
            rw [e5]
            intro y my
            obtain ⟨r, mr, rfl⟩ := List.mem_map.mp my
            rw [List.length_drop, E.lr r mr]
            omega) (by
            rw [e5]
            intro y my
            obtain ⟨r, mr, rfl⟩ := List.mem_map.mp my
            exact fun a ha => b2 r mr a (List.mem_of_mem_drop ha)) (by omega) (by rw [List.length_map]; omega) ?_ fun ps2 F2 bits => ?_
        · have := Nat.mul_le_mul (show 2 * w + 10 ≤ 18 by omega) (show ex 94 w + 1 ≤ 24235 by omega)
          omega
        · rw [e5] at F2
          refine hk ps2 (F2.congr fun v => (tail_ech (span_lat L) .zero E v).symm) fun p a mp => (bits p a mp).mono ?_
          have := Nat.mul_le_mul (show w + 1 ≤ 5 by omega) (show ex 94 w + 1 ≤ 24235 by omega)
          omega
    by_cases hmp : 0 < m
    · obtain ⟨v0, vr, hv0⟩ : ∃ v0 vr, vs = v0 :: vr := by
        cases vs with
        | nil => exact (hne rfl).elim
        | cons v r => exact ⟨v, r, rfl⟩
      have l0 : v0.length = w := hl v0 (by rw [hv0]; exact List.mem_cons_self ..)
      have fin' := fin (.lst (((vs.map (aug fs)).map ilst) ++ [.lst (.int m :: pvis (zv w))])) (by
        unfold rowsK
        rw [if_pos hmp, List.map_append]
        rfl)
      simp only [sCons, sIf, sNil, tCmp, eVar, eC, opCm, List.getElem?_cons_zero, List.getElem?_cons_succ, hmp, decide_true, if_true]
      simp only [sSet, eBin, eLst, aCons, aNil, eB1, eIx, eVar, eC, gName, List.getElem?_cons_zero, List.getElem?_cons_succ, List.set_cons_zero, List.set_cons_succ, List.length_cons, List.length_nil]
      refine ⟨by decide, by decide, ?_⟩
      refine f4 0 0 (itup v0) _ (by rw [List.length_map, hv0, ixN (by omega) (by simp)]; rfl) (by rw [hv0]; rfl) ?_
      simp only [fLen, bLen, itup, List.length_map, l0, opBin, opMul, opAdd, asL, Int.toNat_natCast, zeros2, List.length_cons, List.length_nil]
      refine ⟨by omega, by omega, by show (0 + 1) * w ≤ 16777216; omega, by simp [zv]; show _ ≤ 16777216; omega, by decide, by show _ ≤ 16777216; omega, ?_⟩
      exact fin'
    · have fin' := fin (.lst ((vs.map (aug fs)).map ilst)) (by
        unfold rowsK
        rw [if_neg hmp, List.append_nil])
      simp only [sCons, sIf, sNil, tCmp, eVar, eC, opCm, List.getElem?_cons_zero, List.getElem?_cons_succ, hmp, decide_false, Bool.false_eq_true, if_false]
      exact fin'
end VP
end
section
namespace VP
open VM ML
def SpImp (cs : CS) : Prop := ∀ (vv ff : PV) (vs : List Vec) (fs : Vec) (m : Int) (w : Nat) (st : Store) (k x : KV), sq st vv = some (vs.map itup) → sq st ff = some (pvis fs) → Len w vs → (∀ v ∈ vs, Bb 10 v) → Bb 10 fs → w ≤ 4 → vs.length ≤ 4 → 0 ≤ m → m < 2 ^ 23 →
  (∀ ps st', Form w (Tail 1 (Span (1 + w) (rowsK fs m w vs))) ps → (∃ o1 o2 o3, st' = st ++ [o1] ++ [o2] ++ [o3]) → k (formV ps) st') → cs 24 [vv, ff, .int m, .int w] st k x
theorem imp_bound : ∀ w ≤ 5, ∀ m < 5, rc (bn 23 m) 23 w ≤ 9929 := by decide +kernel
/-- the rows behind the first column, without it -/
theorem tail_tri {w : Nat} {bs : Bs} (hw : bs.length = 1 + w) (ok : BsOk (1 + w) bs) : ∃ qs : Ps, qs.map (·.2) = (rws (bs.drop 1)).map (fun r => r.drop 1) ∧ qs.Pairwise (fun x y => x.1 < y.1) ∧ ∀ p a, (p, a) ∈ qs → p < w ∧ Z p a ∧ nth a p ≠ 0 := by
  refine ⟨(pairsOf 0 (bs.drop 1)).map fun x => (x.1, x.2.drop 1), ?_, ?_, fun p a m => ?_⟩
  · rw [List.map_map, ← pairs_snd (bs.drop 1) 0, List.map_map]
    rfl
  · rw [List.pairwise_map]
    exact pairs_sorted _ 0
  · obtain ⟨⟨q, b⟩, hm, e⟩ := List.mem_map.mp m
    cases e
    obtain ⟨i, e1, e2⟩ := mem_pairs.mp hm
    rw [Nat.zero_add] at e1
    subst e1
    rw [List.getElem?_drop] at e2
    obtain ⟨h1, h2, h3⟩ := ok _ b e2
    have hl := (List.getElem?_eq_some_iff.mp e2).1
    refine ⟨by omega, fun j hj => ?_, ?_⟩
    · rw [nth_drop]
      exact h2 _ (by omega)
    · rw [nth_drop]
      exact h3
set_option maxHeartbeats 1000000 in
theorem imp_at {FT : Nat → Option FD} {d : Nat} (hF : FT 24 = some ⟨4, 10, T__law_impose⟩) (h1 : At FT d SpBasis) (h2 : At FT d SpForm) : At FT (d + 1) SpImp := at_of (C := fun cs => SpBasis cs ∧ SpForm cs) hF (fun n hn => ⟨h1 n hn, h2 n hn⟩) fun cs cs' C go => by
  obtain ⟨bas, frm⟩ := C
  intro vv ff vs fs m w st k x hv hf hl hb hfb hw hn hm0 hm1 hk
  refine go _ _ _ _ rfl ?_
  obtain ⟨f1, f2, f3, f4⟩ := sq_facts hv
  have L := rowsK_len (fs := fs) (m := m) hl
  have B := rowsK_bits (m := m) hl hb hfb hw hm0 hm1
  simp only [T__law_impose, VM.sNil, VM.sCons, VM.sSet, VM.sPar, VM.sSetIx, VM.setIx, VM.sExpr, VM.sRet, VM.sRetN, VM.sIf, VM.sBreak, VM.sCont, VM.sFor, VM.gName, VM.gTup, VM.gEach, VM.eVar, VM.eC, VM.eBin, VM.eNeg, VM.eCmp, VM.eChain, VM.tOf, VM.tCmp, VM.tChain, VM.tAnd, VM.tOr, VM.tNot, VM.tYes, VM.eTest, VM.eAnd, VM.eOr, VM.eNot, VM.eIf, VM.aNil, VM.aCons, VM.eLst, VM.eLstM, VM.eTup, VM.eCall, VM.eIx, VM.eSl, VM.iE, VM.iRange1, VM.iRange2, VM.iZip, VM.iRev, VM.eComp, VM.eCompM, VM.eAppend, VM.eInsert, VM.eB1, VM.fLen, VM.fAbs, VM.fInt, VM.fList, VM.fListM, VM.fTuple, VM.fSum, VM.fAll, VM.fAny, VM.fIsi, VM.opBin, VM.opAdd, VM.opSub, VM.opMul, VM.opFdiv, VM.opMod, VM.opPow, VM.opCm, VM.frz, VM.isD, VM.eqv, VM.isNon, VM.D0, VM.turn, List.map_cons, List.map_nil, List.replicate_succ, List.replicate_zero, List.cons_append, List.nil_append, List.getElem?_cons_zero, List.getElem?_cons_succ, List.set_cons_zero, List.set_cons_succ, Nat.reduceSub, VM.wipe, List.length_cons, List.length_nil, Nat.reduceAdd, f1, f2]
  refine ⟨trivial, comp_of itup (fun u => some (ilst (aug fs u))) (stays_self _ _) vs (fun u mu k' hk' => ?_) (by show _ ≤ 16777216; omega) ?_⟩
  · have lu := hl u mu
    have sqt : sq st (itup u) = some (pvis u) := rfl
    simp only [VM.sNil, VM.sCons, VM.sSet, VM.sPar, VM.sSetIx, VM.setIx, VM.sExpr, VM.sRet, VM.sRetN, VM.sIf, VM.sBreak, VM.sCont, VM.sFor, VM.gName, VM.gTup, VM.gEach, VM.eVar, VM.eC, VM.eBin, VM.eNeg, VM.eCmp, VM.eChain, VM.tOf, VM.tCmp, VM.tChain, VM.tAnd, VM.tOr, VM.tNot, VM.tYes, VM.eTest, VM.eAnd, VM.eOr, VM.eNot, VM.eIf, VM.aNil, VM.aCons, VM.eLst, VM.eLstM, VM.eTup, VM.eCall, VM.eIx, VM.eSl, VM.iE, VM.iRange1, VM.iRange2, VM.iZip, VM.iRev, VM.eComp, VM.eCompM, VM.eAppend, VM.eInsert, VM.eB1, VM.fLen, VM.fAbs, VM.fInt, VM.fList, VM.fListM, VM.fTuple, VM.fSum, VM.fAll, VM.fAny, VM.fIsi, VM.opBin, VM.opAdd, VM.opSub, VM.opMul, VM.opFdiv, VM.opMod, VM.opPow, VM.opCm, VM.frz, VM.isD, VM.eqv, VM.isNon, VM.D0, VM.turn, List.map_cons, List.map_nil, List.replicate_succ, List.replicate_zero, List.cons_append, List.nil_append, List.getElem?_cons_zero, List.getElem?_cons_succ, List.set_cons_zero, List.set_cons_succ, Nat.reduceSub, VM.wipe, List.length_cons, List.length_nil, Nat.reduceAdd, sqt, hf]
    refine dot_comp ⟨stays_self _ _, stays_self _ _⟩ (by decide) (by simp) (by simp) (fun a ha b hb' => mulOk_of (hb u mu a ha) (hfb b hb') (by decide) (by decide) (by decide)) (by rw [lu]; show _ ≤ 16777216; omega) ?_
    simp only [VM.sNil, VM.sCons, VM.sSet, VM.sPar, VM.sSetIx, VM.setIx, VM.sExpr, VM.sRet, VM.sRetN, VM.sIf, VM.sBreak, VM.sCont, VM.sFor, VM.gName, VM.gTup, VM.gEach, VM.eVar, VM.eC, VM.eBin, VM.eNeg, VM.eCmp, VM.eChain, VM.tOf, VM.tCmp, VM.tChain, VM.tAnd, VM.tOr, VM.tNot, VM.tYes, VM.eTest, VM.eAnd, VM.eOr, VM.eNot, VM.eIf, VM.aNil, VM.aCons, VM.eLst, VM.eLstM, VM.eTup, VM.eCall, VM.eIx, VM.getIx, VM.eSl, VM.getSl, VM.iE, VM.iRange1, VM.iRange2, VM.iZip, VM.iRev, VM.eComp, VM.eCompM, VM.eAppend, VM.eInsert, VM.eB1, VM.fLen, VM.fAbs, VM.fInt, VM.fList, VM.fListM, VM.fTuple, VM.fSum, VM.fAll, VM.fAny, VM.fIsi, VM.bLen, VM.seqOf, VM.sq, VM.asL, VM.items, VM.isSeq, VM.truth, VM.opBin, VM.opAdd, VM.opSub, VM.opMul, VM.opFdiv, VM.opMod, VM.opPow, VM.opCm, VM.opEq, VM.frz, VM.isD, VM.eqv, VM.isNon, VM.kdOf, VM.D0, VM.turn, List.map_cons, List.map_nil, List.replicate_succ, List.replicate_zero, List.cons_append, List.nil_append, List.getElem?_cons_zero, List.getElem?_cons_succ, List.set_cons_zero, List.set_cons_succ, Nat.reduceSub, VM.wipe, List.length_cons, List.length_nil, Nat.reduceAdd, allInt_pvis, itup, if_true]
    exact ⟨by decide, by rw [List.length_map, lu]; show 1 + w ≤ 16777216; omega, hk'⟩
  have e1 : vs.filterMap (fun u => some (ilst (aug fs u))) = (vs.map (aug fs)).map ilst := by
    rw [show (fun u : Vec => some (ilst (aug fs u))) = some ∘ (fun u => ilst (aug fs u)) from rfl, List.filterMap_eq_map, List.map_map]
    rfl
  rw [e1]
  have fin : ∀ (st1 : Store) (a5 a6 a7 a8 a9 : Option PV), st1 = st ++ [.lst ((rowsK fs m w vs).map ilst)] →
      (sCons (sSet (gName 8) (eCall cs 13 (aCons (eVar 4) (aCons (eBin .add (eVar 3) (eC (.int 1))) aNil))))
        (sRet (eCall cs 15 (aCons (eComp (iE (eSl (eVar 8) (some (eC (.int 1))) none)) (gName 9) (tCmp .notN (eVar 9) (eC .non)) (eSl (eVar 9) (some (eC (.int 1))) none) [9]) (aCons (eVar 3) aNil))))) (D0 k x) [some vv, some ff, some (.int m), some (.int w), some (.ref st.length), a5, a6, a7, a8, a9] st1 := by
    intro st1 a5 a6 a7 a8 a9 e
    subst e
    have hrl : (rowsK fs m w vs).length ≤ 5 := by
      unfold rowsK
      rw [List.length_append, List.length_map]
      split <;> simp <;> omega
    have ef : ((rowsK fs m w vs).map fun r => (false, r)).map (·.2) = rowsK fs m w vs := by rw [List.map_map]; exact List.map_id' _
    have ee : ((rowsK fs m w vs).map fun r => (false, r)).map encV = (rowsK fs m w vs).map ilst := by rw [List.map_map]; rfl
    have hw1 : ((w : Int) + 1) = ((1 + w : Nat) : Int) := by omega
    simp only [VM.sNil, VM.sCons, VM.sSet, VM.sPar, VM.sSetIx, VM.setIx, VM.sExpr, VM.sRet, VM.sRetN, VM.sIf, VM.sBreak, VM.sCont, VM.sFor, VM.gName, VM.gTup, VM.gEach, VM.eVar, VM.eC, VM.eBin, VM.eNeg, VM.eCmp, VM.eChain, VM.tOf, VM.tCmp, VM.tChain, VM.tAnd, VM.tOr, VM.tNot, VM.tYes, VM.eTest, VM.eAnd, VM.eOr, VM.eNot, VM.eIf, VM.aNil, VM.aCons, VM.eLst, VM.eLstM, VM.eTup, VM.eCall, VM.eIx, VM.eSl, VM.iE, VM.iRange1, VM.iRange2, VM.iZip, VM.iRev, VM.eComp, VM.eCompM, VM.eAppend, VM.eInsert, VM.eB1, VM.fLen, VM.fAbs, VM.fInt, VM.fList, VM.fListM, VM.fTuple, VM.fSum, VM.fAll, VM.fAny, VM.fIsi, VM.opBin, VM.opAdd, VM.opSub, VM.opMul, VM.opFdiv, VM.opMod, VM.opPow, VM.opCm, VM.frz, VM.isD, VM.eqv, VM.isNon, VM.D0, VM.turn, List.map_cons, List.map_nil, List.replicate_succ, List.replicate_zero, List.cons_append, List.nil_append, List.getElem?_cons_zero, List.getElem?_cons_succ, List.set_cons_zero, List.set_cons_succ, Nat.reduceSub, VM.wipe, List.length_cons, List.length_nil, Nat.reduceAdd, hw1]
    refine bas (.ref st.length) ((rowsK fs m w vs).map fun r => (false, r)) (1 + w) 23 9929 _ _ _ (by rw [ee]; simp [sq, asL]) (by rw [ef]; exact L) (by rw [ef]; exact B) (by decide) (by omega) (by rw [ef]; exact .inl fun n hn' => imp_bound (1 + w) (by omega) n (by omega)) (by decide) fun bs hbl ok bB se => ?_
    rw [ef] at se
    have hj2 : ((st ++ [SO.lst ((rowsK fs m w vs).map ilst)]) ++ [SO.lst (bs.map encO)])[(st ++ [SO.lst ((rowsK fs m w vs).map ilst)]).length]? = some (.lst (bs.map encO)) := by simp
    have es : slc (bs.map encO) (some 1) none = (bs.drop 1).map encO := by
      have := slc_drop (bs.map encO) 1
      rw [show ((1 : Nat) : Int) = 1 from rfl] at this
      rw [this, ← List.map_drop]
    simp only [getSl, asL, hj2, es, items, isSeq]
    refine ⟨trivial, comp_of encO (fun o => match o with | none => none | some a => some (ilst (a.drop 1))) (stays_self _ _) (bs.drop 1) (fun o mo k' hk' => ?_) (by rw [List.length_drop]; show _ ≤ 16777216; omega) ?_⟩
    · cases o with
      | none => simpa [turn, gName, tCmp, eVar, eC, opCm, isNon, encO] using hk'
      | some a =>
        have ea : slc (pvis a) (some 1) none = pvis (a.drop 1) := by
          have := slc_drop (pvis a) 1
          rw [show ((1 : Nat) : Int) = 1 from rfl] at this
          rw [this, ← List.map_drop]
        simp only [turn, gName, tCmp, eVar, eC, opCm, isNon, encO, eSl, getSl, asL, ilst, ea, List.set_cons_zero, List.set_cons_succ, List.getElem?_cons_zero, List.getElem?_cons_succ, Bool.not_false, if_true]
        exact ⟨trivial, hk'⟩
    · have e6 : ∀ l : Bs, l.filterMap (fun o => match o with | none => none | some a => some (ilst (a.drop 1))) = (((rws l).map fun r => r.drop 1).map fun r => (false, r)).map encV := by
        intro l
        induction l with
        | nil => rfl
        | cons o l ih =>
          cases o with
          | none => simpa [rws] using ih
          | some a => simpa [rws, encV] using ih
      rw [e6]
      have e7 : (((rws (bs.drop 1)).map fun r => r.drop 1).map fun r => (false, r)).map (·.2) = (rws (bs.drop 1)).map fun r => r.drop 1 := by rw [List.map_map]; exact List.map_id' _
      obtain ⟨qs, q1, q2, q3⟩ := tail_tri hbl ok
      have hb9 : ML.hb 9929 w ≤ ML.hb 9929 4 := hb_mono 9929 hw
      have hb8 : ML.hb 9929 4 = 645449 := by decide
      refine frm (.lst ((((rws (bs.drop 1)).map fun r => r.drop 1).map fun r => (false, r)).map encV)) (((rws (bs.drop 1)).map fun r => r.drop 1).map fun r => (false, r)) w 9929 9929 _ _ _ rfl (by
          rw [e7]
          intro y my
          obtain ⟨r, mr, rfl⟩ := List.mem_map.mp my
          obtain ⟨i, _, e⟩ := mem_rws_drop.mp mr
          rw [List.length_drop, (ok i r e).1]
          omega) (by
          rw [e7]
          intro y my
          obtain ⟨r, mr, rfl⟩ := List.mem_map.mp my
          obtain ⟨i, _, e⟩ := mem_rws_drop.mp mr
          exact fun a ha => bB i r e a (List.mem_of_mem_drop ha)) (by decide) (by omega) ⟨by rw [e7]; exact .inr ⟨Nat.le_refl _, qs, q1, q2, q3⟩, by decide, ?_⟩ fun ps o F2 _ => ?_
      · rw [hb8] at hb9
        have := Nat.mul_le_mul (show w + 1 ≤ 5 by omega) (show ML.hb 9929 w + 1 ≤ 645450 by omega)
        omega
      · rw [e7] at F2
        refine hk ps _ (F2.congr fun v => ?_) ⟨_, _, _, rfl⟩
        exact (tail_bs ok v).symm.trans (show Span (1 + w) (rws bs) (pad 1 v) ↔ Span (1 + w) (rowsK fs m w vs) (pad 1 v) from (se.iff L ok.len (pad 1 v)).symm)
  have hj : (st ++ [SO.lst ((vs.map (aug fs)).map ilst)])[st.length]? = some (.lst ((vs.map (aug fs)).map ilst)) := by simp
  by_cases hmp : 0 < m
  · simp only [sCons, sIf, sNil, tCmp, eVar, eC, opCm, List.getElem?_cons_zero, List.getElem?_cons_succ, hmp, decide_true, if_true]
    simp only [sExpr, eAppend, eBin, eLst, aCons, aNil, eVar, eC, asL, hj, opBin, opMul, opAdd, Int.toNat_natCast, zeros2, List.getElem?_cons_zero, List.getElem?_cons_succ, List.length_cons, List.length_nil, List.length_map, app_set]
    refine ⟨rfl, by decide, by decide, by omega, by omega, by show (0 + 1) * w ≤ 16777216; omega, by simp [zv]; show _ ≤ 16777216; omega, by show _ < 16777216; omega, ?_⟩
    exact fin _ none none none none none (by
      unfold rowsK
      rw [if_pos hmp, List.map_append]
      rfl)
  · simp only [sCons, sIf, sNil, tCmp, eVar, eC, opCm, List.getElem?_cons_zero, List.getElem?_cons_succ, hmp, decide_false, Bool.false_eq_true, if_false]
    exact fin _ none none none none none (by
      unfold rowsK
      rw [if_neg hmp, List.append_nil])
end VP
end
section
namespace VP
open VM ML
/-- a list of draws, the bag at slot s -/
theorem comp_draw2 {cs : CS} {f r c B : Nat} {i s : Nat} {own : List Nat} {stay : Store → Prop} {ρ : Env} {st : Store} {b : Nat} {k : List PV → Store → Prop} (hf : ∀ st, Dr cs f [] r c st fun v _ => ∃ a : Int, v = .int a ∧ a.natAbs ≤ B) (hst : ∀ st, stay st) (xs : List PV) (hi : i ≠ s) (hρ : ρ[s]? = some (some (.ref r)))
    (hl : xs.length ≤ SZ) (hb : Bag st r (b + xs.length * c)) (hk : ∀ (v : List Int) st', v.length = xs.length → (∀ a ∈ v, a.natAbs ≤ B) → Bag st' r b → Keep r st st' → k (pvis v) st') :
    compGo (gName i) tYes (eCall cs f (aCons (eVar s) aNil)) own stay xs [] ρ st k := by
  refine comp_inv (fun rem acc st' => ∃ v : List Int, acc = pvis v ∧ v.length + rem.length = xs.length ∧ (∀ a ∈ v, a.natAbs ≤ B) ∧ Bag st' r (b + rem.length * c) ∧ Keep r st st') ?_ ?_ xs [] st ⟨[], rfl, by simp, by simp, hb, Keep.refl⟩
  · rintro v rem acc st' ⟨u, rfl, h2, h3, h4, h5⟩
    refine ⟨hst _, fun k' hk' => ?_⟩
    have e0 : (ρ.set i (some v))[s]? = some (some (.ref r)) := by rw [List.getElem?_set_ne hi]; exact hρ
    simp only [turn, gName, tYes, eCall, aCons, aNil, eVar, e0, if_true]
    rw [List.length_cons] at h2 h4
    refine hf st' (b + rem.length * c) _ _ (by rw [Nat.add_mul, Nat.one_mul, ← Nat.add_assoc] at h4; exact h4) fun y st2 hy hb2 k2 => ?_
    obtain ⟨a, rfl, ha⟩ := hy
    refine hk' _ _ ⟨by simp [pvis]; omega, u ++ [a], by simp [pvis], by rw [List.length_append, List.length_singleton]; omega, fun z hz => ?_, hb2, h5.trans k2⟩
    rcases List.mem_append.mp hz with hz | hz
    · exact h3 z hz
    · rw [List.mem_singleton.mp hz]; exact ha
  · rintro acc st' ⟨u, rfl, h2, h3, h4, h5⟩
    exact ⟨hst _, hk u st' (by simpa using h2) h3 (h4.le (by simp)) h5⟩
/-- rows of draws -/
theorem comp_rows {cs : CS} {f r c B w : Nat} {i1 i2 s jw : Nat} {own : List Nat} {stay : Store → Prop} {ρ : Env} {st : Store} {b : Nat} {k : List PV → Store → Prop} (hf : ∀ st, Dr cs f [] r c st fun v _ => ∃ a : Int, v = .int a ∧ a.natAbs ≤ B) (hst : ∀ st, stay st) (xs : List PV)
    (h1 : i1 ≠ s) (h2 : i2 ≠ s) (h3 : i1 ≠ jw) (hρ : ρ[s]? = some (some (.ref r))) (hw : ρ[jw]? = some (some (.int (w : Nat)))) (hws : w ≤ 1000)
    (hl : xs.length ≤ 1000) (hb : Bag st r (b + xs.length * (w * c))) (hk : ∀ (vs : List Vec) st', vs.length = xs.length → Rows w B vs → Bag st' r b → Keep r st st' → k (vs.map itup) st') :
    compGo (gName i1) tYes (eB1 fTuple (eComp (iRange1 (eVar jw)) (gName i2) tYes (eCall cs f (aCons (eVar s) aNil)) [i2])) own stay xs [] ρ st k := by
  refine comp_inv (fun rem acc st' => ∃ vs : List Vec, acc = vs.map itup ∧ vs.length + rem.length = xs.length ∧ Rows w B vs ∧ Bag st' r (b + rem.length * (w * c)) ∧ Keep r st st') ?_ ?_ xs [] st ⟨[], rfl, by simp, fun _ m => (nomatch m), hb, Keep.refl⟩
  · rintro v rem acc st' ⟨vs, rfl, g2, g3, g4, g5⟩
    refine ⟨hst _, fun k' hk' => ?_⟩
    have e0 : (ρ.set i1 (some v))[s]? = some (some (.ref r)) := by rw [List.getElem?_set_ne h1]; exact hρ
    have e1 : (ρ.set i1 (some v))[jw]? = some (some (.int (w : Nat))) := by rw [List.getElem?_set_ne h3]; exact hw
    simp only [turn, gName, tYes, eB1, eComp, iRange1, eVar, e1, if_true, Int.toNat_natCast]
    rw [List.length_cons] at g2 g4
    refine ⟨by unfold i62; omega, ?_⟩
    have e2 : (wipe (ρ.set i1 (some v)) [i2])[s]? = some (some (.ref r)) := by
      show ((ρ.set i1 (some v)).set i2 none)[s]? = _
      rw [List.getElem?_set_ne h2]
      exact e0
    refine comp_draw2 (b := b + rem.length * (w * c)) hf (fun _ => trivial) _ h2 e2 (by rw [range_len]; show _ ≤ 16777216; omega) (by rw [range_len]; rw [Nat.add_mul, Nat.one_mul, ← Nat.add_assoc] at g4; exact g4) fun u st2 hlu hB hb2 k2 => ?_
    rw [range_len] at hlu
    simp only [fTuple, seqOf, asL]
    refine hk' _ _ ⟨by rw [List.length_map]; show _ < 16777216; omega, vs ++ [u], by simp, by rw [List.length_append, List.length_singleton]; omega, fun z hz => ?_, hb2, g5.trans k2⟩
    rcases List.mem_append.mp hz with hz | hz
    · exact g3 z hz
    · rw [List.mem_singleton.mp hz]; exact ⟨hlu, hB⟩
  · rintro acc st' ⟨vs, rfl, g2, g3, g4, g5⟩
    exact ⟨hst _, hk vs st' (by simpa using g2) g3 (g4.le (by simp)) g5⟩
end VP
end
section
namespace VP
open VM ML
def SpMeet (cs : CS) : Prop := ∀ (vv uu : PV) (vs us : List Vec) (w : Nat) (st : Store) (k x : KV), sq st vv = some (vs.map itup) → sq st uu = some (us.map itup) → vs ≠ [] → us ≠ [] → Len w vs → Len w us → (∀ v ∈ vs, Bb 6 v) → (∀ v ∈ us, Bb 6 v) → w ≤ 4 → vs.length ≤ 20 → us.length ≤ 20 →
  (∀ ps, Form w (Meet w vs us) ps → (∀ p a, (p, a) ∈ ps → Bb 2200000 a) → k (formV ps) st) → cs 19 [vv, uu] st k x
/-- with an empty list -/
def SpMeet0 (cs : CS) : Prop := ∀ (vv uu : PV) (vs us : List PV) (st : Store) (k x : KV), sq st vv = some vs → sq st uu = some us → vs = [] ∨ us = [] → k (.lst []) st → cs 19 [vv, uu] st k x
theorem meetR_bits {e w : Nat} {vs us : List Vec} (h1 : ∀ v ∈ vs, Bb e v) (h2 : ∀ v ∈ us, Bb e v) : ∀ r ∈ meetR w vs us, Bb e r := fun r m a ha => by
  rcases List.mem_append.mp m with m | m
  · obtain ⟨v, hv, rfl⟩ := List.mem_map.mp m
    rcases List.mem_append.mp ha with ha | ha <;> exact h1 v hv a ha
  · obtain ⟨v, hv, rfl⟩ := List.mem_map.mp m
    rcases List.mem_append.mp ha with ha | ha
    · exact h2 v hv a ha
    · have : a = 0 := List.eq_of_mem_replicate ha
      subst this
      exact Nat.two_pow_pos _
theorem pvis_app (u v : Vec) : pvis u ++ pvis v = pvis (u ++ v) := by simp [pvis]
theorem slc_ints (r : Vec) (d : Nat) : slc (pvis r) (some (d : Int)) none = pvis (r.drop d) := by
  rw [slc_drop, ← List.map_drop]
/-- rows written twice -/
theorem comp_dup {i : Nat} {own : List Nat} {stay : Store → Prop} {ρ : Env} {st : Store} {k : List PV → Store → Prop} {vs : List Vec} {w : Nat} (hst : stay st) (hi : i < ρ.length) (hl : Len w vs) (hw : w ≤ 1000) (hn : vs.length ≤ 1000) (hk : k ((vs.map fun v => v ++ v).map ilst) st) :
    compGo (gName i) tYes (eBin .add (eB1 fList (eVar i)) (eB1 fList (eVar i))) own stay (vs.map itup) [] ρ st k := by
  refine comp_of itup (fun v => some (ilst (v ++ v))) hst vs (fun v m k' hk' => ?_) (by show _ ≤ 16777216; omega) ?_
  · have e1 : (ρ.set i (some (itup v)))[i]? = some (some (itup v)) := List.getElem?_set_self hi
    have lv := hl v m
    simp only [turn, gName, tYes, eBin, eB1, eVar, e1, fList, seqOf, asL, opBin, opAdd, if_true, List.length_map, lv, pvis_app]
    exact ⟨by show _ ≤ 16777216; omega, hk'⟩
  · rw [show (fun v : Vec => some (ilst (v ++ v))) = some ∘ (fun v => ilst (v ++ v)) from rfl, List.filterMap_eq_map]
    rw [List.map_map] at hk
    exact hk
theorem comp_front {i j : Nat} {own : List Nat} {stay : Store → Prop} {ρ : Env} {st : Store} {k : List PV → Store → Prop} {vs : List Vec} {w : Nat} (hst : stay st) (hi : i < ρ.length) (hij : i ≠ j) (hj : ρ[j]? = some (some (.int (w : Nat)))) (hl : Len w vs) (hw : w ≤ 1000) (hn : vs.length ≤ 1000) (hk : k ((vs.map fun v => v ++ zv w).map ilst) st) :
    compGo (gName i) tYes (eBin .add (eB1 fList (eVar i)) (eBin .mul (eLst (aCons (eC (.int 0)) aNil)) (eVar j))) own stay (vs.map itup) [] ρ st k := by
  refine comp_of itup (fun v => some (ilst (v ++ zv w))) hst vs (fun v m k' hk' => ?_) (by show _ ≤ 16777216; omega) ?_
  · have e1 : (ρ.set i (some (itup v)))[i]? = some (some (itup v)) := List.getElem?_set_self hi
    have e2 : (ρ.set i (some (itup v)))[j]? = some (some (.int (w : Nat))) := by rw [List.getElem?_set_ne hij]; exact hj
    have lv := hl v m
    simp only [turn, gName, tYes, eBin, eB1, eVar, e1, e2, eLst, aCons, aNil, eC, fList, seqOf, asL, opBin, opAdd, opMul, if_true, List.length_map, List.length_cons, List.length_nil, lv, Int.toNat_natCast, zeros2, pvis_app]
    refine ⟨by decide, by omega, by omega, by show (0 + 1) * w ≤ 16777216; omega, ?_, hk'⟩
    show _ ≤ 16777216
    simp [zv]
    omega
  · rw [show (fun v : Vec => some (ilst (v ++ zv w))) = some ∘ (fun v => ilst (v ++ zv w)) from rfl, List.filterMap_eq_map]
    rw [List.map_map] at hk
    exact hk
theorem meetR_enc (w : Nat) (vs us : List Vec) : (vs.map fun v => v ++ v).map ilst ++ (us.map fun v => v ++ zv w).map ilst = (meetR w vs us).map ilst := by unfold meetR; rw [List.map_append]
theorem len_ne {vs : List Vec} (h : vs ≠ []) : (((vs.map itup).length : Int) == 0) = false := by
  rw [beq_eq_false_iff_ne]
  cases vs with
  | nil => exact (h rfl).elim
  | cons => simp; omega
set_option maxHeartbeats 1000000 in
theorem meet_at {FT : Nat → Option FD} {d : Nat} (hF : FT 19 = some ⟨2, 8, T_meet⟩) (h1 : At FT d SpEch) (h2 : At FT d SpReduced) : At FT (d + 1) SpMeet := at_of (C := fun cs => SpEch cs ∧ SpReduced cs) hF (fun n hn => ⟨h1 n hn, h2 n hn⟩) fun cs cs' C go => by
  obtain ⟨ec, rd⟩ := C
  intro vv uu vs us w st k x hv hu hvn hun hl hlu hb hbu hw hn hnu hk
  refine go _ _ _ _ rfl ?_
  obtain ⟨f1, f2, f3, f4⟩ := sq_facts hv
  obtain ⟨g1, g2, g3, g4⟩ := sq_facts hu
  have L := meet_len hl hlu
  have B := meetR_bits (w := w) hb hbu
  obtain ⟨v0, vr, hv0⟩ : ∃ v0 vr, vs = v0 :: vr := by
    cases vs with
    | nil => exact (hvn rfl).elim
    | cons v r => exact ⟨v, r, rfl⟩
  have l0 : v0.length = w := hl v0 (by rw [hv0]; exact List.mem_cons_self ..)
  simp only [T_meet, VM.sNil, VM.sCons, VM.sSet, VM.sPar, VM.sSetIx, VM.setIx, VM.sExpr, VM.sRet, VM.sRetN, VM.sIf, VM.sBreak, VM.sCont, VM.sFor, VM.gName, VM.gTup, VM.gEach, VM.eVar, VM.eC, VM.eBin, VM.eNeg, VM.eCmp, VM.eChain, VM.tOf, VM.tCmp, VM.tChain, VM.tAnd, VM.tOr, VM.tNot, VM.tYes, VM.eTest, VM.eAnd, VM.eOr, VM.eNot, VM.eIf, VM.aNil, VM.aCons, VM.eLst, VM.eLstM, VM.eTup, VM.eCall, VM.eIx, VM.eSl, VM.iE, VM.iRange1, VM.iRange2, VM.iZip, VM.iRev, VM.eComp, VM.eCompM, VM.eAppend, VM.eInsert, VM.eB1, VM.fLen, VM.fAbs, VM.fInt, VM.fList, VM.fListM, VM.fTuple, VM.fSum, VM.fAll, VM.fAny, VM.fIsi, VM.opBin, VM.opAdd, VM.opSub, VM.opMul, VM.opFdiv, VM.opMod, VM.opPow, VM.opCm, VM.frz, VM.isD, VM.eqv, VM.isNon, VM.D0, VM.turn, List.map_cons, List.map_nil, List.replicate_succ, List.replicate_zero, List.cons_append, List.nil_append, List.getElem?_cons_zero, List.getElem?_cons_succ, List.set_cons_zero, List.set_cons_succ, Nat.reduceSub, VM.wipe, List.length_cons, List.length_nil, Nat.reduceAdd, f3, g3, VM.opEq, VM.frz, VM.isD, VM.eqv, len_ne hvn, len_ne hun, Bool.false_eq_true, if_false]
  refine ⟨trivial, trivial, trivial, trivial, ?_⟩
  refine f4 0 0 (itup v0) _ (by rw [List.length_map, hv0, ixN (by omega) (by simp)]; rfl) (by rw [hv0]; rfl) ?_
  simp only [bLen, itup, List.length_map, l0, f1, f2, List.set_cons_zero, List.set_cons_succ]
  refine ⟨trivial, comp_dup (stays_self _ _) (by simp) hl (by omega) (by omega) ?_⟩
  simp only [g1, g2]
  refine ⟨trivial, comp_front (w := w) (stays_self _ _) (by simp) (by decide) rfl hlu (by omega) (by omega) ?_⟩
  simp only [asL, meetR_enc]
  have hrl : (meetR w vs us).length ≤ 40 := by
    unfold meetR
    rw [List.length_append, List.length_map, List.length_map]
    omega
  refine ⟨by simp only [List.length_map]; show _ ≤ 16777216; omega, ?_⟩
  have ef : ((meetR w vs us).map fun r => (false, r)).map (·.2) = meetR w vs us := by rw [List.map_map]; exact List.map_id' _
  have ee : ((meetR w vs us).map fun r => (false, r)).map encV = (meetR w vs us).map ilst := by rw [List.map_map]; rfl
  have x1 : ex 6 w ≤ ex 6 4 := ex_le 6 hw
  have x2 : ex 6 4 = 1706 := by decide
  refine ec (.lst ((meetR w vs us).map ilst)) ((meetR w vs us).map fun r => (false, r)) (w + w) w 6 _ _ _ (by rw [ee]; rfl) rfl (stays_self _ _) (by rw [ef]; exact L) (by rw [ef]; exact B) (by omega) (by omega) (by rw [List.length_map]; omega) (by omega) fun ps rest R => ?_
  rw [ef] at R
  obtain ⟨E, _, b2, _, l2⟩ := R
  simp only [VM.sNil, VM.sCons, VM.sSet, VM.sPar, VM.sSetIx, VM.setIx, VM.sExpr, VM.sRet, VM.sRetN, VM.sIf, VM.sBreak, VM.sCont, VM.sFor, VM.gName, VM.gTup, VM.gEach, VM.eVar, VM.eC, VM.eBin, VM.eNeg, VM.eCmp, VM.eChain, VM.tOf, VM.tCmp, VM.tChain, VM.tAnd, VM.tOr, VM.tNot, VM.tYes, VM.eTest, VM.eAnd, VM.eOr, VM.eNot, VM.eIf, VM.aNil, VM.aCons, VM.eLst, VM.eLstM, VM.eTup, VM.eCall, VM.eIx, VM.eSl, VM.iE, VM.iRange1, VM.iRange2, VM.iZip, VM.iRev, VM.eComp, VM.eCompM, VM.eAppend, VM.eInsert, VM.eB1, VM.fLen, VM.fAbs, VM.fInt, VM.fList, VM.fListM, VM.fTuple, VM.fSum, VM.fAll, VM.fAny, VM.fIsi, VM.opBin, VM.opAdd, VM.opSub, VM.opMul, VM.opFdiv, VM.opMod, VM.opPow, VM.opCm, VM.frz, VM.isD, VM.eqv, VM.isNon, VM.D0, VM.turn, List.map_cons, List.map_nil, List.replicate_succ, List.replicate_zero, List.cons_append, List.nil_append, List.getElem?_cons_zero, List.getElem?_cons_succ, List.set_cons_zero, List.set_cons_succ, Nat.reduceSub, VM.wipe, List.length_cons, List.length_nil, Nat.reduceAdd, items, isSeq]
  refine ⟨trivial, trivial, comp_of ilst (fun r => some (ilst (r.drop w))) (stays_self _ _) rest (fun r mr k' hk' => ?_) (by show _ ≤ 16777216; omega) ?_⟩
  · simp only [VM.sNil, VM.sCons, VM.sSet, VM.sPar, VM.sSetIx, VM.setIx, VM.sExpr, VM.sRet, VM.sRetN, VM.sIf, VM.sBreak, VM.sCont, VM.sFor, VM.gName, VM.gTup, VM.gEach, VM.eVar, VM.eC, VM.eBin, VM.eNeg, VM.eCmp, VM.eChain, VM.tOf, VM.tCmp, VM.tChain, VM.tAnd, VM.tOr, VM.tNot, VM.tYes, VM.eTest, VM.eAnd, VM.eOr, VM.eNot, VM.eIf, VM.aNil, VM.aCons, VM.eLst, VM.eLstM, VM.eTup, VM.eCall, VM.eIx, VM.getIx, VM.eSl, VM.getSl, VM.iE, VM.iRange1, VM.iRange2, VM.iZip, VM.iRev, VM.eComp, VM.eCompM, VM.eAppend, VM.eInsert, VM.eB1, VM.fLen, VM.fAbs, VM.fInt, VM.fList, VM.fListM, VM.fTuple, VM.fSum, VM.fAll, VM.fAny, VM.fIsi, VM.bLen, VM.seqOf, VM.sq, VM.asL, VM.items, VM.isSeq, VM.truth, VM.opBin, VM.opAdd, VM.opSub, VM.opMul, VM.opFdiv, VM.opMod, VM.opPow, VM.opCm, VM.opEq, VM.frz, VM.isD, VM.eqv, VM.isNon, VM.kdOf, VM.D0, VM.turn, List.map_cons, List.map_nil, List.replicate_succ, List.replicate_zero, List.cons_append, List.nil_append, List.getElem?_cons_zero, List.getElem?_cons_succ, List.set_cons_zero, List.set_cons_succ, Nat.reduceSub, VM.wipe, List.length_cons, List.length_nil, Nat.reduceAdd, ilst, slc_ints, if_true]
    exact hk'
  · have e4 : rest.filterMap (fun r => some (ilst (r.drop w))) = (rest.map fun r => (false, r.drop w)).map encV := by
      rw [show (fun r : Vec => some (ilst (r.drop w))) = some ∘ (fun r => ilst (r.drop w)) from rfl, List.filterMap_eq_map, List.map_map]
      rfl
    have e5 : (rest.map fun r => (false, r.drop w)).map (·.2) = rest.map fun r => r.drop w := by rw [List.map_map]; rfl
    rw [e4]
    have x4 : ex 1706 4 = 436906 := by decide
    have x3 : ex 1706 w ≤ ex 1706 4 := ex_le 1706 hw
    refine rd (.lst ((rest.map fun r => (false, r.drop w)).map encV)) (rest.map fun r => (false, r.drop w)) w 1706 _ _ _ rfl (by
        rw [e5]
        intro y my
        obtain ⟨r, mr, rfl⟩ := List.mem_map.mp my
        rw [List.length_drop, E.lr r mr]
        omega) (by
        rw [e5]
        intro y my
        obtain ⟨r, mr, rfl⟩ := List.mem_map.mp my
        exact fun a ha => (b2 r mr).mono (by omega) a (List.mem_of_mem_drop ha)) (by omega) (by rw [List.length_map]; omega) ?_ fun ps2 F2 bits => ?_
    · have := Nat.mul_le_mul (show 2 * w + 10 ≤ 18 by omega) (show ex 1706 w + 1 ≤ 436907 by omega)
      omega
    · rw [e5] at F2
      refine hk ps2 (F2.congr fun v => (tail_ech (span_lat L) .zero E v).symm.trans (tail_meet hl hlu v)) fun p a mp => (bits p a mp).mono ?_
      have := Nat.mul_le_mul (show w + 1 ≤ 5 by omega) (show ex 1706 w + 1 ≤ 436907 by omega)
      omega
theorem meet0_at {FT : Nat → Option FD} (hF : FT 19 = some ⟨2, 8, T_meet⟩) : At FT 1 SpMeet0 := at_of (C := fun _ => True) hF (fun _ _ => trivial) fun cs cs' C go => by
  intro vv uu vs us st k x hv hu h hk
  refine go _ _ _ _ rfl ?_
  obtain ⟨f1, f2, f3, f4⟩ := sq_facts hv
  obtain ⟨g1, g2, g3, g4⟩ := sq_facts hu
  simp only [T_meet, sCons, sIf, tOr, tCmp, eB1, eVar, eC, List.map_cons, List.map_nil, List.cons_append, List.getElem?_cons_zero, List.getElem?_cons_succ, fLen, f3, g3, opCm, opEq, frz, isD, eqv]
  refine ⟨trivial, trivial, ?_⟩
  by_cases h1 : vs = []
  · subst h1
    exact ⟨by decide, hk⟩
  · have h2 : us = [] := h.resolve_left h1
    subst h2
    have e : ((vs.length : Int) == 0) = false := by
      rw [beq_eq_false_iff_ne]
      cases vs with
      | nil => exact (h1 rfl).elim
      | cons => simp; omega
    refine (if_neg (by rw [e]; exact Bool.false_ne_true)).mpr' ⟨trivial, trivial, by decide, hk⟩
end VP
end
section
namespace VP
open VM ML
def SpLMeet (cs : CS) : Prop := ∀ (vs us : List Vec) (w Y : Nat) (st : Store) (k x : KV), Len w vs → Len w us → (∀ v ∈ vs, Bb 114 v) → (∀ v ∈ us, Bb 114 v) → w ≤ 4 → vs.length ≤ 4 → us.length ≤ 4 →
  2 * (2669820 + (w + 1) * (Y + 1)) ≤ 100000000 → (∀ ps, Form w (Meet w vs us) ps → ∀ p a, (p, a) ∈ ps → Bb Y a) →
  (∀ ps st', Form w (Meet w vs us) ps → (∃ o1 o2, st' = st ++ [o1] ++ [o2]) → k (formV ps) st') → cs 20 [.lst (vs.map itup), .lst (us.map itup), .int w] st k x
theorem lmeet_bound : ∀ w ≤ 8, ∀ m < 8, rc (bn 114 m) 114 w ≤ 2669820 := by decide +kernel
set_option maxHeartbeats 1000000 in
theorem lmeet_at {FT : Nat → Option FD} {d : Nat} (hF : FT 20 = some ⟨3, 7, T__law_meet⟩) (h1 : At FT d SpBasis) (h2 : At FT d SpFormY) : At FT (d + 1) SpLMeet := at_of (C := fun cs => SpBasis cs ∧ SpFormY cs) hF (fun n hn => ⟨h1 n hn, h2 n hn⟩) fun cs cs' C go => by
  obtain ⟨bas, frm⟩ := C
  intro vs us w Y st k x hl hlu hb hbu hw hn hnu hs hY hk
  refine go _ _ _ _ rfl ?_
  have L := meet_len hl hlu
  have B := meetR_bits (w := w) hb hbu
  have hrl : (meetR w vs us).length ≤ 8 := by
    unfold meetR
    rw [List.length_append, List.length_map, List.length_map]
    omega
  have ef : ((meetR w vs us).map fun r => (false, r)).map (·.2) = meetR w vs us := by rw [List.map_map]; exact List.map_id' _
  have ee : ((meetR w vs us).map fun r => (false, r)).map encV = (meetR w vs us).map ilst := by rw [List.map_map]; rfl
  have hw1 : (2 : Int) * (w : Int) = ((w + w : Nat) : Int) := by omega
  simp only [T__law_meet, VM.sNil, VM.sCons, VM.sSet, VM.sPar, VM.sSetIx, VM.setIx, VM.sExpr, VM.sRet, VM.sRetN, VM.sIf, VM.sBreak, VM.sCont, VM.sFor, VM.gName, VM.gTup, VM.gEach, VM.eVar, VM.eC, VM.eBin, VM.eNeg, VM.eCmp, VM.eChain, VM.tOf, VM.tCmp, VM.tChain, VM.tAnd, VM.tOr, VM.tNot, VM.tYes, VM.eTest, VM.eAnd, VM.eOr, VM.eNot, VM.eIf, VM.aNil, VM.aCons, VM.eLst, VM.eLstM, VM.eTup, VM.eCall, VM.eIx, VM.eSl, VM.iE, VM.iRange1, VM.iRange2, VM.iZip, VM.iRev, VM.eComp, VM.eCompM, VM.eAppend, VM.eInsert, VM.eB1, VM.fLen, VM.fAbs, VM.fInt, VM.fList, VM.fListM, VM.fTuple, VM.fSum, VM.fAll, VM.fAny, VM.fIsi, VM.opBin, VM.opAdd, VM.opSub, VM.opMul, VM.opFdiv, VM.opMod, VM.opPow, VM.opCm, VM.frz, VM.isD, VM.eqv, VM.isNon, VM.D0, VM.turn, List.map_cons, List.map_nil, List.replicate_succ, List.replicate_zero, List.cons_append, List.nil_append, List.getElem?_cons_zero, List.getElem?_cons_succ, List.set_cons_zero, List.set_cons_succ, Nat.reduceSub, VM.wipe, List.length_cons, List.length_nil, Nat.reduceAdd, items, isSeq]
  refine ⟨trivial, comp_dup (stays_self _ _) (by simp) hl (by omega) (by omega) ?_⟩
  refine ⟨trivial, comp_front (w := w) (stays_self _ _) (by simp) (by decide) rfl hlu (by omega) (by omega) ?_⟩
  simp only [asL, meetR_enc]
  refine ⟨by simp only [List.length_map]; show _ ≤ 16777216; omega, mulOk64 (by decide) (by omega), ?_⟩
  rw [hw1]
  refine bas (.lst ((meetR w vs us).map ilst)) ((meetR w vs us).map fun r => (false, r)) (w + w) 114 2669820 _ _ _ (by rw [ee]; rfl) (by rw [ef]; exact L) (by rw [ef]; exact B) (by decide) (by omega) (by rw [ef]; exact .inl fun n hn' => lmeet_bound (w + w) (by omega) n (by omega)) (by decide) fun bs hbl ok bB se => ?_
  rw [ef] at se
  have hj2 : (st ++ [SO.lst (bs.map encO)])[st.length]? = some (.lst (bs.map encO)) := by simp
  have es : slc (bs.map encO) (some (w : Int)) none = (bs.drop w).map encO := by
    rw [slc_drop, ← List.map_drop]
  simp only [getSl, asL, hj2, es, items, isSeq]
  refine ⟨trivial, comp_of encO (fun o => match o with | none => none | some a => some (ilst (a.drop w))) (stays_self _ _) (bs.drop w) (fun o mo k' hk' => ?_) (by rw [List.length_drop]; show _ ≤ 16777216; omega) ?_⟩
  · cases o with
    | none => simpa [turn, gName, tCmp, eVar, eC, opCm, isNon, encO] using hk'
    | some a =>
      simp only [turn, gName, tCmp, eVar, eC, opCm, isNon, encO, eSl, getSl, asL, ilst, slc_ints, List.set_cons_zero, List.set_cons_succ, List.getElem?_cons_zero, List.getElem?_cons_succ, Bool.not_false, if_true]
      exact ⟨trivial, hk'⟩
  · have e6 : ∀ l : Bs, l.filterMap (fun o => match o with | none => none | some a => some (ilst (a.drop w))) = (((rws l).map fun r => r.drop w).map fun r => (false, r)).map encV := by
      intro l
      induction l with
      | nil => rfl
      | cons o l ih =>
        cases o with
        | none => simpa [rws] using ih
        | some a => simpa [rws, encV] using ih
    rw [e6]
    have e7 : (((rws (bs.drop w)).map fun r => r.drop w).map fun r => (false, r)).map (·.2) = (rws (bs.drop w)).map fun r => r.drop w := by rw [List.map_map]; exact List.map_id' _
    obtain ⟨qs, q1, q2, q3⟩ := tail_tri_d hbl ok
    have iff : ∀ v, Span w ((rws (bs.drop w)).map fun r => r.drop w) v ↔ Meet w vs us v := fun v =>
      ((tail_bs ok v).symm.trans (show Span (w + w) (rws bs) (pad w v) ↔ Span (w + w) (meetR w vs us) (pad w v) from (se.iff L ok.len (pad w v)).symm)).trans (tail_meet hl hlu v)
    refine frm (.lst ((((rws (bs.drop w)).map fun r => r.drop w).map fun r => (false, r)).map encV)) (((rws (bs.drop w)).map fun r => r.drop w).map fun r => (false, r)) w 2669820 2669820 Y _ _ _ rfl (by
        rw [e7]
        intro y my
        obtain ⟨r, mr, rfl⟩ := List.mem_map.mp my
        obtain ⟨i, _, e⟩ := mem_rws_drop.mp mr
        rw [List.length_drop, (ok i r e).1]
        omega) (by
        rw [e7]
        intro y my
        obtain ⟨r, mr, rfl⟩ := List.mem_map.mp my
        obtain ⟨i, _, e⟩ := mem_rws_drop.mp mr
        exact fun a ha => bB i r e a (List.mem_of_mem_drop ha)) (by decide) (by omega) (by rw [e7]; exact .inr ⟨Nat.le_refl _, qs, q1, q2, q3⟩) (by decide) hs (.inr (by
        rw [e7]
        exact fun ps F => hY ps (F.congr iff))) fun ps o F2 _ => ?_
    rw [e7] at F2
    exact hk ps _ (F2.congr iff) ⟨_, _, rfl⟩
end VP
end
section
namespace VP
open VM ML
def tt (vs : List Vec) : List (Bool × Vec) := vs.map fun v => (true, v)
theorem tt_enc (vs : List Vec) : (tt vs).map encV = vs.map itup := by unfold tt; rw [List.map_map]; rfl
theorem tt_snd (vs : List Vec) : (tt vs).map (·.2) = vs := by unfold tt; rw [List.map_map]; exact List.map_id' vs
theorem tt_len (vs : List Vec) : (tt vs).length = vs.length := by unfold tt; rw [List.length_map]
theorem eqvL_ints : ∀ v : List Int, eqvL (pvis v) (pvis v) = true
  | [] => rfl
  | a :: v => by
    show (eqv (.int a) (.int a) && eqvL (pvis v) (pvis v)) = true
    rw [eqvL_ints v]
    simp [eqv]
theorem eqv_itup (v : List Int) : eqv (itup v) (itup v) = true := by
  show eqvL (pvis v) (pvis v) = true
  exact eqvL_ints v
theorem eqvL_tups : ∀ vs : List Vec, eqvL (vs.map itup) (vs.map itup) = true
  | [] => rfl
  | v :: vs => by
    show (eqv (itup v) (itup v) && eqvL (vs.map itup) (vs.map itup)) = true
    rw [eqvL_tups vs, eqv_itup]
    rfl
theorem sorted_len : ∀ (ps : Ps) (lo w : Nat), ps.Pairwise (fun x y => x.1 < y.1) → (∀ x ∈ ps, lo ≤ x.1 ∧ x.1 < w) → lo ≤ w → ps.length ≤ w - lo
  | [], _, _, _, _, _ => Nat.zero_le _
  | x :: ps, lo, w, hs, h, hl => by
    obtain ⟨s1, s2⟩ := List.pairwise_cons.mp hs
    obtain ⟨h1, h2⟩ := h x (List.mem_cons_self ..)
    have := sorted_len ps (x.1 + 1) w s2 (fun y m => ⟨s1 y m, (h y (List.mem_cons_of_mem _ m)).2⟩) (by omega)
    rw [List.length_cons]
    omega
theorem form_len {w : Nat} {L : Vec → Prop} {ps : Ps} (F : Form w L ps) : ps.length ≤ w := by
  have := sorted_len ps 0 w F.sorted (fun x m => ⟨Nat.zero_le _, (F.row x.1 x.2 m).1⟩) (Nat.zero_le _)
  omega
theorem form_trg {w H : Nat} {L : Vec → Prop} {ps : Ps} (hL : Lat w L) (F : Form w L ps) (b : ∀ p a, (p, a) ∈ ps → Bb H a) : Trg w H ps := ⟨F.sorted, fun p a m => by
  obtain ⟨h1, h2, h3, _⟩ := F.row p a m
  exact ⟨h1, hL.len a h2, h3, F.pos p a m, b p a m⟩⟩
theorem sm_form (ps : Ps) (w : Nat) (h1 : ps.length ≤ 1000) (h2 : ∀ p a, (p, a) ∈ ps → a.length = w) (hw : w ≤ 1000) : Sm 2 (formV ps) := by
  refine ⟨by rw [List.length_map]; show _ ≤ 16777216; omega, fun x m => ?_⟩
  obtain ⟨⟨p, a⟩, hm, rfl⟩ := List.mem_map.mp m
  refine ⟨by rw [List.length_map, h2 p a hm]; show _ ≤ 16777216; omega, fun y my => ?_⟩
  obtain ⟨z, rfl, _⟩ := mem_ints my
  exact trivial
theorem perm_map_inv {α β : Type} (f : α → β) {ys zs : List β} (h : ys.Perm zs) : ∀ vs : List α, zs = vs.map f → ∃ us : List α, us.Perm vs ∧ ys = us.map f := by
  induction h with
  | nil => exact fun vs e => ⟨[], (by cases vs with | nil => exact List.Perm.nil | cons => cases e), rfl⟩
  | cons x _ ih =>
    intro vs e
    cases vs with
    | nil => cases e
    | cons v vs =>
      obtain ⟨rfl, e2⟩ := List.cons.inj e
      obtain ⟨us, p, rfl⟩ := ih vs e2
      exact ⟨v :: us, p.cons v, rfl⟩
  | swap x y l =>
    intro vs e
    match vs, e with
    | a :: b :: vs, e =>
      obtain ⟨rfl, e2⟩ := List.cons.inj e
      obtain ⟨rfl, rfl⟩ := List.cons.inj e2
      exact ⟨b :: a :: vs, List.Perm.swap .., rfl⟩
    | [], e => cases e
    | [_], e => cases e
  | trans _ _ ih1 ih2 =>
    intro vs e
    obtain ⟨us, p, e1⟩ := ih2 vs e
    obtain ⟨ts, p2, e2⟩ := ih1 us e1
    exact ⟨ts, p2.trans p, e2⟩
theorem se_perm {w : Nat} {us vs : List Vec} (hl : Len w vs) (p : us.Perm vs) : SE w us vs := ⟨fun x m => Span.mem hl (p.mem_iff.mp m), fun x m => Span.mem (fun y my => hl y (p.mem_iff.mp my)) (p.mem_iff.mpr m)⟩
theorem zeros (w : Nat) : (List.replicate w [PV.int 0]).flatten = pvis (zv w) := by
  induction w with
  | zero => rfl
  | succ w ih => rw [List.replicate_succ, List.flatten_cons, ih]; rfl
theorem form_zv {w : Nat} {ps : Ps} (F : Form w (Span w [zv w]) ps) : ps = [] := by
  have lz : Len w [zv w] := fun v m => by rw [List.mem_singleton.mp m]; simp [zv]
  refine F.uniq (span_lat lz) ((form_nil (w := w)).congr fun v => ⟨fun h => Span.imp (vs := []) (fun _ m => (nomatch m)) h, fun h => Span.mono (fun _ m => (nomatch m)) (fun x m => ?_) h⟩)
  rw [List.mem_singleton.mp m]
  exact .zero
/-- one row changed by another -/
theorem se_add {w : Nat} {us : List Vec} {i j : Nat} {u v : Vec} (hl : Len w us) (hi : us[i]? = some u) (hj : us[j]? = some v) (hij : i ≠ j) (c : Int) : SE w us (us.set i (sub1 u v c)) := by
  have mu := List.mem_of_getElem? hi
  have mv := List.mem_of_getElem? hj
  have hil := (List.getElem?_eq_some_iff.mp hi).1
  have lu := hl u mu
  have lv := hl v mv
  have luv : u.length = v.length := lu.trans lv.symm
  have ls : (sub1 u v c).length = w := (sub1_len luv).trans lu
  have L2 : Len w (us.set i (sub1 u v c)) := fun x m => by
    rcases List.mem_or_eq_of_mem_set m with m | e
    · exact hl x m
    · rw [e]; exact ls
  refine ⟨fun x m => ?_, fun x m => ?_⟩
  · have ms : sub1 u v c ∈ us.set i (sub1 u v c) := List.mem_of_getElem? (List.getElem?_set_self hil)
    have mv2 : v ∈ us.set i (sub1 u v c) := List.mem_of_getElem? (by rw [List.getElem?_set_ne hij]; exact hj)
    obtain ⟨k, hk⟩ := List.mem_iff_getElem?.mp m
    by_cases h : i = k
    · subst h
      rw [hi] at hk
      cases hk
      have := (Span.mem L2 ms).sub L2 (Span.mem L2 mv2) (-c)
      have e : sub1 (sub1 u v c) v (-c) = u := vext (by rw [sub1_len (ls.trans lv.symm), ls]; exact lu.symm) fun n _ => by
        rw [nth_sub1 (ls.trans lv.symm), nth_sub1 luv, Int.mul_neg]
        omega
      rw [e] at this
      exact this
    · exact Span.mem L2 (List.mem_of_getElem? (by rw [List.getElem?_set_ne h]; exact hk))
  · rcases List.mem_or_eq_of_mem_set m with m | e
    · exact Span.mem hl m
    · rw [e]
      exact (Span.mem hl mu).sub hl (Span.mem hl mv) c
theorem se_neg {w : Nat} {us : List Vec} {i : Nat} {u : Vec} (hl : Len w us) (hi : us[i]? = some u) : SE w us (us.set i (sub1 (zv w) u 1)) := by
  have mu := List.mem_of_getElem? hi
  have hil := (List.getElem?_eq_some_iff.mp hi).1
  have lu := hl u mu
  have lz : (zv w).length = u.length := by simp [zv, lu]
  have ls : (sub1 (zv w) u 1).length = w := (sub1_len lz).trans (by simp [zv])
  have L2 : Len w (us.set i (sub1 (zv w) u 1)) := fun x m => by
    rcases List.mem_or_eq_of_mem_set m with m | e
    · exact hl x m
    · rw [e]; exact ls
  refine ⟨fun x m => ?_, fun x m => ?_⟩
  · have ms : sub1 (zv w) u 1 ∈ us.set i (sub1 (zv w) u 1) := List.mem_of_getElem? (List.getElem?_set_self hil)
    obtain ⟨k, hk⟩ := List.mem_iff_getElem?.mp m
    by_cases h : i = k
    · subst h
      rw [hi] at hk
      cases hk
      have := Span.sub L2 .zero (Span.mem L2 ms) 1
      have lz2 : (zv w).length = (sub1 (zv w) u 1).length := by rw [ls]; simp [zv]
      have e : sub1 (zv w) (sub1 (zv w) u 1) 1 = u := vext (by rw [sub1_len lz2]; exact lz) fun n _ => by
        rw [nth_sub1 lz2, nth_sub1 lz, nth_zv]
        omega
      rw [e] at this
      exact this
    · exact Span.mem L2 (List.mem_of_getElem? (by rw [List.getElem?_set_ne h]; exact hk))
  · rcases List.mem_or_eq_of_mem_set m with m | e
    · exact Span.mem hl m
    · rw [e]
      exact Span.sub hl .zero (Span.mem hl mu) 1
theorem sz_bound : ∀ w ≤ 5, ∀ m < 5, rc (bn 15 m) 15 w ≤ 6873 := by decide +kernel
theorem sz5 {w : Nat} {vs : List Vec} (hw : w ≤ 5) (hn : vs.length ≤ 5) : Sz w 15 vs 6873 := by
  refine ⟨.inl fun m hm => sz_bound w hw m (by omega), by decide, ?_⟩
  have h1 : hb 6873 w ≤ hb 6873 5 := hb_mono 6873 hw
  have h2 : hb 6873 5 = 2240923 := by decide
  rw [h2] at h1
  have h3 : (w + 1) * (hb 6873 w + 1) ≤ 6 * (2240923 + 1) := Nat.mul_le_mul (by omega) (by omega)
  omega
theorem ex_bound {e w : Nat} (hw : w ≤ 5) : ex e w ≤ ex e 5 := ex_le e hw
end VP
end
section
namespace VP
open VM ML
def k7last (cs : CS) : TS := (sIf (tNot (tOf (eCall cs 16 (aCons (eLst (aCons (eCall cs 19 (aCons (eLst aNil) (aCons (eVar 4) aNil))) (aCons (eCall cs 19 (aCons (eVar 4) (aCons (eLst aNil) aNil))) (aCons (eCall cs 19 (aCons (eVar 4) (aCons (eVar 4) aNil))) aNil)))) (aCons (eLst (aCons (eLst aNil) (aCons (eLst aNil) (aCons (eVar 12) aNil)))) aNil)))))
    (sRet (eC (.bl false)))
    sNil)
def k7shared (cs : CS) : TS := (sCons (sSet (gName 16) (eComp (iE (eVar 7)) (gName 15) (tCmp .eq (eCall cs 14 (aCons (eVar 15) (aCons (eVar 12) aNil))) (eVar 14)) (eVar 15) [15]))
    (sCons (sIf (tCmp .ne (eComp (iE (eVar 16)) (gName 15) (tCmp .ne (eCall cs 14 (aCons (eVar 15) (aCons (eVar 11) aNil))) (eVar 14)) (eVar 15) [15]) (eLst aNil))
    (sRet (eC (.bl false)))
    sNil)
    (k7last cs)))
def k7found (cs : CS) : TS := (sCons (sSet (gName 14) (eB1 fTuple (eBin .mul (eLst (aCons (eC (.int 0)) aNil)) (eVar 3))))
    (sCons (sIf (tCmp .ne (eComp (iE (eVar 11)) (gName 15) (tOr (tCmp .ne (eCall cs 14 (aCons (eVar 15) (aCons (eVar 12) aNil))) (eVar 14)) (tCmp .ne (eCall cs 14 (aCons (eVar 15) (aCons (eVar 13) aNil))) (eVar 14))) (eVar 15) [15]) (eLst aNil))
    (sRet (eC (.bl false)))
    sNil)
    (k7shared cs)))
def k7tup (cs : CS) : TS := (sCons (sIf (tNot (tOf (eCall cs 16 (aCons (eLst (aCons (eCall cs 19 (aCons (eB1 fTuple (eVar 4)) (aCons (eB1 fTuple (eVar 7)) aNil))) (aCons (eCall cs 19 (aCons (eVar 4) (aCons (eB1 fTuple (eVar 7)) aNil))) aNil))) (aCons (eLst (aCons (eVar 11) (aCons (eVar 11) aNil))) aNil)))))
    (sRet (eC (.bl false)))
    sNil)
    (k7found cs))
def k7forms (cs : CS) : TS := (sCons (sSet (gTup [(gName 12), (gName 13)]) (eTup (aCons (eCall cs 15 (aCons (eVar 4) (aCons (eVar 3) aNil))) (aCons (eCall cs 15 (aCons (eVar 7) (aCons (eVar 3) aNil))) aNil))))
    (sCons (sIf (tOr (tNot (tOf (eCall cs 16 (aCons (eVar 11) (aCons (eCall cs 20 (aCons (eVar 12) (aCons (eVar 13) (aCons (eVar 3) aNil)))) aNil))))) (tNot (tOf (eCall cs 16 (aCons (eCall cs 19 (aCons (eVar 7) (aCons (eVar 4) aNil))) (aCons (eVar 11) aNil))))))
    (sRet (eC (.bl false)))
    sNil)
    (k7tup cs)))
def k7rest (cs : CS) : TS := (sCons (sSet (gName 11) (eCall cs 19 (aCons (eB1 fList (eVar 4)) (aCons (eB1 fList (eVar 7)) aNil))))
    (k7forms cs))
def k7body (cs : CS) : TS := (sCons (sSet (gName 3) (eBin .add (eC (.int 1)) (eCall cs 1 (aCons (eVar 1) (aCons (eC (.int 4)) aNil)))))
    (sCons (sSet (gName 4) (eComp (iRange1 (eCall cs 1 (aCons (eVar 1) (aCons (eC (.int 5)) aNil)))) (gName 6) tYes (eB1 fTuple (eComp (iRange1 (eVar 3)) (gName 5) tYes (eCall cs 3 (aCons (eVar 1) aNil)) [5])) [6]))
    (sCons (sSet (gName 7) (eComp (iRange1 (eCall cs 1 (aCons (eVar 1) (aCons (eC (.int 5)) aNil)))) (gName 6) tYes (eB1 fTuple (eComp (iRange1 (eVar 3)) (gName 5) tYes (eCall cs 3 (aCons (eVar 1) aNil)) [5])) [6]))
    (sCons (sIf (tCmp .eq (eCall cs 1 (aCons (eVar 1) (aCons (eC (.int 3)) aNil))) (eC (.int 0)))
    (sSet (gName 7) (eBin .add (eComp (iE (eVar 4)) (gName 9) tYes (eB1 fTuple (eComp (iE (eVar 9)) (gName 8) tYes (eBin .mul (eBin .add (eC (.int 2)) (eVar 2)) (eVar 8)) [8])) [9]) (eSl (eVar 7) none (some (eC (.int 1))))))
    sNil)
    (sCons (sSet (gName 10) (eB1 fTuple (eComp (iRange1 (eVar 3)) (gName 5) tYes (eCall cs 3 (aCons (eVar 1) aNil)) [5])))
    (sCons (sIf (tCmp .eq (eCall cs 1 (aCons (eVar 1) (aCons (eC (.int 2)) aNil))) (eC (.int 0)))
    (sPar [4, 7] (aCons (eBin .add (eVar 4) (eLst (aCons (eVar 10) aNil))) (aCons (eBin .add (eVar 7) (eLst (aCons (eB1 fTuple (eComp (iE (eVar 10)) (gName 8) tYes (eBin .mul (eC (.int 3)) (eVar 8)) [8])) aNil))) aNil)))
    sNil)
    (k7rest cs)))))))
structure Cs7 (cs : CS) : Prop where
  bag : SpBag0 cs
  tk : SpTake cs
  sm : SpSmall cs
  low : SpLow cs
  form : SpFormY cs
  same : SpSame 2 cs
  same3 : SpSame 3 cs
  mt : SpMeet cs
  mt0 : SpMeet0 cs
  lmt : SpLMeet cs
theorem eqvL_pvis : ∀ a b : List Int, eqvL (pvis a) (pvis b) = decide (a = b)
  | [], [] => rfl
  | [], _ :: _ => rfl
  | _ :: _, [] => rfl
  | x :: a, y :: b => by
    show (eqv (.int x) (.int y) && eqvL (pvis a) (pvis b)) = _
    rw [eqvL_pvis a b]
    show ((x == y) && _) = _
    by_cases h : x = y
    · subst h; simp
    · have : (x == y) = false := by simpa using h
      rw [this]; simp [h]
theorem eq_tups {a b : Vec} {st : Store} {k : Bool → Store → Prop} (h : k (decide (a = b)) st) : opEq (itup a) (itup b) st k := by
  refine ⟨isDL_ints _, isDL_ints _, ?_⟩
  have e : eqv (frz st (itup a)) (frz st (itup b)) = decide (a = b) := eqvL_pvis a b
  rw [e]
  exact h
theorem form_meet0 {W : Nat} {vs us : List Vec} (h : vs = [] ∨ us = []) : Form W (Meet W vs us) [] := (form_nil (w := W)).congr fun v => ⟨fun hv => by
  rw [span_none hv]; exact ⟨.zero, .zero⟩, fun hv => by
  rcases h with h | h
  · subst h; exact hv.1
  · subst h; exact hv.2⟩
structure Rw (W : Nat) (vs : List Vec) : Prop where
  l : Len W vs
  b : ∀ v ∈ vs, Bb 6 v
  n : vs.length ≤ 6
theorem meet_call {cs : CS} (C : Cs7 cs) {W : Nat} {vs us : List Vec} {ps : Ps} (w4 : W ≤ 4) (V : Rw W vs) (U : Rw W us) (F : Form W (Meet W vs us) ps) (vv uu : PV) (st : Store) (k x : KV) (h1 : sq st vv = some (vs.map itup)) (h2 : sq st uu = some (us.map itup)) (hk : k (formV ps) st) : cs 19 [vv, uu] st k x := by
  have lat := meet_lat V.l U.l
  by_cases hv : vs = [] ∨ us = []
  · obtain rfl := F.uniq lat (form_meet0 hv)
    refine C.mt0 vv uu _ _ st k x h1 h2 ?_ hk
    rcases hv with h | h
    · subst h; exact .inl rfl
    · subst h; exact .inr rfl
  · have hv1 : vs ≠ [] := fun h => hv (.inl h)
    have hv2 : us ≠ [] := fun h => hv (.inr h)
    refine C.mt vv uu vs us W st k x h1 h2 hv1 hv2 V.l U.l V.b U.b w4 (by have := V.n; omega) (by have := U.n; omega) fun ps2 F2 _ => ?_
    obtain rfl := F2.uniq lat F
    exact hk
/-- what is known behind the forms -/
structure K7 (W : Nat) (vs us : List Vec) (ps ls rs : Ps) : Prop where
  w4 : W ≤ 4
  V : Rw W vs
  U : Rw W us
  F : Form W (Meet W vs us) ps
  fb : ∀ p a, (p, a) ∈ ps → Bb 2200000 a
  L : Form W (Span W vs) ls
  lb : ∀ p a, (p, a) ∈ ls → Bb 114 a
  R : Form W (Span W us) rs
  rb : ∀ p a, (p, a) ∈ rs → Bb 114 a
theorem gj_mono {B : Nat} (h : 1 ≤ B) : ∀ {m n : Nat}, m ≤ n → gj B m ≤ gj B n := by
  have h1 : ∀ n, 1 ≤ gj B n := by
    intro n
    induction n with
    | zero => exact h
    | succ n ih => exact Nat.le_trans ih (le_sq ih)
  intro m n hmn
  induction hmn with
  | refl => exact Nat.le_refl _
  | step _ ih => exact Nat.le_trans ih (le_sq (h1 _))
theorem form_114 {W : Nat} {vs : List Vec} {ps : Ps} (w4 : W ≤ 4) (V : Rw W vs) (F : Form W (Span W vs) ps) : ∀ p a, (p, a) ∈ ps → Bb 114 a := fun p a m z hz => by
  have hL := span_lat V.l
  have pl := form_len F
  obtain ⟨i, hi, rfl⟩ := List.mem_iff_getElem.mp hz
  have e : nth a i = a[i] := by
    have := nth_get hi
    rw [List.getElem?_eq_getElem hi] at this
    exact (Option.some.inj this).symm
  have h := form_small (B := 64) hL F (by decide) (fun g hg => Span.mem V.l hg) (fun g hg i => by
    by_cases hi : i < g.length
    · have h1 := V.b g hg _ (List.mem_of_getElem? (nth_get hi))
      have : (2 : Nat) ^ 6 = 64 := by decide
      omega
    · rw [nth_ge (by omega)]; decide) (gen_span V.l) m i
  rw [e] at h
  have h2 := gj_mono (B := 64) (by decide) w4
  have h3 : gj 64 4 = 2 ^ 111 := by decide
  have h4 : ps.length * gj 64 W ≤ 4 * 2 ^ 111 := Nat.mul_le_mul (by omega) (by omega)
  have h5 : 4 * 2 ^ 111 < (2 : Nat) ^ 114 := by decide
  omega
theorem k7_low {cs : CS} (C : Cs7 cs) {W b H : Nat} {L : Vec → Prop} {ps : Ps} (hL : Lat W L) (w4 : W ≤ 4) (F : Form W L ps) (fb : ∀ p a, (p, a) ∈ ps → Bb H a) {v : Vec} (hv : v.length = W) (hb : Bb b v) (b0 : 0 < b) (hs : 2 * (b + 5 * (H + 1)) ≤ 100000000) {st : Store} {k x : KV} (hk : k (itup (lower v ps)) st) : cs 14 [itup v, formV ps] st k x := by
  have T := form_trg hL F fb
  have pl := form_len F
  refine C.low (itup v) v ps W b H st _ _ rfl hv (by omega) hb b0 ⟨T.sorted, T.row⟩ ?_ hk
  have := Nat.mul_le_mul (show ps.length + 1 ≤ 5 by omega) (Nat.le_refl (H + 1))
  omega
theorem eq_empty {xs : List PV} {st : Store} {k : Bool → Store → Prop} (h : xs = []) (hk : k true st) : opEq (.lst xs) (.lst []) st k := by
  subst h
  exact ⟨by simp [frz, isD, isDL], by simp [frz, isD, isDL], hk⟩
theorem k7_last {cs : CS} (C : Cs7 cs) {W : Nat} {vs us : List Vec} {ps ls rs : Ps} (K : K7 W vs us ps ls rs) {st : Store} {D : Ends} {a0 a1 a2 a3 a5 a6 a7 a8 a9 a10 a11 a13 a14 a15 a16 : Option PV}
    (hk : D.nx [a0, a1, a2, a3, some (.lst (vs.map itup)), a5, a6, a7, a8, a9, a10, a11, some (formV ls), a13, a14, a15, a16] st) :
    k7last cs D [a0, a1, a2, a3, some (.lst (vs.map itup)), a5, a6, a7, a8, a9, a10, a11, some (formV ls), a13, a14, a15, a16] st := by
  have w4 := K.w4
  have la : ∀ p a, (p, a) ∈ ls → a.length = W := fun p a h => (span_lat K.V.l).len a (K.L.row p a h).2.1
  have pl := form_len K.L
  have smf := sm_form ls W (by omega) la (by omega)
  simp only [k7last, sIf, sRet, sNil, tNot, tOf, eCall, eLst, aCons, aNil, eVar, eC, List.getElem?_cons_zero, List.getElem?_cons_succ]
  refine ⟨by decide, C.mt0 _ _ [] (vs.map itup) _ _ _ rfl rfl (.inl rfl) ?_⟩
  refine ⟨by decide, C.mt0 _ _ (vs.map itup) [] _ _ _ rfl rfl (.inr rfl) ?_⟩
  refine meet_call C K.w4 K.V K.V (K.L.congr fun v => ⟨fun h => ⟨h, h⟩, fun h => h.1⟩) _ _ _ _ _ rfl rfl ?_
  refine ⟨by show 3 ≤ 16777216; decide, by decide, by decide, by show 3 ≤ 16777216; decide, ?_⟩
  refine C.same3 (.lst [.lst [], .lst [], formV ls]) st _ _ ?_ ?_
  · have e : ∀ n, Sm (n + 1) (.lst []) := fun n => ⟨by decide, fun _ m => (nomatch m)⟩
    refine ⟨by show 3 ≤ 16777216; decide, fun y m => ?_⟩
    simp only [List.mem_cons, List.not_mem_nil, or_false] at m
    rcases m with rfl | rfl | rfl
    · exact e _
    · exact e _
    · exact smf
  · simp only [truth, Bool.not_true, Bool.false_eq_true, if_false]
    exact hk
theorem k7_shared {cs : CS} (C : Cs7 cs) {W : Nat} {vs us : List Vec} {ps ls rs : Ps} (K : K7 W vs us ps ls rs) {st : Store} {D : Ends} {a0 a1 a2 a3 a5 a6 a8 a9 a10 a13 a15 a16 : Option PV}
    (hk : ∀ b16, D.nx [a0, a1, a2, a3, some (.lst (vs.map itup)), a5, a6, some (.lst (us.map itup)), a8, a9, a10, some (formV ps), some (formV ls), a13, some (itup (zv W)), a15, b16] st) :
    k7shared cs D [a0, a1, a2, a3, some (.lst (vs.map itup)), a5, a6, some (.lst (us.map itup)), a8, a9, a10, some (formV ps), some (formV ls), a13, some (itup (zv W)), a15, a16] st := by
  have w4 := K.w4
  have un := K.U.n
  have hL := span_lat K.V.l
  simp only [k7shared, sCons, sSet, eComp, iE, eVar, List.getElem?_cons_zero, List.getElem?_cons_succ, items, isSeq, wipe, List.set_cons_zero, List.set_cons_succ]
  refine ⟨trivial, comp_of itup (fun u => if lower u ls = zv W then some (itup u) else none) (stays_self _ _) us (fun u mu k' hk' => ?_) (by show _ ≤ 16777216; omega) ?_⟩
  · simp only [turn, gName, tCmp, eCall, aCons, aNil, eVar, List.getElem?_cons_zero, List.getElem?_cons_succ, List.set_cons_zero, List.set_cons_succ, opCm]
    refine k7_low C hL w4 K.L K.lb (K.U.l u mu) (K.U.b u mu) (by decide) (by decide) ?_
    refine eq_tups ?_
    by_cases h : lower u ls = zv W
    · simp only [h, decide_true, if_true] at hk' ⊢
      exact hk'
    · simp only [h, decide_false, Bool.false_eq_true, if_false] at hk' ⊢
      exact hk'
  have e1 : ∀ l : List Vec, l.filterMap (fun u => if lower u ls = zv W then some (itup u) else none) = (l.filter fun u => decide (lower u ls = zv W)).map itup := by
    intro l
    induction l with
    | nil => rfl
    | cons u us ih =>
      by_cases h : lower u ls = zv W
      · simp [h, ih]
      · simp [h, ih]
  rw [e1]
  generalize hS : us.filter (fun u => decide (lower u ls = zv W)) = S
  have hS2 : ∀ u ∈ S, u ∈ us ∧ lower u ls = zv W := fun u m => by
    rw [← hS] at m
    obtain ⟨m1, m2⟩ := List.mem_filter.mp m
    exact ⟨m1, by simpa using m2⟩
  have sl : S.length ≤ 6 := by rw [← hS]; exact Nat.le_trans (List.length_filter_le ..) un
  simp only [gName, sIf, sRet, sNil, tCmp, eComp, iE, eLst, aNil, eC, eVar, List.getElem?_cons_zero, List.getElem?_cons_succ, items, isSeq, wipe, List.set_cons_zero, List.set_cons_succ]
  refine ⟨rfl, comp_of itup (fun _ => none) (stays_self _ _) S (fun u mu k' hk' => ?_) (by show _ ≤ 16777216; omega) ?_⟩
  · obtain ⟨m1, m2⟩ := hS2 u mu
    have lu := K.U.l u m1
    have hin : Span W vs u := lower_back hL ls u lu (fun p a m => (K.L.row p a m).2.1) (by rw [m2]; exact .zero)
    simp only [turn, gName, tCmp, eCall, aCons, aNil, eVar, List.getElem?_cons_zero, List.getElem?_cons_succ, List.set_cons_zero, List.set_cons_succ, opCm]
    refine k7_low C (meet_lat K.V.l K.U.l) w4 K.F K.fb lu (K.U.b u m1) (by decide) (by decide) ?_
    rw [lower_zero (meet_lat K.V.l K.U.l) K.F ⟨hin, Span.mem K.U.l m1⟩]
    refine eq_tups ?_
    simp only [decide_true, Bool.not_true, Bool.false_eq_true, if_false]
    exact hk'
  have e2 : S.filterMap (fun _ => (none : Option PV)) = [] := by simp
  rw [e2]
  refine ⟨by decide, ?_⟩
  simp only [opCm]
  refine eq_empty rfl ?_
  simp only [Bool.not_true, Bool.false_eq_true, if_false]
  exact k7_last C K (hk _)
theorem k7_found {cs : CS} (C : Cs7 cs) {W : Nat} {vs us : List Vec} {ps ls rs : Ps} (K : K7 W vs us ps ls rs) {st : Store} {D : Ends} {a0 a1 a2 a5 a6 a8 a9 a10 a14 a15 a16 : Option PV}
    (hk : ∀ b14 b16, D.nx [a0, a1, a2, some (.int (W : Nat)), some (.lst (vs.map itup)), a5, a6, some (.lst (us.map itup)), a8, a9, a10, some (formV ps), some (formV ls), some (formV rs), b14, a15, b16] st) :
    k7found cs D [a0, a1, a2, some (.int (W : Nat)), some (.lst (vs.map itup)), a5, a6, some (.lst (us.map itup)), a8, a9, a10, some (formV ps), some (formV ls), some (formV rs), a14, a15, a16] st := by
  have w4 := K.w4
  have pl := form_len K.F
  have hM := meet_lat K.V.l K.U.l
  simp only [k7found, sCons, sSet, eBin, eLst, aCons, aNil, eC, eVar, eB1, opBin, opMul, List.getElem?_cons_zero, List.getElem?_cons_succ, List.length_cons, List.length_nil, Int.toNat_natCast, zeros, fTuple, seqOf, asL, gName, List.set_cons_zero, List.set_cons_succ]
  refine ⟨by decide, by omega, by omega, by show (0 + 1) * W ≤ 16777216; omega, ?_⟩
  simp only [sIf, sRet, sNil, tCmp, eComp, iE, eLst, aNil, eC, eVar, List.getElem?_cons_zero, List.getElem?_cons_succ, items, isSeq, wipe, List.set_cons_zero, List.set_cons_succ]
  refine ⟨trivial, comp_of (fun x : Nat × Vec => itup x.2) (fun _ => none) (stays_self _ _) ps (fun x mx k' hk' => ?_) (by show _ ≤ 16777216; omega) ?_⟩
  · obtain ⟨p, v⟩ := x
    have hv := (K.F.row p v mx).2.1
    have lv := hM.len v hv
    simp only [turn, gName, tOr, tCmp, eCall, aCons, aNil, eVar, List.getElem?_cons_zero, List.getElem?_cons_succ, List.set_cons_zero, List.set_cons_succ, opCm]
    refine k7_low C (span_lat K.V.l) w4 K.L K.lb lv (K.fb p v mx) (by decide) (by decide) ?_
    rw [lower_zero (span_lat K.V.l) K.L hv.1]
    refine eq_tups ?_
    simp only [decide_true, Bool.not_true, Bool.false_eq_true, if_false]
    refine k7_low C (span_lat K.U.l) w4 K.R K.rb lv (K.fb p v mx) (by decide) (by decide) ?_
    rw [lower_zero (span_lat K.U.l) K.R hv.2]
    refine eq_tups ?_
    simp only [decide_true, Bool.not_true, Bool.false_eq_true, if_false]
    exact hk'
  have e2 : ps.filterMap (fun _ => (none : Option PV)) = [] := by simp
  rw [e2]
  refine ⟨by decide, ?_⟩
  simp only [opCm]
  refine eq_empty rfl ?_
  simp only [Bool.not_true, Bool.false_eq_true, if_false]
  exact k7_shared C K fun b16 => hk _ b16
theorem k7_tup {cs : CS} (C : Cs7 cs) {W : Nat} {vs us : List Vec} {ps ls rs : Ps} (K : K7 W vs us ps ls rs) {st : Store} {D : Ends} {a0 a1 a2 a5 a6 a8 a9 a10 a14 a15 a16 : Option PV}
    (hk : ∀ b14 b16, D.nx [a0, a1, a2, some (.int (W : Nat)), some (.lst (vs.map itup)), a5, a6, some (.lst (us.map itup)), a8, a9, a10, some (formV ps), some (formV ls), some (formV rs), b14, a15, b16] st) :
    k7tup cs D [a0, a1, a2, some (.int (W : Nat)), some (.lst (vs.map itup)), a5, a6, some (.lst (us.map itup)), a8, a9, a10, some (formV ps), some (formV ls), some (formV rs), a14, a15, a16] st := by
  have w4 := K.w4
  have pl := form_len K.F
  have la : ∀ p a, (p, a) ∈ ps → a.length = W := fun p a h => (meet_lat K.V.l K.U.l).len a (K.F.row p a h).2.1
  have smf := sm_form ps W (by omega) la (by omega)
  simp only [k7tup, sCons, sIf, sRet, sNil, tNot, tOf, eCall, eLst, aCons, aNil, eVar, eB1, fTuple, seqOf, asL, List.getElem?_cons_zero, List.getElem?_cons_succ]
  refine meet_call C K.w4 K.V K.U K.F _ _ _ _ _ rfl rfl ?_
  refine meet_call C K.w4 K.V K.U K.F _ _ _ _ _ rfl rfl ?_
  refine ⟨by show 2 ≤ 16777216; decide, by show 2 ≤ 16777216; decide, ?_⟩
  refine C.same3 (.lst [formV ps, formV ps]) st _ _ ?_ ?_
  · refine ⟨by show 2 ≤ 16777216; decide, fun y m => ?_⟩
    simp only [List.mem_cons, List.not_mem_nil, or_false, or_self] at m
    subst m
    exact smf
  · simp only [truth, Bool.not_true, Bool.false_eq_true, if_false]
    exact k7_found C K hk
theorem bn6 : ∀ w ≤ 4, ∀ m < 6, rc (bn 6 m) 6 w ≤ 2301 := by decide +kernel
theorem k7_form {cs : CS} (C : Cs7 cs) {W : Nat} {vs : List Vec} (w4 : W ≤ 4) (V : Rw W vs) (st : Store) (k x : KV) (hk : ∀ ps o, Form W (Span W vs) ps → (∀ p a, (p, a) ∈ ps → Bb 114 a) → k (formV ps) (st ++ [.lst o])) : cs 15 [.lst (vs.map itup), .int W] st k x := by
  refine C.form (.lst (vs.map itup)) (tt vs) W 6 2301 114 st k x (by rw [tt_enc]; rfl) (by rw [tt_snd]; exact V.l) (by rw [tt_snd]; exact V.b) (by decide) (by omega) (by rw [tt_snd]; exact .inl fun m hm => bn6 W w4 m (by have := V.n; omega)) (by decide) ?_ (.inr (by rw [tt_snd]; exact fun ps F => form_114 w4 V F)) fun ps o F b => ?_
  · have := Nat.mul_le_mul (show W + 1 ≤ 5 by omega) (Nat.le_refl (114 + 1))
    omega
  · rw [tt_snd] at F
    exact hk ps o F b
theorem form_span {w : Nat} {vs : List Vec} {ps : Ps} (hl : Len w vs) (F : Form w (Span w vs) ps) (v : Vec) : Span w (ps.map (·.2)) v ↔ Span w vs v := by
  have hL := span_lat hl
  have l2 : Len w (ps.map (·.2)) := fun v m => by
    obtain ⟨⟨p, a⟩, h, rfl⟩ := List.mem_map.mp m
    exact hL.len a (F.row p a h).2.1
  constructor
  · refine fun h => Span.mono hl (fun v m => ?_) h
    obtain ⟨⟨p, a⟩, h, rfl⟩ := List.mem_map.mp m
    exact (F.row p a h).2.1
  · intro h
    refine lower_back (span_lat l2) ps v (h.len hl) (fun p a m => Span.mem l2 (List.mem_map.mpr ⟨(p, a), m, rfl⟩)) ?_
    rw [lower_zero hL F h]
    exact .zero
theorem k7_rest {cs : CS} (C : Cs7 cs) {W b : Nat} {vs us : List Vec} (w4 : W ≤ 4) (V : Rw W vs) (U : Rw W us) {st : Store} {D : Ends} {a0 a1 a2 a5 a6 a8 a9 a10 a11 a12 a13 a14 a15 a16 : Option PV} (hB : Bag st 0 b)
    (hk : ∀ ρ st', (∃ c11 c12 c13 c14 c15 c16, ρ = [a0, a1, a2, some (.int (W : Nat)), some (.lst (vs.map itup)), a5, a6, some (.lst (us.map itup)), a8, a9, a10, c11, c12, c13, c14, c15, c16]) → Bag st' 0 b → D.nx ρ st') :
    k7rest cs D [a0, a1, a2, some (.int (W : Nat)), some (.lst (vs.map itup)), a5, a6, some (.lst (us.map itup)), a8, a9, a10, a11, a12, a13, a14, a15, a16] st := by
  have lat := meet_lat V.l U.l
  have mid : ∀ ps, Form W (Meet W vs us) ps → (∀ p a, (p, a) ∈ ps → Bb 2200000 a) → k7forms cs D [a0, a1, a2, some (.int (W : Nat)), some (.lst (vs.map itup)), a5, a6, some (.lst (us.map itup)), a8, a9, a10, some (formV ps), a12, a13, a14, a15, a16] st := by
    intro ps F fb
    have pl := form_len F
    have la : ∀ p a, (p, a) ∈ ps → a.length = W := fun p a h => lat.len a (F.row p a h).2.1
    have smf := sm_form ps W (by omega) la (by omega)
    simp only [k7forms, sCons, sSet, eTup, eCall, aCons, aNil, eVar, List.getElem?_cons_zero, List.getElem?_cons_succ]
    refine k7_form C w4 V _ _ _ fun ls o1 L lb => k7_form C w4 U _ _ _ fun rs o2 R rb => ?_
    have ll := form_len L
    have lr := form_len R
    simp only [gTup, gEach, gName, List.set_cons_zero, List.set_cons_succ, List.length_cons, List.length_nil]
    refine ⟨by decide, trivial, ?_⟩
    have eL : formV ls = .lst ((ls.map (·.2)).map itup) := by rw [List.map_map]; rfl
    have eR : formV rs = .lst ((rs.map (·.2)).map itup) := by rw [List.map_map]; rfl
    have LL : Len W (ls.map (·.2)) := fun v m => by
      obtain ⟨⟨p, a⟩, h, rfl⟩ := List.mem_map.mp m
      exact (span_lat V.l).len a (L.row p a h).2.1
    have LR : Len W (rs.map (·.2)) := fun v m => by
      obtain ⟨⟨p, a⟩, h, rfl⟩ := List.mem_map.mp m
      exact (span_lat U.l).len a (R.row p a h).2.1
    have sL : ∀ v, Span W (ls.map (·.2)) v ↔ Span W vs v := fun v => form_span V.l L v
    have sR : ∀ v, Span W (rs.map (·.2)) v ↔ Span W us v := fun v => form_span U.l R v
    have iff : ∀ v, Meet W (ls.map (·.2)) (rs.map (·.2)) v ↔ Meet W vs us v := fun v => and_congr (sL v) (sR v)
    simp only [sCons, sIf, sRet, sNil, tOr, tNot, tOf, eCall, aCons, aNil, eVar, List.getElem?_cons_zero, List.getElem?_cons_succ]
    rw [eL, eR]
    refine C.lmt (ls.map (·.2)) (rs.map (·.2)) W 2200000 _ _ _ LL LR (fun v m => ?_) (fun v m => ?_) w4 (by rw [List.length_map]; omega) (by rw [List.length_map]; omega) ?_ (fun ps2 F2 => ?_) fun ps2 st' F2 ho => ?_
    · obtain ⟨⟨p, a⟩, h, rfl⟩ := List.mem_map.mp m
      exact lb p a h
    · obtain ⟨⟨p, a⟩, h, rfl⟩ := List.mem_map.mp m
      exact rb p a h
    · have := Nat.mul_le_mul (show W + 1 ≤ 5 by omega) (Nat.le_refl (2200000 + 1))
      omega
    · obtain rfl := (F2.congr iff).uniq lat F
      exact fb
    obtain rfl := (F2.congr iff).uniq lat F
    obtain ⟨o3, o4, rfl⟩ := ho
    refine C.same _ _ _ _ smf ?_
    simp only [truth, Bool.not_true, Bool.false_eq_true, if_false]
    refine meet_call C w4 U V (F2.congr fun v => (iff v).trans ⟨fun h => ⟨h.2, h.1⟩, fun h => ⟨h.2, h.1⟩⟩) _ _ _ _ _ rfl rfl ?_
    refine C.same _ _ _ _ smf ?_
    simp only [truth, Bool.not_true, Bool.false_eq_true, if_false]
    rw [← eL, ← eR]
    exact k7_tup C ⟨w4, V, U, F, fb, L, lb, R, rb⟩ fun b14 b16 => hk _ _ ⟨_, _, _, _, _, _, rfl⟩ hB.app.app.app.app
  simp only [k7rest, sCons, sSet, eCall, aCons, aNil, eB1, eVar, fList, seqOf, asL, gName, List.getElem?_cons_zero, List.getElem?_cons_succ, List.set_cons_zero, List.set_cons_succ]
  by_cases h : vs = [] ∨ us = []
  · refine C.mt0 _ _ (vs.map itup) (us.map itup) _ _ _ rfl rfl ?_ ?_
    · rcases h with h | h
      · subst h; exact .inl rfl
      · subst h; exact .inr rfl
    · exact mid [] (form_meet0 h) fun _ _ m => (nomatch m)
  · refine C.mt _ _ vs us W _ _ _ rfl rfl (fun e => h (.inl e)) (fun e => h (.inr e)) V.l U.l V.b U.b w4 (by have := V.n; omega) (by have := U.n; omega) fun ps F fb => ?_
    exact mid ps F fb
end VP
end
namespace L_k07
open VM VP
def FT : Nat → Option FD
  | 0 => some ⟨1, 4, T__law_bag⟩
  | 1 => some ⟨2, 5, T__law_take⟩
  | 2 => some ⟨2, 2, T__law_of⟩
  | 3 => some ⟨1, 1, T__law_small⟩
  | 6 => some ⟨3, 5, T_minus⟩
  | 7 => some ⟨2, 9, T_cleared⟩
  | 8 => some ⟨2, 3, T_times⟩
  | 9 => some ⟨2, 8, T_echelon⟩
  | 10 => some ⟨1, 8, T_reduced⟩
  | 12 => some ⟨2, 8, T__law_insert⟩
  | 13 => some ⟨2, 5, T__law_basis⟩
  | 14 => some ⟨2, 9, T__law_lowered⟩
  | 15 => some ⟨2, 9, T__law_form⟩
  | 16 => some ⟨2, 4, T__law_same⟩
  | 19 => some ⟨2, 8, T_meet⟩
  | 20 => some ⟨3, 7, T__law_meet⟩
  | 21 => some ⟨1, 17, T_law_k07⟩
  | _ => none
end L_k07
section
namespace VP
open VM ML
def k7mid (cs : CS) : TS := (sCons (sSet (gName 10) (eB1 fTuple (eComp (iRange1 (eVar 3)) (gName 5) tYes (eCall cs 3 (aCons (eVar 1) aNil)) [5])))
    (sCons (sIf (tCmp .eq (eCall cs 1 (aCons (eVar 1) (aCons (eC (.int 2)) aNil))) (eC (.int 0)))
    (sPar [4, 7] (aCons (eBin .add (eVar 4) (eLst (aCons (eVar 10) aNil))) (aCons (eBin .add (eVar 7) (eLst (aCons (eB1 fTuple (eComp (iE (eVar 10)) (gName 8) tYes (eBin .mul (eC (.int 3)) (eVar 8)) [8])) aNil))) aNil)))
    sNil)
    (k7rest cs)))
def k7bdy (cs : CS) : TS := (sCons (sSet (gName 3) (eBin .add (eC (.int 1)) (eCall cs 1 (aCons (eVar 1) (aCons (eC (.int 4)) aNil)))))
    (sCons (sSet (gName 4) (eComp (iRange1 (eCall cs 1 (aCons (eVar 1) (aCons (eC (.int 5)) aNil)))) (gName 6) tYes (eB1 fTuple (eComp (iRange1 (eVar 3)) (gName 5) tYes (eCall cs 3 (aCons (eVar 1) aNil)) [5])) [6]))
    (sCons (sSet (gName 7) (eComp (iRange1 (eCall cs 1 (aCons (eVar 1) (aCons (eC (.int 5)) aNil)))) (gName 6) tYes (eB1 fTuple (eComp (iRange1 (eVar 3)) (gName 5) tYes (eCall cs 3 (aCons (eVar 1) aNil)) [5])) [6]))
    (sCons (sIf (tCmp .eq (eCall cs 1 (aCons (eVar 1) (aCons (eC (.int 3)) aNil))) (eC (.int 0)))
    (sSet (gName 7) (eBin .add (eComp (iE (eVar 4)) (gName 9) tYes (eB1 fTuple (eComp (iE (eVar 9)) (gName 8) tYes (eBin .mul (eBin .add (eC (.int 2)) (eVar 2)) (eVar 8)) [8])) [9]) (eSl (eVar 7) none (some (eC (.int 1))))))
    sNil)
    (k7mid cs)))))
structure R48 (W n : Nat) (vs : List Vec) : Prop where
  l : Len W vs
  b : ∀ v ∈ vs, ∀ a ∈ v, a.natAbs ≤ 48
  n : vs.length ≤ n
theorem R48.rw {W n : Nat} {vs : List Vec} (h : R48 W n vs) (hn : n ≤ 6) : Rw W vs := ⟨h.l, fun v m a ha => by
  have := h.b v m a ha
  have e : (2 : Nat) ^ 6 = 64 := by decide
  omega, Nat.le_trans h.n hn⟩
theorem R48.app {W n m : Nat} {vs us : List Vec} (h : R48 W n vs) (h' : R48 W m us) : R48 W (n + m) (vs ++ us) := ⟨fun v mv => (List.mem_append.mp mv).elim (h.l v) (h'.l v), fun v mv => (List.mem_append.mp mv).elim (h.b v) (h'.b v), by rw [List.length_append]; have := h.n; have := h'.n; omega⟩
theorem R48.one {W : Nat} {v : Vec} (h : v.length = W) (b : ∀ a ∈ v, a.natAbs ≤ 48) : R48 W 1 [v] := ⟨fun u m => by rw [List.mem_singleton.mp m]; exact h, fun u m => by rw [List.mem_singleton.mp m]; exact b, Nat.le_refl _⟩
theorem slc_take1 {α : Type} (xs : List α) : slc xs none (some 1) = xs.take 1 := by
  unfold slc cutIx
  cases xs <;> simp
/-- a row, each item times c -/
theorem comp_mul {i j : Nat} {own : List Nat} {stay : Store → Prop} {ρ : Env} {st : Store} {k : List PV → Store → Prop} {e : TE} {c : Int} {v : Vec} (hst : stay st) (he : ∀ (a : Int) (k : KV) (x : KV), k (.int c) st → e (ρ.set i (some (.int a))) st k x) (hi : i < ρ.length) (hc : c.natAbs < 2 ^ 64) (hv : ∀ a ∈ v, a.natAbs ≤ 48) (hl : v.length ≤ SZ) (hk : k (pvis (v.map fun a => c * a)) st) :
    compGo (gName i) tYes (eBin .mul e (eVar i)) own stay (pvis v) [] ρ st k := by
  refine comp_of PV.int (fun a => some (.int (c * a))) hst v (fun a ha k' hk' => ?_) hl ?_
  · have e1 : (ρ.set i (some (PV.int a)))[i]? = some (some (PV.int a)) := List.getElem?_set_self hi
    simp only [turn, gName, tYes, eBin, eVar, if_true]
    refine he a _ _ ?_
    simp only [e1, opBin, opMul]
    exact ⟨mulOk64 hc (by have := hv a ha; omega), hk'⟩
  · rw [show (fun a : Int => some (PV.int (c * a))) = some ∘ (fun a => PV.int (c * a)) from rfl, List.filterMap_eq_map]
    have e : pvis (v.map fun a => c * a) = v.map fun a => PV.int (c * a) := by simp [pvis]
    rw [e] at hk
    exact hk
theorem mul48 {v : Vec} {c : Int} (hv : ∀ a ∈ v, a.natAbs ≤ 12) (hc : c.natAbs ≤ 4) : ∀ a ∈ v.map (fun a => c * a), a.natAbs ≤ 48 := fun a ha => by
  obtain ⟨z, hz, rfl⟩ := List.mem_map.mp ha
  rw [Int.natAbs_mul]
  exact Nat.mul_le_mul hc (hv z hz)
theorem k7_mid {cs : CS} (C : Cs7 cs) {W b : Nat} {vs us : List Vec} (w4 : W ≤ 4) (V : R48 W 4 vs) (U : R48 W 5 us) {st : Store} {D : Ends} {a0 a2 a5 a6 a8 a9 a10 a11 a12 a13 a14 a15 a16 : Option PV} (hB : Bag st 0 (b + 100))
    (hk : ∀ ρ st', (∃ c3 c4 c5 c6 c7 c8 c9 c10 c11 c12 c13 c14 c15 c16, ρ = [a0, some (.ref 0), a2, c3, c4, c5, c6, c7, c8, c9, c10, c11, c12, c13, c14, c15, c16]) → Bag st' 0 b → D.nx ρ st') :
    k7mid cs D [a0, some (.ref 0), a2, some (.int (W : Nat)), some (.lst (vs.map itup)), a5, a6, some (.lst (us.map itup)), a8, a9, a10, a11, a12, a13, a14, a15, a16] st := by
  have vn := V.n
  have un := U.n
  simp only [k7mid, sCons, sSet, eB1, eComp, iRange1, eVar, List.getElem?_cons_zero, List.getElem?_cons_succ, wipe, List.set_cons_zero, List.set_cons_succ, Int.toNat_natCast]
  refine ⟨by unfold i62; omega, ?_⟩
  refine comp_draw2 (c := 1) (B := 12) (s := 1) (b := b + 50) (fun st => C.sm 0 st) (fun _ => trivial) _ (by decide) rfl (by rw [range_len]; show _ ≤ 16777216; omega) (hB.le (by rw [range_len]; omega)) fun c st2 lc hc hb2 k2 => ?_
  rw [range_len] at lc
  simp only [fTuple, seqOf, asL, gName, List.set_cons_zero, List.set_cons_succ, sIf, sNil, tCmp, eCall, aCons, aNil, eVar, eC, List.getElem?_cons_zero, List.getElem?_cons_succ]
  refine C.tk 0 2 (by decide) st2 (b + 49) _ _ hb2 fun v st3 hv hb3 k3 => ?_
  obtain ⟨d, rfl, d0, d1⟩ := hv
  refine ⟨rfl, rfl, ?_⟩
  by_cases h : d = 0
  · refine (if_pos (by rw [h]; rfl)).mpr' ?_
    simp only [sPar, aCons, aNil, eBin, eLst, eVar, eB1, eComp, iE, opBin, opAdd, asL, items, isSeq, wipe, List.getElem?_cons_zero, List.getElem?_cons_succ, List.set_cons_zero, List.set_cons_succ, List.length_map, List.length_cons, List.length_nil]
    refine ⟨by decide, by show _ ≤ 16777216; omega, trivial, ?_⟩
    refine comp_mul (j := 0) (c := 3) (stays_self _ _) (fun a k x hk => hk) (by simp) (by decide) (fun a ha => by have := hc a ha; omega) (by rw [lc]; show _ ≤ 16777216; omega) ?_
    simp only [fTuple, seqOf, asL, List.length_cons, List.length_nil]
    refine ⟨by decide, by show _ ≤ 16777216; omega, ?_⟩
    simp only [List.map_cons, List.map_nil, gEach, gName, List.set_cons_zero, List.set_cons_succ]
    have e1 : vs.map itup ++ [PV.tup (pvis c)] = (vs ++ [c]).map itup := by rw [List.map_append]; rfl
    have e2 : us.map itup ++ [PV.tup (pvis (c.map fun a => 3 * a))] = (us ++ [c.map fun a => 3 * a]).map itup := by rw [List.map_append]; rfl
    rw [e1, e2]
    have V2 : R48 W 5 (vs ++ [c]) := V.app (.one lc fun a ha => by have := hc a ha; omega)
    have U2 : R48 W 6 (us ++ [c.map fun a => 3 * a]) := U.app (.one (by rw [List.length_map]; exact lc) (mul48 hc (by decide)))
    refine k7_rest C w4 (V2.rw (by decide)) (U2.rw (by decide)) (hb3.le (b' := b) (by omega)) fun ρ st' hρ hb' => ?_
    obtain ⟨c11, c12, c13, c14, c15, c16, rfl⟩ := hρ
    exact hk _ _ ⟨_, _, _, _, _, _, _, _, _, _, _, _, _, _, rfl⟩ hb'
  · refine (if_neg (by show ¬ ((d == 0) = true); simpa using h)).mpr' ?_
    refine k7_rest C w4 (V.rw (by decide)) (U.rw (by decide)) (hb3.le (b' := b) (by omega)) fun ρ st' hρ hb' => ?_
    obtain ⟨c11, c12, c13, c14, c15, c16, rfl⟩ := hρ
    exact hk _ _ ⟨_, _, _, _, _, _, _, _, _, _, _, _, _, _, rfl⟩ hb'
theorem rows12 {W n : Nat} {vs : List Vec} (h : Rows W 12 vs) (hn : vs.length ≤ n) : R48 W n vs := ⟨fun v m => (h v m).1, fun v m a ha => by have := (h v m).2 a ha; omega, hn⟩
theorem k7_bdy {cs : CS} (C : Cs7 cs) {b : Nat} {st : Store} {D : Ends} {t : Int} (t0 : 0 ≤ t) (t1 : t < 3) {a0 a3 a4 a5 a6 a7 a8 a9 a10 a11 a12 a13 a14 a15 a16 : Option PV} (hB : Bag st 0 (b + 1000))
    (hk : ∀ ρ st', (∃ c2 c3 c4 c5 c6 c7 c8 c9 c10 c11 c12 c13 c14 c15 c16, ρ = [a0, some (.ref 0), c2, c3, c4, c5, c6, c7, c8, c9, c10, c11, c12, c13, c14, c15, c16]) → Bag st' 0 b → D.nx ρ st') :
    k7bdy cs D [a0, some (.ref 0), some (.int t), a3, a4, a5, a6, a7, a8, a9, a10, a11, a12, a13, a14, a15, a16] st := by
  simp only [k7bdy, sCons, sSet, eBin, eCall, aCons, aNil, eVar, eC, gName, opBin, opAdd, List.getElem?_cons_zero, List.getElem?_cons_succ, List.set_cons_zero, List.set_cons_succ]
  refine C.tk 0 4 (by decide) st (b + 999) _ _ hB fun v st1 hv hb1 k1 => ?_
  obtain ⟨d, rfl, d0, d1⟩ := hv
  obtain ⟨W, hW⟩ : ∃ W : Nat, (1 : Int) + d = (W : Int) := ⟨(1 + d).toNat, by omega⟩
  simp only [hW, eComp, iRange1, eCall, aCons, aNil, eVar, eC, List.getElem?_cons_zero, List.getElem?_cons_succ]
  have w4 : W ≤ 4 := by omega
  refine C.tk 0 5 (by decide) st1 (b + 998) _ _ hb1 fun v st2 hv hb2 k2 => ?_
  obtain ⟨d', rfl, d0', d1'⟩ := hv
  obtain ⟨n, rfl⟩ : ∃ n : Nat, d' = (n : Int) := ⟨d'.toNat, by omega⟩
  have n4 : n ≤ 4 := by omega
  have hcost : n * (W * 1) ≤ 16 := Nat.mul_le_mul n4 (show W * 1 ≤ 4 by omega)
  simp only [wipe, List.set_cons_zero, List.set_cons_succ, Int.toNat_natCast]
  refine ⟨by unfold i62; omega, ?_⟩
  refine comp_rows (c := 1) (B := 12) (w := W) (jw := 3) (s := 1) (b := b + 900) (fun st => C.sm 0 st) (fun _ => trivial) _ (by decide) (by decide) (by decide) rfl rfl (by omega) (by rw [range_len]; omega) (hb2.le (by rw [range_len]; omega)) fun vs st3 hn hr hb3 k3 => ?_
  rw [range_len] at hn
  refine C.tk 0 5 (by decide) st3 (b + 899) _ _ hb3 fun v st4 hv hb4 k4 => ?_
  obtain ⟨d', rfl, d0', d1'⟩ := hv
  obtain ⟨m, rfl⟩ : ∃ n : Nat, d' = (n : Int) := ⟨d'.toNat, by omega⟩
  have m4 : m ≤ 4 := by omega
  have mcost : m * (W * 1) ≤ 16 := Nat.mul_le_mul m4 (show W * 1 ≤ 4 by omega)
  simp only [Int.toNat_natCast]
  refine ⟨by unfold i62; omega, ?_⟩
  refine comp_rows (c := 1) (B := 12) (w := W) (jw := 3) (s := 1) (b := b + 800) (fun st => C.sm 0 st) (fun _ => trivial) _ (by decide) (by decide) (by decide) rfl rfl (by omega) (by rw [range_len]; omega) (hb4.le (by rw [range_len]; omega)) fun us st5 hm hu hb5 k5 => ?_
  rw [range_len] at hm
  simp only [sIf, sNil, tCmp, eCall, aCons, aNil, eVar, eC, List.getElem?_cons_zero, List.getElem?_cons_succ]
  refine C.tk 0 3 (by decide) st5 (b + 799) _ _ hb5 fun v st6 hv hb6 k6 => ?_
  obtain ⟨e, rfl, e0, e1⟩ := hv
  have hb7 : Bag st6 0 (b + 100) := hb6.le (by omega)
  have V := rows12 hr (n := 4) (by omega)
  have U := rows12 hu (n := 4) (by omega)
  simp only [opCm, opEq, frz, isD, eqv]
  refine ⟨trivial, trivial, ?_⟩
  by_cases h : e = 0
  · refine (if_pos (by rw [h]; rfl)).mpr' ?_
    simp only [sSet, eBin, eComp, iE, eVar, items, isSeq, wipe, List.getElem?_cons_zero, List.getElem?_cons_succ, List.set_cons_zero, List.set_cons_succ]
    refine ⟨trivial, comp_of itup (fun v => some (itup (v.map fun a => (2 + t) * a))) (stays_self _ _) vs (fun v mv k' hk' => ?_) (by show _ ≤ 16777216; omega) ?_⟩
    · have lv := (hr v mv).1
      simp only [turn, gName, tYes, eB1, eComp, iE, eVar, items, isSeq, wipe, List.getElem?_cons_zero, List.getElem?_cons_succ, List.set_cons_zero, List.set_cons_succ, if_true]
      refine ⟨trivial, comp_mul (j := 0) (c := 2 + t) (stays_self _ _) (fun a k x hk => hk) (by simp) (by omega) (fun a ha => by have := (hr v mv).2 a ha; omega) (by rw [lv]; show _ ≤ 16777216; omega) ?_⟩
      simp only [fTuple, seqOf, asL]
      exact hk'
    have e1 : vs.filterMap (fun v => some (itup (v.map fun a => (2 + t) * a))) = (vs.map fun v => v.map fun a => (2 + t) * a).map itup := by
      rw [show (fun v : Vec => some (itup (v.map fun a => (2 + t) * a))) = some ∘ (fun v => itup (v.map fun a => (2 + t) * a)) from rfl, List.filterMap_eq_map, List.map_map]
      rfl
    rw [e1]
    simp only [eSl, eVar, eC, getSl, asL, slc_take1, opBin, opAdd, List.getElem?_cons_zero, List.getElem?_cons_succ, gName, List.set_cons_zero, List.set_cons_succ]
    have e2 : (vs.map fun v => v.map fun a => (2 + t) * a).map itup ++ (us.map itup).take 1 = ((vs.map fun v => v.map fun a => (2 + t) * a) ++ us.take 1).map itup := by rw [List.map_append, List.map_take]
    rw [e2]
    refine ⟨by simp only [List.length_map, List.length_take]; show _ ≤ 16777216; omega, ?_⟩
    have U1 : R48 W 4 (vs.map fun v => v.map fun a => (2 + t) * a) := ⟨fun v m => by
      obtain ⟨z, hz, rfl⟩ := List.mem_map.mp m
      rw [List.length_map]; exact (hr z hz).1, fun v m => by
      obtain ⟨z, hz, rfl⟩ := List.mem_map.mp m
      exact mul48 (hr z hz).2 (by omega), by rw [List.length_map]; omega⟩
    have U2 : R48 W 1 (us.take 1) := ⟨fun v m => U.l v (List.mem_of_mem_take m), fun v m => U.b v (List.mem_of_mem_take m), by rw [List.length_take]; omega⟩
    refine k7_mid C w4 V (U1.app U2) hb7 fun ρ st' hρ hb' => ?_
    obtain ⟨c3, c4, c5, c6, c7, c8, c9, c10, c11, c12, c13, c14, c15, c16, rfl⟩ := hρ
    exact hk _ _ ⟨_, _, _, _, _, _, _, _, _, _, _, _, _, _, _, rfl⟩ hb'
  · refine (if_neg (by rw [show (e == 0) = false by simpa using h]; exact Bool.false_ne_true)).mpr' ?_
    refine k7_mid C w4 V ⟨U.l, U.b, by have := U.n; omega⟩ hb7 fun ρ st' hρ hb' => ?_
    obtain ⟨c3, c4, c5, c6, c7, c8, c9, c10, c11, c12, c13, c14, c15, c16, rfl⟩ := hρ
    exact hk _ _ ⟨_, _, _, _, _, _, _, _, _, _, _, _, _, _, _, rfl⟩ hb'
theorem k7_law {cs cs' : CS} (C : Cs7 cs) {f : Nat} (go : ∀ vs st k x, vs.length = 1 → T_law_k07 cs (D0 k x) (vs.map some ++ List.replicate (17 - 1) none) st → cs' f vs st k x) (is : List Int) (hl : is.length ≤ 63) (x : KV) : cs' f [.scr is] [] (fun v _ => v = .bl true) x := by
  refine go _ _ _ _ rfl ?_
  show (sCons _ (sCons (sFor _ _ (k7bdy cs)) _)) _ _ _
  simp only [sCons, sSet, eCall, aCons, aNil, eVar, gName, sFor, iRange1, eC, List.map_cons, List.map_nil, List.replicate_succ, List.replicate_zero, List.cons_append, List.nil_append, Nat.reduceSub, List.getElem?_cons_zero, List.getElem?_cons_succ, List.set_cons_zero, List.set_cons_succ]
  refine C.bag is [] _ _ hl fun st1 hb1 l1 _ => ?_
  refine ⟨by unfold i62; decide, ?_⟩
  have hb : Bag st1 0 (1000 * 3) := hb1.le (by decide)
  refine for_inv (fun rem ρ st' => (∀ y ∈ rem, ∃ i : Nat, i < 3 ∧ y = .int i) ∧ (∃ c2 c3 c4 c5 c6 c7 c8 c9 c10 c11 c12 c13 c14 c15 c16, ρ = [some (.scr is), some (.ref 0), c2, c3, c4, c5, c6, c7, c8, c9, c10, c11, c12, c13, c14, c15, c16]) ∧ Bag st' 0 (1000 * rem.length)) ?_ ?_ _ _ _ ⟨fun y hy => mem_range hy, ⟨_, _, _, _, _, _, _, _, _, _, _, _, _, _, _, rfl⟩, hb⟩
  · rintro v rem ρ st' ⟨hy, ⟨c2, c3, c4, c5, c6, c7, c8, c9, c10, c11, c12, c13, c14, c15, c16, rfl⟩, hb'⟩
    refine ⟨trivial, fun D' d1 d2 d3 d4 d5 => ?_⟩
    rw [List.length_cons, Nat.mul_add] at hb'
    obtain ⟨i, hi, rfl⟩ := hy v (List.mem_cons_self ..)
    simp only [gName, List.set_cons_zero, List.set_cons_succ]
    exact k7_bdy C (by omega) (by omega) hb' fun ρ2 st2 h1 h2 => d4 _ _ ⟨fun y hm => hy y (List.mem_cons_of_mem _ hm), h1, h2⟩
  · rintro ρ st' ⟨hy, ⟨c2, c3, c4, c5, c6, c7, c8, c9, c10, c11, c12, c13, c14, c15, c16, rfl⟩, hb'⟩
    exact ⟨trivial, rfl⟩
theorem law_true07 (is : List Int) (hl : is.length ≤ 63) (x : KV) : callN L_k07.FT 180 21 [.scr is] [] (fun v _ => v = .bl true) x := by
  have bag := bag_at (FT := L_k07.FT) rfl
  have tk := take_at (FT := L_k07.FT) rfl
  have of := of_at (FT := L_k07.FT) rfl tk
  have sm := small_at (FT := L_k07.FT) rfl of
  have mn := minus_at (FT := L_k07.FT) rfl
  have tm := times_at (FT := L_k07.FT) rfl
  have cl := cleared_at (FT := L_k07.FT) rfl mn
  have ec := ech_at (FT := L_k07.FT) rfl cl (tm.mono (by decide))
  have rd := reduced_at (FT := L_k07.FT) rfl ec (mn.mono (by decide))
  have low := low_at (FT := L_k07.FT) rfl
  have ins := ins_at (FT := L_k07.FT) rfl
  have ins0 := ins0_at (FT := L_k07.FT) rfl
  have bas := basis_at (FT := L_k07.FT) rfl ins ins0
  have frm := formY_at (FT := L_k07.FT) rfl bas (low.mono (by decide))
  have sme := same_at (FT := L_k07.FT) rfl 2
  have sm3 := same_at (FT := L_k07.FT) rfl 3
  have mt := meet_at (FT := L_k07.FT) rfl (ec.mono (d' := 10) (by decide)) (rd.mono (d' := 10) (by decide))
  have mt0 := meet0_at (FT := L_k07.FT) rfl
  have lm := lmeet_at (FT := L_k07.FT) rfl (bas.mono (d' := 10) (by decide)) (frm.mono (d' := 10) (by decide))
  have C : Cs7 (callN L_k07.FT 179) := ⟨bag _ (by decide), tk _ (by decide), sm _ (by decide), low _ (by decide), frm _ (by decide), sme _ (by decide), sm3 _ (by decide), mt _ (by decide), mt0 _ (by decide), lm _ (by decide)⟩
  exact k7_law (cs' := callN L_k07.FT 180) C (fun vs st k x h1 h2 => call_of (FT := L_k07.FT) (n := 179) (f := 21) rfl h1 h2) is hl x
end VP
end
namespace L_k07
open PySem PySem.Spec PyProof.Rows L2 VS VP
def topS (i : Nat) : Stmt := PySem.Challenge.pw_whatcrosses_k07_whole_vectors_in_both_la.main.body.getD i (.Pass ⟨0, 0, 0, 0⟩)
abbrev s_law : Stmt := topS 18
abbrev N_law : List Str := ["_law_script", "_law_bag_here", "_law_turn", "_law_width", "_law_one", "_law_j", "_law_k", "_law_two", "_law_item", "_law_vector", "_law_common", "_law_found", "_law_left", "_law_right", "_law_zeros", "_law_v", "_law_shared"]
abbrev P_law : List Str := ["_law_script"]
theorem sc_law : FnScope N_law P_law (defScope s_law) := ⟨rfl, rfl, rfl, by decide +kernel, rfl, by decide +kernel, by decide +kernel⟩
abbrev s__law_bag : Stmt := topS 8
abbrev N__law_bag : List Str := ["_law_script", "_law_cells", "_law_cell", "_law_mixed"]
abbrev P__law_bag : List Str := ["_law_script"]
theorem sc__law_bag : FnScope N__law_bag P__law_bag (defScope s__law_bag) := ⟨rfl, rfl, rfl, by decide +kernel, rfl, by decide +kernel, by decide +kernel⟩
abbrev s_meet : Stmt := topS 6
abbrev N_meet : List Str := ["one", "other", "width", "rows", "vector", "_", "rest", "row"]
abbrev P_meet : List Str := ["one", "other"]
theorem sc_meet : FnScope N_meet P_meet (defScope s_meet) := ⟨rfl, rfl, rfl, by decide +kernel, rfl, by decide +kernel, by decide +kernel⟩
abbrev s__law_take : Stmt := topS 9
abbrev N__law_take : List Str := ["_law_bag_here", "_law_many", "_law_cell", "_law_digit", "_law_old"]
abbrev P__law_take : List Str := ["_law_bag_here", "_law_many"]
theorem sc__law_take : FnScope N__law_take P__law_take (defScope s__law_take) := ⟨rfl, rfl, rfl, by decide +kernel, rfl, by decide +kernel, by decide +kernel⟩
abbrev s__law_form : Stmt := topS 15
abbrev N__law_form : List Str := ["_law_vectors", "_law_width", "_law_rows", "_law_row", "_law_found", "_law_at", "_law_k", "_law_sign", "_law_item"]
abbrev P__law_form : List Str := ["_law_vectors", "_law_width"]
theorem sc__law_form : FnScope N__law_form P__law_form (defScope s__law_form) := ⟨rfl, rfl, rfl, by decide +kernel, rfl, by decide +kernel, by decide +kernel⟩
abbrev s__law_same : Stmt := topS 11
abbrev N__law_same : List Str := ["_law_found", "_law_due", "_law_one", "_law_two"]
abbrev P__law_same : List Str := ["_law_found", "_law_due"]
theorem sc__law_same : FnScope N__law_same P__law_same (defScope s__law_same) := ⟨rfl, rfl, rfl, by decide +kernel, rfl, by decide +kernel, by decide +kernel⟩
abbrev s__law_small : Stmt := topS 17
abbrev N__law_small : List Str := ["_law_bag_here"]
abbrev P__law_small : List Str := ["_law_bag_here"]
theorem sc__law_small : FnScope N__law_small P__law_small (defScope s__law_small) := ⟨rfl, rfl, rfl, by decide +kernel, rfl, by decide +kernel, by decide +kernel⟩
abbrev s__law_meet : Stmt := topS 16
abbrev N__law_meet : List Str := ["_law_one", "_law_two", "_law_width", "_law_rows", "_law_vector", "_law_basis_here", "_law_row"]
abbrev P__law_meet : List Str := ["_law_one", "_law_two", "_law_width"]
theorem sc__law_meet : FnScope N__law_meet P__law_meet (defScope s__law_meet) := ⟨rfl, rfl, rfl, by decide +kernel, rfl, by decide +kernel, by decide +kernel⟩
abbrev s__law_lowered : Stmt := topS 14
abbrev N__law_lowered : List Str := ["_law_vector", "_law_steps", "_law_row", "_law_step", "_law_at", "_law_k", "_law_part", "_law_a", "_law_b"]
abbrev P__law_lowered : List Str := ["_law_vector", "_law_steps"]
theorem sc__law_lowered : FnScope N__law_lowered P__law_lowered (defScope s__law_lowered) := ⟨rfl, rfl, rfl, by decide +kernel, rfl, by decide +kernel, by decide +kernel⟩
abbrev s_echelon : Stmt := topS 4
abbrev N_echelon : List Str := ["vectors", "width", "rest", "vector", "heads", "at", "found", "row"]
abbrev P_echelon : List Str := ["vectors", "width"]
theorem sc_echelon : FnScope N_echelon P_echelon (defScope s_echelon) := ⟨rfl, rfl, rfl, by decide +kernel, rfl, by decide +kernel, by decide +kernel⟩
abbrev s_reduced : Stmt := topS 5
abbrev N_reduced : List Str := ["vectors", "heads", "_", "found", "k", "row", "at", "head"]
abbrev P_reduced : List Str := ["vectors"]
theorem sc_reduced : FnScope N_reduced P_reduced (defScope s_reduced) := ⟨rfl, rfl, rfl, by decide +kernel, rfl, by decide +kernel, by decide +kernel⟩
abbrev s__law_basis : Stmt := topS 13
abbrev N__law_basis : List Str := ["_law_vectors", "_law_width", "_law_basis_here", "_law_k", "_law_vector"]
abbrev P__law_basis : List Str := ["_law_vectors", "_law_width"]
theorem sc__law_basis : FnScope N__law_basis P__law_basis (defScope s__law_basis) := ⟨rfl, rfl, rfl, by decide +kernel, rfl, by decide +kernel, by decide +kernel⟩
abbrev s__law_of : Stmt := topS 10
abbrev N__law_of : List Str := ["_law_bag_here", "_law_things"]
abbrev P__law_of : List Str := ["_law_bag_here", "_law_things"]
theorem sc__law_of : FnScope N__law_of P__law_of (defScope s__law_of) := ⟨rfl, rfl, rfl, by decide +kernel, rfl, by decide +kernel, by decide +kernel⟩
abbrev s_cleared : Stmt := topS 3
abbrev N_cleared : List Str := ["rows", "at", "left", "row", "rest", "least", "k", "head", "late"]
abbrev P_cleared : List Str := ["rows", "at"]
theorem sc_cleared : FnScope N_cleared P_cleared (defScope s_cleared) := ⟨rfl, rfl, rfl, by decide +kernel, rfl, by decide +kernel, by decide +kernel⟩
abbrev s_times : Stmt := topS 1
abbrev N_times : List Str := ["vector", "number", "item"]
abbrev P_times : List Str := ["vector", "number"]
theorem sc_times : FnScope N_times P_times (defScope s_times) := ⟨rfl, rfl, rfl, by decide +kernel, rfl, by decide +kernel, by decide +kernel⟩
abbrev s_minus : Stmt := topS 2
abbrev N_minus : List Str := ["one", "other", "number", "a", "b"]
abbrev P_minus : List Str := ["one", "other", "number"]
theorem sc_minus : FnScope N_minus P_minus (defScope s_minus) := ⟨rfl, rfl, rfl, by decide +kernel, rfl, by decide +kernel, by decide +kernel⟩
abbrev s__law_insert : Stmt := topS 12
abbrev N__law_insert : List Str := ["_law_basis_here", "_law_vector", "_law_row", "_law_at", "_law_part", "_law_late", "_law_a", "_law_b"]
abbrev P__law_insert : List Str := ["_law_basis_here", "_law_vector"]
theorem sc__law_insert : FnScope N__law_insert P__law_insert (defScope s__law_insert) := ⟨rfl, rfl, rfl, by decide +kernel, rfl, by decide +kernel, by decide +kernel⟩
section
variable {P : Program} {w : World} {K : PySem.W.Frag} {mg : Str → Option Value} {base : Heap}
abbrev FnP (K : PySem.W.Frag) (x : Str) (st : Stmt) (f : Addr) (fd : FuncData) : Prop := FunD K x x (defArgs st) (defBody st) (defScope st) [] [] f fd
abbrev Ce (P : Program) (w : World) (K : PySem.W.Frag) (mg : Str → Option Value) (base : Heap) (n : Nat) (x : Str) (i : Nat) (ps : List Str) : Prop := Callee P w K mg base x (VM.callN FT n) (n + 40) i ps
theorem b_law {n : Nat} (C__law_bag : Ce P w K mg base n "_law_bag" 0 P__law_bag) (C__law_form : Ce P w K mg base n "_law_form" 15 P__law_form) (C__law_lowered : Ce P w K mg base n "_law_lowered" 14 P__law_lowered) (C__law_meet : Ce P w K mg base n "_law_meet" 20 P__law_meet) (C__law_same : Ce P w K mg base n "_law_same" 16 P__law_same) (C__law_small : Ce P w K mg base n "_law_small" 3 P__law_small) (C__law_take : Ce P w K mg base n "_law_take" 1 P__law_take) (C_meet : Ce P w K mg base n "meet" 19 P_meet) (z_list : mg "list" = none) (z_range : mg "range" = none) (z_tuple : mg "tuple" = none) {cdv : Value} {A : Around} {outer : List Env} {s : Shared} {H : Hp} {E : XK} {f : Addr} (hr : Room (n + 40) (A.deeper (envOfC "law" (defScope s_law) s.heap.objs.size f cdv))) (dv : Dv base P (envOfC "law" (defScope s_law) s.heap.objs.size f cdv :: outer) (A.deeper (envOfC "law" (defScope s_law) s.heap.objs.size f cdv))) :
    VB (cxOf CX0 P w K mg base N_law "law" (defScope s_law) f cdv A outer s H E).nox (defBody s_law) (T_law_k07 (VM.callN FT n)) := by
  have nd := (sc_law).nd
  exact (vb_cons (vs_set nd rfl (Or.inr rfl) (ve_calle (i := 0) C__law_bag hr rfl (va_cons (ve_var 0) va_nil)) rfl (Or.inl rfl))
    (vb_cons (vs_for PassesOwn.never rfl (vi_range1 rfl z_range ve_int) (vg_name nd rfl (Or.inr rfl) (Or.inl rfl))
    (vb_cons (vs_set nd rfl (Or.inr rfl) (ve_bin o_add ve_int (ve_calle (i := 1) C__law_take hr rfl (va_cons (ve_var 1) (va_cons ve_int va_nil)))) rfl (Or.inl rfl))
    (vb_cons (vs_setc (own := [("_law_k", 6)]) (sl := [6]) rfl nd rfl rfl (sw_true rfl rfl rfl rfl) (blkOk_by (by first | (show blkC N_law (defScope s_law) _ _ = true; decide +kernel) | kernel_rfl)) (vi_range1 rfl z_range (ve_calle (i := 1) C__law_take hr rfl (va_cons (ve_var 1) (va_cons ve_int va_nil)))) (by decide) (fun _ _ _ _ _ => (vg_name nd rfl (Or.inl rfl) (Or.inr rfl))) (fun _ _ _ _ _ => vts_nil) (fun _ _ _ _ _ => (ve_tuple (ve_comp (own := [("_law_j", 5)]) (sl := [5]) rfl nd  (blkOk_by (by first | (show blkC N_law (defScope s_law) _ _ = true; decide +kernel) | kernel_rfl)) (vi_range1 rfl z_range (ve_var 3)) (by decide) (fun _ _ _ _ _ => (vg_name nd rfl (Or.inl rfl) (Or.inr rfl))) (fun _ _ _ _ _ => vts_nil) (fun _ _ _ _ _ => (ve_calle (i := 3) C__law_small hr rfl (va_cons (ve_var 1) va_nil)))) rfl z_tuple)))
    (vb_cons (vs_setc (own := [("_law_k", 6)]) (sl := [6]) rfl nd rfl rfl (sw_true rfl rfl rfl rfl) (blkOk_by (by first | (show blkC N_law (defScope s_law) _ _ = true; decide +kernel) | kernel_rfl)) (vi_range1 rfl z_range (ve_calle (i := 1) C__law_take hr rfl (va_cons (ve_var 1) (va_cons ve_int va_nil)))) (by decide) (fun _ _ _ _ _ => (vg_name nd rfl (Or.inl rfl) (Or.inr rfl))) (fun _ _ _ _ _ => vts_nil) (fun _ _ _ _ _ => (ve_tuple (ve_comp (own := [("_law_j", 5)]) (sl := [5]) rfl nd  (blkOk_by (by first | (show blkC N_law (defScope s_law) _ _ = true; decide +kernel) | kernel_rfl)) (vi_range1 rfl z_range (ve_var 3)) (by decide) (fun _ _ _ _ _ => (vg_name nd rfl (Or.inl rfl) (Or.inr rfl))) (fun _ _ _ _ _ => vts_nil) (fun _ _ _ _ _ => (ve_calle (i := 3) C__law_small hr rfl (va_cons (ve_var 1) va_nil)))) rfl z_tuple)))
    (vb_cons (vs_if (vt_cmp (c_eq hr.units) (ve_calle (i := 1) C__law_take hr rfl (va_cons (ve_var 1) (va_cons ve_int va_nil))) ve_int (nomark _))
    (vb_one (vs_set nd rfl (Or.inl rfl) (ve_bin o_add (ve_comp (own := [("_law_vector", 9)]) (sl := [9]) rfl nd  (blkOk_by (by first | (show blkC N_law (defScope s_law) _ _ = true; decide +kernel) | kernel_rfl)) (vi_e (ve_var 4)) (by decide) (fun _ _ _ _ _ => (vg_name nd rfl (Or.inl rfl) (Or.inr rfl))) (fun _ _ _ _ _ => vts_nil) (fun _ _ _ _ _ => (ve_tuple (ve_comp (own := [("_law_item", 8)]) (sl := [8]) rfl nd  (blkOk_by (by first | (show blkC N_law (defScope s_law) _ _ = true; decide +kernel) | kernel_rfl)) (vi_e (ve_var 9)) (by decide) (fun _ _ _ _ _ => (vg_name nd rfl (Or.inl rfl) (Or.inr rfl))) (fun _ _ _ _ _ => vts_nil) (fun _ _ _ _ _ => (ve_bin o_mul (ve_bin o_add ve_int (ve_var 2)) (ve_var 8)))) rfl z_tuple))) (ve_sl (ve_var 7) vo_none (vo_some ve_int))) rfl (Or.inr rfl)))
    vb_nil)
    (vb_cons (vs_set nd rfl (Or.inl rfl) (ve_tuple (ve_comp (own := [("_law_j", 5)]) (sl := [5]) rfl nd  (blkOk_by (by first | (show blkC N_law (defScope s_law) _ _ = true; decide +kernel) | kernel_rfl)) (vi_range1 rfl z_range (ve_var 3)) (by decide) (fun _ _ _ _ _ => (vg_name nd rfl (Or.inl rfl) (Or.inr rfl))) (fun _ _ _ _ _ => vts_nil) (fun _ _ _ _ _ => (ve_calle (i := 3) C__law_small hr rfl (va_cons (ve_var 1) va_nil)))) rfl z_tuple) rfl (Or.inr rfl))
    (vb_cons (vs_if (vt_cmp (c_eq hr.units) (ve_calle (i := 1) C__law_take hr rfl (va_cons (ve_var 1) (va_cons ve_int va_nil))) ve_int (nomark _))
    (vb_one (vs_par rfl nd rfl rfl (by decide) rfl rfl (va_cons (ve_bin o_add (ve_var 4) (ve_lst (va_cons (ve_var 10) va_nil))) (va_cons (ve_bin o_add (ve_var 7) (ve_lst (va_cons (ve_tuple (ve_comp (own := [("_law_item", 8)]) (sl := [8]) rfl nd  (blkOk_by (by first | (show blkC N_law (defScope s_law) _ _ = true; decide +kernel) | kernel_rfl)) (vi_e (ve_var 10)) (by decide) (fun _ _ _ _ _ => (vg_name nd rfl (Or.inl rfl) (Or.inr rfl))) (fun _ _ _ _ _ => vts_nil) (fun _ _ _ _ _ => (ve_bin o_mul ve_int (ve_var 8)))) rfl z_tuple) va_nil))) va_nil)) rfl))
    vb_nil)
    (vb_cons (vs_set nd rfl (Or.inr rfl) (ve_calle (i := 19) C_meet hr rfl (va_cons (ve_list (ve_var 4) rfl z_list) (va_cons (ve_list (ve_var 7) rfl z_list) va_nil))) rfl (Or.inl rfl))
    (vb_cons (vs_asg (sl := [12, 13]) (ve_tup (va_cons (ve_calle (i := 15) C__law_form hr rfl (va_cons (ve_var 4) (va_cons (ve_var 3) va_nil))) (va_cons (ve_calle (i := 15) C__law_form hr rfl (va_cons (ve_var 7) (va_cons (ve_var 3) va_nil))) va_nil))) (vg_tup rfl (vgs_cons (vg_name nd rfl (Or.inr rfl) (Or.inl rfl)) (vgs_cons (vg_name nd rfl (Or.inr rfl) (Or.inl rfl)) vgs_nil))))
    (vb_cons (vs_if (vt_w (vw_or (vt_not (vt_of (ve_calle (i := 16) C__law_same hr rfl (va_cons (ve_var 11) (va_cons (ve_calle (i := 20) C__law_meet hr rfl (va_cons (ve_var 12) (va_cons (ve_var 13) (va_cons (ve_var 3) va_nil)))) va_nil))))) (vw_or1 (vt_not (vt_of (ve_calle (i := 16) C__law_same hr rfl (va_cons (ve_calle (i := 19) C_meet hr rfl (va_cons (ve_var 7) (va_cons (ve_var 4) va_nil))) (va_cons (ve_var 11) va_nil))))))))
    (vb_one (vs_ret ve_bl))
    vb_nil)
    (vb_cons (vs_if (vt_not (vt_of (ve_calle (i := 16) C__law_same hr rfl (va_cons (ve_lst (va_cons (ve_calle (i := 19) C_meet hr rfl (va_cons (ve_tuple (ve_var 4) rfl z_tuple) (va_cons (ve_tuple (ve_var 7) rfl z_tuple) va_nil))) (va_cons (ve_calle (i := 19) C_meet hr rfl (va_cons (ve_var 4) (va_cons (ve_tuple (ve_var 7) rfl z_tuple) va_nil))) va_nil))) (va_cons (ve_lst (va_cons (ve_var 11) (va_cons (ve_var 11) va_nil))) va_nil)))))
    (vb_one (vs_ret ve_bl))
    vb_nil)
    (vb_cons (vs_set nd rfl (Or.inr rfl) (ve_tuple (ve_bin o_mul (ve_lst (va_cons ve_int va_nil)) (ve_var 3)) rfl z_tuple) rfl (Or.inl rfl))
    (vb_cons (vs_if (vt_cmp (c_ne hr.units) (ve_comp (own := [("_law_v", 15)]) (sl := [15]) rfl nd  (blkOk_by (by first | (show blkC N_law (defScope s_law) _ _ = true; decide +kernel) | kernel_rfl)) (vi_e (ve_var 11)) (by decide) (fun _ _ _ _ _ => (vg_name nd rfl (Or.inl rfl) (Or.inr rfl))) (fun _ _ _ _ _ => (vts_one (vt_w (vw_or (vt_cmp (c_ne hr.units) (ve_calle (i := 14) C__law_lowered hr rfl (va_cons (ve_var 15) (va_cons (ve_var 12) va_nil))) (ve_var 14) (nomark _)) (vw_or1 (vt_cmp (c_ne hr.units) (ve_calle (i := 14) C__law_lowered hr rfl (va_cons (ve_var 15) (va_cons (ve_var 13) va_nil))) (ve_var 14) (nomark _))))))) (fun _ _ _ _ _ => (ve_var 15))) (ve_lst va_nil) (nomark _))
    (vb_one (vs_ret ve_bl))
    vb_nil)
    (vb_cons (vs_setc (own := [("_law_v", 15)]) (sl := [15]) rfl nd rfl rfl (sw_true rfl rfl rfl rfl) (blkOk_by (by first | (show blkC N_law (defScope s_law) _ _ = true; decide +kernel) | kernel_rfl)) (vi_e (ve_var 7)) (by decide) (fun _ _ _ _ _ => (vg_name nd rfl (Or.inl rfl) (Or.inr rfl))) (fun _ _ _ _ _ => (vts_one (vt_cmp (c_eq hr.units) (ve_calle (i := 14) C__law_lowered hr rfl (va_cons (ve_var 15) (va_cons (ve_var 12) va_nil))) (ve_var 14) (nomark _)))) (fun _ _ _ _ _ => (ve_var 15)))
    (vb_cons (vs_if (vt_cmp (c_ne hr.units) (ve_comp (own := [("_law_v", 15)]) (sl := [15]) rfl nd  (blkOk_by (by first | (show blkC N_law (defScope s_law) _ _ = true; decide +kernel) | kernel_rfl)) (vi_e (ve_var 16)) (by decide) (fun _ _ _ _ _ => (vg_name nd rfl (Or.inl rfl) (Or.inr rfl))) (fun _ _ _ _ _ => (vts_one (vt_cmp (c_ne hr.units) (ve_calle (i := 14) C__law_lowered hr rfl (va_cons (ve_var 15) (va_cons (ve_var 11) va_nil))) (ve_var 14) (nomark _)))) (fun _ _ _ _ _ => (ve_var 15))) (ve_lst va_nil) (nomark _))
    (vb_one (vs_ret ve_bl))
    vb_nil)
    (vb_one (vs_if (vt_not (vt_of (ve_calle (i := 16) C__law_same hr rfl (va_cons (ve_lst (va_cons (ve_calle (i := 19) C_meet hr rfl (va_cons (ve_lst va_nil) (va_cons (ve_var 4) va_nil))) (va_cons (ve_calle (i := 19) C_meet hr rfl (va_cons (ve_var 4) (va_cons (ve_lst va_nil) va_nil))) (va_cons (ve_calle (i := 19) C_meet hr rfl (va_cons (ve_var 4) (va_cons (ve_var 4) va_nil))) va_nil)))) (va_cons (ve_lst (va_cons (ve_lst va_nil) (va_cons (ve_lst va_nil) (va_cons (ve_var 12) va_nil)))) va_nil)))))
    (vb_one (vs_ret ve_bl))
    vb_nil)))))))))))))))))
    (vb_one (vs_ret ve_bl))))
theorem b__law_bag {n : Nat}  (z_int : mg "int" = none) (z_len : mg "len" = none) {cdv : Value} {A : Around} {outer : List Env} {s : Shared} {H : Hp} {E : XK} {f : Addr} (hr : Room (n + 40) (A.deeper (envOfC "_law_bag" (defScope s__law_bag) s.heap.objs.size f cdv))) (dv : Dv base P (envOfC "_law_bag" (defScope s__law_bag) s.heap.objs.size f cdv :: outer) (A.deeper (envOfC "_law_bag" (defScope s__law_bag) s.heap.objs.size f cdv))) :
    VB (cxOf CX0 P w K mg base N__law_bag "_law_bag" (defScope s__law_bag) f cdv A outer s H E).nox (defBody s__law_bag) (T__law_bag (VM.callN FT n)) := by
  have nd := (sc__law_bag).nd
  exact (vb_cons (vs_setc (own := [("_law_cell", 2)]) (sl := [2]) rfl nd rfl rfl (sw_true rfl rfl rfl rfl) (blkOk_by (by first | (show blkC N__law_bag (defScope s__law_bag) _ _ = true; decide +kernel) | kernel_rfl)) (vi_e (ve_sl (ve_var 0) vo_none (vo_some ve_int))) (by decide) (fun _ _ _ _ _ => (vg_name nd rfl (Or.inl rfl) (Or.inr rfl))) (fun _ _ _ _ _ => vts_nil) (fun _ _ _ _ _ => (ve_int_ (ve_var 2) rfl z_int)))
    (vb_cons (vs_set nd rfl (Or.inl rfl) (ve_bin o_add ve_int (ve_bin o_mul ve_int (ve_len (ve_var 1) rfl z_len))) rfl (Or.inr rfl))
    (vb_cons (vs_for PassesOwn.never rfl (vi_e (ve_var 1)) (vg_name nd rfl (Or.inl rfl) (Or.inr rfl))
    (vb_one (vs_set nd rfl (Or.inl rfl) (ve_bin o_mod (ve_int_ (ve_bin o_add (ve_bin o_mul (ve_var 3) ve_int) (ve_var 2)) rfl z_int) ve_int) rfl (Or.inr rfl))))
    (vb_one (vs_ret (ve_lstM (va_cons (ve_var 1) (va_cons ve_int (va_cons ve_int (va_cons (ve_var 3) (va_cons ve_int va_nil)))))))))))
theorem b_meet {n : Nat} (C_echelon : Ce P w K mg base n "echelon" 9 P_echelon) (C_reduced : Ce P w K mg base n "reduced" 10 P_reduced) (z_len : mg "len" = none) (z_list : mg "list" = none) {cdv : Value} {A : Around} {outer : List Env} {s : Shared} {H : Hp} {E : XK} {f : Addr} (hr : Room (n + 40) (A.deeper (envOfC "meet" (defScope s_meet) s.heap.objs.size f cdv))) (dv : Dv base P (envOfC "meet" (defScope s_meet) s.heap.objs.size f cdv :: outer) (A.deeper (envOfC "meet" (defScope s_meet) s.heap.objs.size f cdv))) :
    VB (cxOf CX0 P w K mg base N_meet "meet" (defScope s_meet) f cdv A outer s H E).nox (defBody s_meet) (T_meet (VM.callN FT n)) := by
  have nd := (sc_meet).nd
  exact (vb_cons (vs_if (vt_w (vw_or (vt_cmp (c_eq hr.units) (ve_len (ve_var 0) rfl z_len) ve_int (nomark _)) (vw_or1 (vt_cmp (c_eq hr.units) (ve_len (ve_var 1) rfl z_len) ve_int (nomark _)))))
    (vb_one (vs_ret (ve_lst va_nil)))
    vb_nil)
    (vb_cons (vs_set nd rfl (Or.inr rfl) (ve_len (ve_ix (ve_var 0) ve_int) rfl z_len) rfl (Or.inl rfl))
    (vb_cons (vs_set nd rfl (Or.inl rfl) (ve_bin o_add (ve_comp (own := [("vector", 4)]) (sl := [4]) rfl nd  (blkOk_by (by first | (show blkC N_meet (defScope s_meet) _ _ = true; decide +kernel) | kernel_rfl)) (vi_e (ve_var 0)) (by decide) (fun _ _ _ _ _ => (vg_name nd rfl (Or.inl rfl) (Or.inr rfl))) (fun _ _ _ _ _ => vts_nil) (fun _ _ _ _ _ => (ve_bin o_add (ve_list (ve_var 4) rfl z_list) (ve_list (ve_var 4) rfl z_list)))) (ve_comp (own := [("vector", 4)]) (sl := [4]) rfl nd  (blkOk_by (by first | (show blkC N_meet (defScope s_meet) _ _ = true; decide +kernel) | kernel_rfl)) (vi_e (ve_var 1)) (by decide) (fun _ _ _ _ _ => (vg_name nd rfl (Or.inl rfl) (Or.inr rfl))) (fun _ _ _ _ _ => vts_nil) (fun _ _ _ _ _ => (ve_bin o_add (ve_list (ve_var 4) rfl z_list) (ve_bin o_mul (ve_lst (va_cons ve_int va_nil)) (ve_var 2)))))) rfl (Or.inr rfl))
    (vb_cons (vs_asg (sl := [5, 6]) (ve_calle (i := 9) C_echelon hr rfl (va_cons (ve_var 3) (va_cons (ve_var 2) va_nil))) (vg_tup rfl (vgs_cons (vg_name nd rfl (Or.inl rfl) (Or.inr rfl)) (vgs_cons (vg_name nd rfl (Or.inl rfl) (Or.inr rfl)) vgs_nil))))
    (vb_one (vs_ret (ve_calle (i := 10) C_reduced hr rfl (va_cons (ve_comp (own := [("row", 7)]) (sl := [7]) rfl nd  (blkOk_by (by first | (show blkC N_meet (defScope s_meet) _ _ = true; decide +kernel) | kernel_rfl)) (vi_e (ve_var 6)) (by decide) (fun _ _ _ _ _ => (vg_name nd rfl (Or.inl rfl) (Or.inr rfl))) (fun _ _ _ _ _ => vts_nil) (fun _ _ _ _ _ => (ve_sl (ve_var 7) (vo_some (ve_var 2)) vo_none))) va_nil))))))))
theorem b__law_take {n : Nat}  (z_int : mg "int" = none) (z_len : mg "len" = none) {cdv : Value} {A : Around} {outer : List Env} {s : Shared} {H : Hp} {E : XK} {f : Addr} (hr : Room (n + 40) (A.deeper (envOfC "_law_take" (defScope s__law_take) s.heap.objs.size f cdv))) (dv : Dv base P (envOfC "_law_take" (defScope s__law_take) s.heap.objs.size f cdv :: outer) (A.deeper (envOfC "_law_take" (defScope s__law_take) s.heap.objs.size f cdv))) :
    VB (cxOf CX0 P w K mg base N__law_take "_law_take" (defScope s__law_take) f cdv A outer s H E).nox (defBody s__law_take) (T__law_take (VM.callN FT n)) := by
  have nd := (sc__law_take).nd
  exact (vb_cons (vs_setix (ve_bin o_add (ve_ix (ve_var 0) ve_int) ve_int) (ve_var 0) ve_int)
    (vb_cons (vs_if (vt_w (vw_and (vt_cmp c_lt (ve_ix (ve_var 0) ve_int) ve_int (nomark _)) (vw_and1 (vt_cmp c_lt (ve_ix (ve_var 0) ve_int) (ve_len (ve_ix (ve_var 0) ve_int) rfl z_len) (nomark _)))))
    (vb_cons (vs_set nd rfl (Or.inl rfl) (ve_ix (ve_ix (ve_var 0) ve_int) (ve_ix (ve_var 0) ve_int)) rfl (Or.inr rfl))
    (vb_cons (vs_setix (ve_bin o_add (ve_ix (ve_var 0) ve_int) ve_int) (ve_var 0) ve_int)
    (vb_cons (vs_setix (ve_bin o_mod (ve_int_ (ve_bin o_add (ve_bin o_add (ve_bin o_mul (ve_ix (ve_var 0) ve_int) ve_int) (ve_bin o_mul (ve_bin o_mod (ve_int_ (ve_var 2) rfl z_int) ve_int) ve_int)) (ve_ix (ve_var 0) ve_int)) rfl z_int) ve_int) (ve_var 0) ve_int)
    (vb_one (vs_setix (ve_if (vt_cmp c_ge (ve_var 2) (ve_bin o_pow ve_int ve_int) (nomark _)) (ve_var 2) ve_int) (ve_var 0) ve_int)))))
    vb_nil)
    (vb_cons (vs_if (vt_cmp c_gt (ve_ix (ve_var 0) ve_int) ve_int (nomark _))
    (vb_cons (vs_set nd rfl (Or.inl rfl) (ve_bin o_mod (ve_int_ (ve_ix (ve_var 0) ve_int) rfl z_int) (ve_var 1)) rfl (Or.inr rfl))
    (vb_cons (vs_setix (ve_bin (o_fdiv dv) (ve_ix (ve_var 0) ve_int) (ve_var 1)) (ve_var 0) ve_int)
    (vb_one (vs_ret (ve_var 3)))))
    vb_nil)
    (vb_cons (vs_set nd rfl (Or.inl rfl) (ve_bin o_mod (ve_int_ (ve_bin o_add (ve_ix (ve_var 0) ve_int) (ve_bin o_mul (ve_ix (ve_var 0) ve_int) ve_int)) rfl z_int) ve_int) rfl (Or.inr rfl))
    (vb_cons (vs_setix (ve_bin o_mod (ve_int_ (ve_bin o_add (ve_bin o_add (ve_bin o_mul (ve_var 4) (ve_var 4)) (ve_bin o_mul (ve_var 4) ve_int)) ve_int) rfl z_int) ve_int) (ve_var 0) ve_int)
    (vb_one (vs_ret (ve_bin o_mod (ve_int_ (ve_bin o_add (ve_bin (o_fdiv dv) (ve_ix (ve_var 0) ve_int) ve_int) (ve_bin o_mul (ve_bin o_mod (ve_int_ (ve_ix (ve_var 0) ve_int) rfl z_int) ve_int) ve_int)) rfl z_int) (ve_var 1)))))))))
theorem b__law_form {n : Nat} (C__law_basis : Ce P w K mg base n "_law_basis" 13 P__law_basis) (C__law_lowered : Ce P w K mg base n "_law_lowered" 14 P__law_lowered) (z_range : mg "range" = none) (z_reversed : mg "reversed" = none) {cdv : Value} {A : Around} {outer : List Env} {s : Shared} {H : Hp} {E : XK} {f : Addr} (hr : Room (n + 40) (A.deeper (envOfC "_law_form" (defScope s__law_form) s.heap.objs.size f cdv))) (dv : Dv base P (envOfC "_law_form" (defScope s__law_form) s.heap.objs.size f cdv :: outer) (A.deeper (envOfC "_law_form" (defScope s__law_form) s.heap.objs.size f cdv))) :
    VB (cxOf CX0 P w K mg base N__law_form "_law_form" (defScope s__law_form) f cdv A outer s H E).nox (defBody s__law_form) (T__law_form (VM.callN FT n)) := by
  have nd := (sc__law_form).nd
  exact (vb_cons (vs_setc (own := [("_law_row", 3)]) (sl := [3]) rfl nd rfl rfl (sw_true rfl rfl rfl rfl) (blkOk_by (by first | (show blkC N__law_form (defScope s__law_form) _ _ = true; decide +kernel) | kernel_rfl)) (vi_e (ve_calle (i := 13) C__law_basis hr rfl (va_cons (ve_var 0) (va_cons (ve_var 1) va_nil)))) (by decide) (fun _ _ _ _ _ => (vg_name nd rfl (Or.inl rfl) (Or.inr rfl))) (fun _ _ _ _ _ => (vts_one (vt_cmp c_notN (ve_var 3) ve_non (nomark _)))) (fun _ _ _ _ _ => (ve_var 3)))
    (vb_cons (vs_set nd rfl (Or.inl rfl) (ve_lst va_nil) rfl (Or.inr rfl))
    (vb_cons (vs_for PassesOwn.never rfl (vi_rev rfl z_reversed (ve_var 2)) (vg_name nd rfl (Or.inr rfl) (Or.inl rfl))
    (vb_cons (vs_set nd rfl (Or.inl rfl) (ve_ix (ve_comp (own := [("_law_k", 6)]) (sl := [6]) rfl nd  (blkOk_by (by first | (show blkC N__law_form (defScope s__law_form) _ _ = true; decide +kernel) | kernel_rfl)) (vi_range1 rfl z_range (ve_var 1)) (by decide) (fun _ _ _ _ _ => (vg_name nd rfl (Or.inl rfl) (Or.inr rfl))) (fun _ _ _ _ _ => (vts_one (vt_cmp (c_ne hr.units) (ve_ix (ve_var 3) (ve_var 6)) ve_int (nomark _)))) (fun _ _ _ _ _ => (ve_var 6))) ve_int) rfl (Or.inr rfl))
    (vb_cons (vs_set nd rfl (Or.inr rfl) (ve_if (vt_cmp c_gt (ve_ix (ve_var 3) (ve_var 5)) ve_int (nomark _)) ve_int (ve_neg ve_int)) rfl (Or.inl rfl))
    (vb_one (vs_set nd rfl (Or.inl rfl) (ve_bin o_add (ve_lst (va_cons (ve_calle (i := 14) C__law_lowered hr rfl (va_cons (ve_comp (own := [("_law_item", 8)]) (sl := [8]) rfl nd  (blkOk_by (by first | (show blkC N__law_form (defScope s__law_form) _ _ = true; decide +kernel) | kernel_rfl)) (vi_e (ve_var 3)) (by decide) (fun _ _ _ _ _ => (vg_name nd rfl (Or.inl rfl) (Or.inr rfl))) (fun _ _ _ _ _ => vts_nil) (fun _ _ _ _ _ => (ve_bin o_mul (ve_var 7) (ve_var 8)))) (va_cons (ve_var 4) va_nil))) va_nil)) (ve_var 4)) rfl (Or.inr rfl))))))
    (vb_one (vs_ret (ve_var 4))))))
theorem b__law_same {n : Nat} (C__law_same : Ce P w K mg base n "_law_same" 16 P__law_same) (z_all : mg "all" = none) (z_bool : mg "bool" = none) (z_int : mg "int" = none) (z_isinstance : mg "isinstance" = none) (z_len : mg "len" = none) (z_list : mg "list" = none) (z_str : mg "str" = none) (z_tuple : mg "tuple" = none) (z_zip : mg "zip" = none) {cdv : Value} {A : Around} {outer : List Env} {s : Shared} {H : Hp} {E : XK} {f : Addr} (hr : Room (n + 40) (A.deeper (envOfC "_law_same" (defScope s__law_same) s.heap.objs.size f cdv))) (dv : Dv base P (envOfC "_law_same" (defScope s__law_same) s.heap.objs.size f cdv :: outer) (A.deeper (envOfC "_law_same" (defScope s__law_same) s.heap.objs.size f cdv))) :
    VB (cxOf CX0 P w K mg base N__law_same "_law_same" (defScope s__law_same) f cdv A outer s H E).nox (defBody s__law_same) (T__law_same (VM.callN FT n)) := by
  have nd := (sc__law_same).nd
  exact (vb_cons (vs_if (vt_cmp c_isN (ve_var 1) ve_non (nomark _))
    (vb_one (vs_ret (ve_cmp c_isN (ve_var 0) ve_non (nomark _))))
    vb_nil)
    (vb_cons (vs_if (vt_w (vw_or (vt_of (ve_isi (T := .bool) (ve_var 1) (ve_ty rfl z_bool rfl) rfl z_isinstance)) (vw_or1 (vt_of (ve_isi (T := .bool) (ve_var 0) (ve_ty rfl z_bool rfl) rfl z_isinstance)))))
    (vb_one (vs_ret (ve_and (ve_isi (T := .bool) (ve_var 1) (ve_ty rfl z_bool rfl) rfl z_isinstance) (ve_and (ve_isi (T := .bool) (ve_var 0) (ve_ty rfl z_bool rfl) rfl z_isinstance) (ve_one (ve_cmp (c_eq hr.units) (ve_var 0) (ve_var 1) (nomark _)))))))
    vb_nil)
    (vb_cons (vs_if (vt_of (ve_isiT (Ts := [.int, .str]) (ve_var 1) (.cons (T := .int) (ve_ty rfl z_int rfl) (.cons (T := .str) (ve_ty rfl z_str rfl) .nil rfl) rfl) (by decide) rfl z_isinstance))
    (vb_one (vs_ret (ve_and (ve_isiT (Ts := [.int, .str]) (ve_var 0) (.cons (T := .int) (ve_ty rfl z_int rfl) (.cons (T := .str) (ve_ty rfl z_str rfl) .nil rfl) rfl) (by decide) rfl z_isinstance) (ve_and (ve_cmp (c_eq hr.units) (ve_isi (T := .int) (ve_var 0) (ve_ty rfl z_int rfl) rfl z_isinstance) (ve_isi (T := .int) (ve_var 1) (ve_ty rfl z_int rfl) rfl z_isinstance) (nomark _)) (ve_one (ve_cmp (c_eq hr.units) (ve_var 0) (ve_var 1) (nomark _)))))))
    vb_nil)
    (vb_cons (vs_if (vt_w (vw_or (vt_cmp (c_ne hr.units) (ve_isi (T := .list) (ve_var 1) (ve_ty rfl z_list rfl) rfl z_isinstance) (ve_isi (T := .list) (ve_var 0) (ve_ty rfl z_list rfl) rfl z_isinstance) (nomark _)) (vw_or1 (vt_cmp (c_ne hr.units) (ve_isi (T := .tuple) (ve_var 1) (ve_ty rfl z_tuple rfl) rfl z_isinstance) (ve_isi (T := .tuple) (ve_var 0) (ve_ty rfl z_tuple rfl) rfl z_isinstance) (nomark _)))))
    (vb_one (vs_ret ve_bl))
    vb_nil)
    (vb_cons (vs_if (vt_w (vw_or (vt_not (vt_of (ve_isiT (Ts := [.list, .tuple]) (ve_var 0) (.cons (T := .list) (ve_ty rfl z_list rfl) (.cons (T := .tuple) (ve_ty rfl z_tuple rfl) .nil rfl) rfl) (by decide) rfl z_isinstance))) (vw_or1 (vt_cmp (c_ne hr.units) (ve_len (ve_var 0) rfl z_len) (ve_len (ve_var 1) rfl z_len) (nomark _)))))
    (vb_one (vs_ret ve_bl))
    vb_nil)
    (vb_one (vs_ret (ve_all rfl (ve_comp (own := [("_law_one", 2), ("_law_two", 3)]) (sl := [2, 3]) rfl nd  (blkOk_by (by first | (show blkC N__law_same (defScope s__law_same) _ _ = true; decide +kernel) | kernel_rfl)) (vi_zip rfl z_zip (ve_var 0) (ve_var 1)) (by decide) (fun _ _ _ _ _ => (vg_tup rfl (vgs_cons (vg_name nd rfl (Or.inl rfl) (Or.inr rfl)) (vgs_cons (vg_name nd rfl (Or.inl rfl) (Or.inr rfl)) vgs_nil)))) (fun _ _ _ _ _ => vts_nil) (fun _ _ _ _ _ => (ve_calle (i := 16) C__law_same hr rfl (va_cons (ve_var 2) (va_cons (ve_var 3) va_nil))))) rfl z_all))))))))
theorem b__law_small {n : Nat} (C__law_of : Ce P w K mg base n "_law_of" 2 P__law_of)  {cdv : Value} {A : Around} {outer : List Env} {s : Shared} {H : Hp} {E : XK} {f : Addr} (hr : Room (n + 40) (A.deeper (envOfC "_law_small" (defScope s__law_small) s.heap.objs.size f cdv))) (dv : Dv base P (envOfC "_law_small" (defScope s__law_small) s.heap.objs.size f cdv :: outer) (A.deeper (envOfC "_law_small" (defScope s__law_small) s.heap.objs.size f cdv))) :
    VB (cxOf CX0 P w K mg base N__law_small "_law_small" (defScope s__law_small) f cdv A outer s H E).nox (defBody s__law_small) (T__law_small (VM.callN FT n)) := by
  have nd := (sc__law_small).nd
  exact (vb_one (vs_ret (ve_calle (i := 2) C__law_of hr rfl (va_cons (ve_var 0) (va_cons (ve_lst (va_cons ve_int (va_cons ve_int (va_cons (ve_neg ve_int) (va_cons ve_int (va_cons (ve_neg ve_int) (va_cons ve_int (va_cons (ve_neg ve_int) (va_cons ve_int (va_cons ve_int (va_cons ve_int (va_cons ve_int (va_cons ve_int va_nil))))))))))))) va_nil)))))
theorem b__law_meet {n : Nat} (C__law_basis : Ce P w K mg base n "_law_basis" 13 P__law_basis) (C__law_form : Ce P w K mg base n "_law_form" 15 P__law_form) (z_list : mg "list" = none) {cdv : Value} {A : Around} {outer : List Env} {s : Shared} {H : Hp} {E : XK} {f : Addr} (hr : Room (n + 40) (A.deeper (envOfC "_law_meet" (defScope s__law_meet) s.heap.objs.size f cdv))) (dv : Dv base P (envOfC "_law_meet" (defScope s__law_meet) s.heap.objs.size f cdv :: outer) (A.deeper (envOfC "_law_meet" (defScope s__law_meet) s.heap.objs.size f cdv))) :
    VB (cxOf CX0 P w K mg base N__law_meet "_law_meet" (defScope s__law_meet) f cdv A outer s H E).nox (defBody s__law_meet) (T__law_meet (VM.callN FT n)) := by
  have nd := (sc__law_meet).nd
  exact (vb_cons (vs_set nd rfl (Or.inl rfl) (ve_bin o_add (ve_comp (own := [("_law_vector", 4)]) (sl := [4]) rfl nd  (blkOk_by (by first | (show blkC N__law_meet (defScope s__law_meet) _ _ = true; decide +kernel) | kernel_rfl)) (vi_e (ve_var 0)) (by decide) (fun _ _ _ _ _ => (vg_name nd rfl (Or.inl rfl) (Or.inr rfl))) (fun _ _ _ _ _ => vts_nil) (fun _ _ _ _ _ => (ve_bin o_add (ve_list (ve_var 4) rfl z_list) (ve_list (ve_var 4) rfl z_list)))) (ve_comp (own := [("_law_vector", 4)]) (sl := [4]) rfl nd  (blkOk_by (by first | (show blkC N__law_meet (defScope s__law_meet) _ _ = true; decide +kernel) | kernel_rfl)) (vi_e (ve_var 1)) (by decide) (fun _ _ _ _ _ => (vg_name nd rfl (Or.inl rfl) (Or.inr rfl))) (fun _ _ _ _ _ => vts_nil) (fun _ _ _ _ _ => (ve_bin o_add (ve_list (ve_var 4) rfl z_list) (ve_bin o_mul (ve_lst (va_cons ve_int va_nil)) (ve_var 2)))))) rfl (Or.inr rfl))
    (vb_cons (vs_set nd rfl (Or.inl rfl) (ve_calle (i := 13) C__law_basis hr rfl (va_cons (ve_var 3) (va_cons (ve_bin o_mul ve_int (ve_var 2)) va_nil))) rfl (Or.inr rfl))
    (vb_one (vs_ret (ve_calle (i := 15) C__law_form hr rfl (va_cons (ve_comp (own := [("_law_row", 6)]) (sl := [6]) rfl nd  (blkOk_by (by first | (show blkC N__law_meet (defScope s__law_meet) _ _ = true; decide +kernel) | kernel_rfl)) (vi_e (ve_sl (ve_var 5) (vo_some (ve_var 2)) vo_none)) (by decide) (fun _ _ _ _ _ => (vg_name nd rfl (Or.inl rfl) (Or.inr rfl))) (fun _ _ _ _ _ => (vts_one (vt_cmp c_notN (ve_var 6) ve_non (nomark _)))) (fun _ _ _ _ _ => (ve_sl (ve_var 6) (vo_some (ve_var 2)) vo_none))) (va_cons (ve_var 2) va_nil)))))))
theorem b__law_lowered {n : Nat}  (z_len : mg "len" = none) (z_list : mg "list" = none) (z_range : mg "range" = none) (z_tuple : mg "tuple" = none) (z_zip : mg "zip" = none) {cdv : Value} {A : Around} {outer : List Env} {s : Shared} {H : Hp} {E : XK} {f : Addr} (hr : Room (n + 40) (A.deeper (envOfC "_law_lowered" (defScope s__law_lowered) s.heap.objs.size f cdv))) (dv : Dv base P (envOfC "_law_lowered" (defScope s__law_lowered) s.heap.objs.size f cdv :: outer) (A.deeper (envOfC "_law_lowered" (defScope s__law_lowered) s.heap.objs.size f cdv))) :
    VB (cxOf CX0 P w K mg base N__law_lowered "_law_lowered" (defScope s__law_lowered) f cdv A outer s H E).nox (defBody s__law_lowered) (T__law_lowered (VM.callN FT n)) := by
  have nd := (sc__law_lowered).nd
  exact (vb_cons (vs_set nd rfl (Or.inl rfl) (ve_list (ve_var 0) rfl z_list) rfl (Or.inr rfl))
    (vb_cons (vs_for PassesOwn.never rfl (vi_e (ve_var 1)) (vg_name nd rfl (Or.inr rfl) (Or.inl rfl))
    (vb_cons (vs_set nd rfl (Or.inl rfl) (ve_ix (ve_comp (own := [("_law_k", 5)]) (sl := [5]) rfl nd  (blkOk_by (by first | (show blkC N__law_lowered (defScope s__law_lowered) _ _ = true; decide +kernel) | kernel_rfl)) (vi_range1 rfl z_range (ve_len (ve_var 3) rfl z_len)) (by decide) (fun _ _ _ _ _ => (vg_name nd rfl (Or.inl rfl) (Or.inr rfl))) (fun _ _ _ _ _ => (vts_one (vt_cmp (c_ne hr.units) (ve_ix (ve_var 3) (ve_var 5)) ve_int (nomark _)))) (fun _ _ _ _ _ => (ve_var 5))) ve_int) rfl (Or.inr rfl))
    (vb_cons (vs_set nd rfl (Or.inr rfl) (ve_bin (o_fdiv dv) (ve_ix (ve_var 2) (ve_var 4)) (ve_ix (ve_var 3) (ve_var 4))) rfl (Or.inl rfl))
    (vb_one (vs_setc (own := [("_law_a", 7), ("_law_b", 8)]) (sl := [7, 8]) rfl nd rfl rfl (sw_true rfl rfl rfl rfl) (blkOk_by (by first | (show blkC N__law_lowered (defScope s__law_lowered) _ _ = true; decide +kernel) | kernel_rfl)) (vi_zip rfl z_zip (ve_var 2) (ve_var 3)) (by decide) (fun _ _ _ _ _ => (vg_tup rfl (vgs_cons (vg_name nd rfl (Or.inl rfl) (Or.inr rfl)) (vgs_cons (vg_name nd rfl (Or.inl rfl) (Or.inr rfl)) vgs_nil)))) (fun _ _ _ _ _ => vts_nil) (fun _ _ _ _ _ => (ve_bin o_sub (ve_var 7) (ve_bin o_mul (ve_var 6) (ve_var 8)))))))))
    (vb_one (vs_ret (ve_tuple (ve_var 2) rfl z_tuple)))))
theorem b_echelon {n : Nat} (C_cleared : Ce P w K mg base n "cleared" 7 P_cleared) (C_times : Ce P w K mg base n "times" 8 P_times) (z_list : mg "list" = none) (z_range : mg "range" = none) {cdv : Value} {A : Around} {outer : List Env} {s : Shared} {H : Hp} {E : XK} {f : Addr} (hr : Room (n + 40) (A.deeper (envOfC "echelon" (defScope s_echelon) s.heap.objs.size f cdv))) (dv : Dv base P (envOfC "echelon" (defScope s_echelon) s.heap.objs.size f cdv :: outer) (A.deeper (envOfC "echelon" (defScope s_echelon) s.heap.objs.size f cdv))) :
    VB (cxOf CX0 P w K mg base N_echelon "echelon" (defScope s_echelon) f cdv A outer s H E).nox (defBody s_echelon) (T_echelon (VM.callN FT n)) := by
  have nd := (sc_echelon).nd
  exact (vb_cons (vs_setc (own := [("vector", 3)]) (sl := [3]) rfl nd rfl rfl (sw_true rfl rfl rfl rfl) (blkOk_by (by first | (show blkC N_echelon (defScope s_echelon) _ _ = true; decide +kernel) | kernel_rfl)) (vi_e (ve_var 0)) (by decide) (fun _ _ _ _ _ => (vg_name nd rfl (Or.inl rfl) (Or.inr rfl))) (fun _ _ _ _ _ => vts_nil) (fun _ _ _ _ _ => (ve_list (ve_var 3) rfl z_list)))
    (vb_cons (vs_set nd rfl (Or.inl rfl) (ve_lst va_nil) rfl (Or.inr rfl))
    (vb_cons (vs_for PassesOwn.never rfl (vi_range1 rfl z_range (ve_var 1)) (vg_name nd rfl (Or.inl rfl) (Or.inr rfl))
    (vb_cons (vs_asg (sl := [6, 2]) (ve_calle (i := 7) C_cleared hr rfl (va_cons (ve_var 2) (va_cons (ve_var 5) va_nil))) (vg_tup rfl (vgs_cons (vg_name nd rfl (Or.inl rfl) (Or.inr rfl)) (vgs_cons (vg_name nd rfl (Or.inl rfl) (Or.inr rfl)) vgs_nil))))
    (vb_one (vs_if (vt_cmp (c_ne hr.units) (ve_var 6) (ve_lst va_nil) (nomark _))
    (vb_cons (vs_set nd rfl (Or.inl rfl) (ve_ix (ve_var 6) ve_int) rfl (Or.inr rfl))
    (vb_cons (vs_if (vt_cmp c_lt (ve_ix (ve_var 7) (ve_var 5)) ve_int (nomark _))
    (vb_one (vs_set nd rfl (Or.inl rfl) (ve_calle (i := 8) C_times hr rfl (va_cons (ve_var 7) (va_cons (ve_neg ve_int) va_nil))) rfl (Or.inr rfl)))
    vb_nil)
    (vb_one (vs_set nd rfl (Or.inl rfl) (ve_bin o_add (ve_var 4) (ve_lst (va_cons (ve_tup (va_cons (ve_var 5) (va_cons (ve_var 7) va_nil))) va_nil))) rfl (Or.inr rfl)))))
    vb_nil))))
    (vb_one (vs_ret (ve_tup (va_cons (ve_var 4) (va_cons (ve_var 2) va_nil))))))))
theorem b_reduced {n : Nat} (C_echelon : Ce P w K mg base n "echelon" 9 P_echelon) (C_minus : Ce P w K mg base n "minus" 6 P_minus) (z_len : mg "len" = none) (z_range : mg "range" = none) (z_tuple : mg "tuple" = none) {cdv : Value} {A : Around} {outer : List Env} {s : Shared} {H : Hp} {E : XK} {f : Addr} (hr : Room (n + 40) (A.deeper (envOfC "reduced" (defScope s_reduced) s.heap.objs.size f cdv))) (dv : Dv base P (envOfC "reduced" (defScope s_reduced) s.heap.objs.size f cdv :: outer) (A.deeper (envOfC "reduced" (defScope s_reduced) s.heap.objs.size f cdv))) :
    VB (cxOf CX0 P w K mg base N_reduced "reduced" (defScope s_reduced) f cdv A outer s H E).nox (defBody s_reduced) (T_reduced (VM.callN FT n)) := by
  have nd := (sc_reduced).nd
  exact (vb_cons (vs_if (vt_cmp (c_eq hr.units) (ve_len (ve_var 0) rfl z_len) ve_int (nomark _))
    (vb_one (vs_ret (ve_lst va_nil)))
    vb_nil)
    (vb_cons (vs_asg (sl := [1, 2]) (ve_calle (i := 9) C_echelon hr rfl (va_cons (ve_var 0) (va_cons (ve_len (ve_ix (ve_var 0) ve_int) rfl z_len) va_nil))) (vg_tup rfl (vgs_cons (vg_name nd rfl (Or.inl rfl) (Or.inr rfl)) (vgs_cons (vg_name nd rfl (Or.inl rfl) (Or.inr rfl)) vgs_nil))))
    (vb_cons (vs_set nd rfl (Or.inl rfl) (ve_lst va_nil) rfl (Or.inr rfl))
    (vb_cons (vs_for PassesOwn.never rfl (vi_range1 rfl z_range (ve_len (ve_var 1) rfl z_len)) (vg_name nd rfl (Or.inl rfl) (Or.inr rfl))
    (vb_cons (vs_set nd rfl (Or.inl rfl) (ve_ix (ve_ix (ve_var 1) (ve_var 4)) ve_int) rfl (Or.inr rfl))
    (vb_cons (vs_for PassesOwn.never rfl (vi_e (ve_sl (ve_var 1) (vo_some (ve_bin o_add (ve_var 4) ve_int)) vo_none)) (vg_tup rfl (vgs_cons (vg_name nd rfl (Or.inl rfl) (Or.inr rfl)) (vgs_cons (vg_name nd rfl (Or.inl rfl) (Or.inr rfl)) vgs_nil)))
    (vb_one (vs_set nd rfl (Or.inl rfl) (ve_calle (i := 6) C_minus hr rfl (va_cons (ve_var 5) (va_cons (ve_var 7) (va_cons (ve_bin (o_fdiv dv) (ve_ix (ve_var 5) (ve_var 6)) (ve_ix (ve_var 7) (ve_var 6))) va_nil)))) rfl (Or.inr rfl))))
    (vb_one (vs_set nd rfl (Or.inl rfl) (ve_bin o_add (ve_var 3) (ve_lst (va_cons (ve_tuple (ve_var 5) rfl z_tuple) va_nil))) rfl (Or.inr rfl))))))
    (vb_one (vs_ret (ve_var 3)))))))
theorem b__law_basis {n : Nat} (C__law_insert : Ce P w K mg base n "_law_insert" 12 P__law_insert) (z_range : mg "range" = none) {cdv : Value} {A : Around} {outer : List Env} {s : Shared} {H : Hp} {E : XK} {f : Addr} (hr : Room (n + 40) (A.deeper (envOfC "_law_basis" (defScope s__law_basis) s.heap.objs.size f cdv))) (dv : Dv base P (envOfC "_law_basis" (defScope s__law_basis) s.heap.objs.size f cdv :: outer) (A.deeper (envOfC "_law_basis" (defScope s__law_basis) s.heap.objs.size f cdv))) :
    VB (cxOf CX0 P w K mg base N__law_basis "_law_basis" (defScope s__law_basis) f cdv A outer s H E).nox (defBody s__law_basis) (T__law_basis (VM.callN FT n)) := by
  have nd := (sc__law_basis).nd
  exact (vb_cons (vs_setcM (own := [("_law_k", 3)]) (sl := [3]) rfl nd rfl rfl (sw_true rfl rfl rfl rfl) (blkOk_by (by first | (show blkC N__law_basis (defScope s__law_basis) _ _ = true; decide +kernel) | kernel_rfl)) (vi_range1 rfl z_range (ve_var 1)) (by decide) (fun _ _ _ _ _ => (vg_name nd rfl (Or.inl rfl) (Or.inr rfl))) (fun _ _ _ _ _ => vts_nil) (fun _ _ _ _ _ => ve_non))
    (vb_cons (vs_for PassesOwn.never rfl (vi_e (ve_var 0)) (vg_name nd rfl (Or.inl rfl) (Or.inr rfl))
    (vb_one (vs_expr (ve_calle (i := 12) C__law_insert hr rfl (va_cons (ve_var 2) (va_cons (ve_var 4) va_nil))))))
    (vb_one (vs_ret (ve_var 2)))))
theorem b__law_of {n : Nat} (C__law_take : Ce P w K mg base n "_law_take" 1 P__law_take) (z_len : mg "len" = none) {cdv : Value} {A : Around} {outer : List Env} {s : Shared} {H : Hp} {E : XK} {f : Addr} (hr : Room (n + 40) (A.deeper (envOfC "_law_of" (defScope s__law_of) s.heap.objs.size f cdv))) (dv : Dv base P (envOfC "_law_of" (defScope s__law_of) s.heap.objs.size f cdv :: outer) (A.deeper (envOfC "_law_of" (defScope s__law_of) s.heap.objs.size f cdv))) :
    VB (cxOf CX0 P w K mg base N__law_of "_law_of" (defScope s__law_of) f cdv A outer s H E).nox (defBody s__law_of) (T__law_of (VM.callN FT n)) := by
  have nd := (sc__law_of).nd
  exact (vb_one (vs_ret (ve_ix (ve_var 1) (ve_calle (i := 1) C__law_take hr rfl (va_cons (ve_var 0) (va_cons (ve_len (ve_var 1) rfl z_len) va_nil))))))
theorem b_cleared {n : Nat} (C_minus : Ce P w K mg base n "minus" 6 P_minus) (z_abs : mg "abs" = none) (z_len : mg "len" = none) (z_range : mg "range" = none) {cdv : Value} {A : Around} {outer : List Env} {s : Shared} {H : Hp} {E : XK} {f : Addr} (hr : Room (n + 40) (A.deeper (envOfC "cleared" (defScope s_cleared) s.heap.objs.size f cdv))) (dv : Dv base P (envOfC "cleared" (defScope s_cleared) s.heap.objs.size f cdv :: outer) (A.deeper (envOfC "cleared" (defScope s_cleared) s.heap.objs.size f cdv))) :
    VB (cxOf CX0 P w K mg base N_cleared "cleared" (defScope s_cleared) f cdv A outer s H E).nox (defBody s_cleared) (T_cleared (VM.callN FT n)) := by
  have nd := (sc_cleared).nd
  exact (vb_cons (vs_setc (own := [("row", 3)]) (sl := [3]) rfl nd rfl rfl (sw_true rfl rfl rfl rfl) (blkOk_by (by first | (show blkC N_cleared (defScope s_cleared) _ _ = true; decide +kernel) | kernel_rfl)) (vi_e (ve_var 0)) (by decide) (fun _ _ _ _ _ => (vg_name nd rfl (Or.inl rfl) (Or.inr rfl))) (fun _ _ _ _ _ => (vts_one (vt_cmp (c_ne hr.units) (ve_ix (ve_var 3) (ve_var 1)) ve_int (nomark _)))) (fun _ _ _ _ _ => (ve_var 3)))
    (vb_cons (vs_setc (own := [("row", 3)]) (sl := [3]) rfl nd rfl rfl (sw_true rfl rfl rfl rfl) (blkOk_by (by first | (show blkC N_cleared (defScope s_cleared) _ _ = true; decide +kernel) | kernel_rfl)) (vi_e (ve_var 0)) (by decide) (fun _ _ _ _ _ => (vg_name nd rfl (Or.inl rfl) (Or.inr rfl))) (fun _ _ _ _ _ => (vts_one (vt_cmp (c_eq hr.units) (ve_ix (ve_var 3) (ve_var 1)) ve_int (nomark _)))) (fun _ _ _ _ _ => (ve_var 3)))
    (vb_cons (vs_while PassesOwn.never (vt_cmp c_gt (ve_len (ve_var 2) rfl z_len) ve_int (nomark _))
    (vb_cons (vs_set nd rfl (Or.inl rfl) ve_int rfl (Or.inr rfl))
    (vb_cons (vs_for PassesOwn.never rfl (vi_range1 rfl z_range (ve_len (ve_var 2) rfl z_len)) (vg_name nd rfl (Or.inl rfl) (Or.inr rfl))
    (vb_one (vs_if (vt_cmp c_lt (ve_abs (ve_ix (ve_ix (ve_var 2) (ve_var 6)) (ve_var 1)) rfl z_abs) (ve_abs (ve_ix (ve_ix (ve_var 2) (ve_var 5)) (ve_var 1)) rfl z_abs) (nomark _))
    (vb_one (vs_set nd rfl (Or.inl rfl) (ve_var 6) rfl (Or.inr rfl)))
    vb_nil)))
    (vb_cons (vs_set nd rfl (Or.inl rfl) (ve_ix (ve_var 2) (ve_var 5)) rfl (Or.inr rfl))
    (vb_cons (vs_set nd rfl (Or.inl rfl) (ve_lst (va_cons (ve_var 7) va_nil)) rfl (Or.inr rfl))
    (vb_cons (vs_for PassesOwn.never rfl (vi_range1 rfl z_range (ve_len (ve_var 2) rfl z_len)) (vg_name nd rfl (Or.inl rfl) (Or.inr rfl))
    (vb_one (vs_if (vt_cmp (c_ne hr.units) (ve_var 6) (ve_var 5) (nomark _))
    (vb_cons (vs_set nd rfl (Or.inl rfl) (ve_calle (i := 6) C_minus hr rfl (va_cons (ve_ix (ve_var 2) (ve_var 6)) (va_cons (ve_var 7) (va_cons (ve_bin (o_fdiv dv) (ve_ix (ve_ix (ve_var 2) (ve_var 6)) (ve_var 1)) (ve_ix (ve_var 7) (ve_var 1))) va_nil)))) rfl (Or.inr rfl))
    (vb_one (vs_if (vt_cmp (c_ne hr.units) (ve_ix (ve_var 3) (ve_var 1)) ve_int (nomark _))
    (vb_one (vs_set nd rfl (Or.inl rfl) (ve_bin o_add (ve_var 8) (ve_lst (va_cons (ve_var 3) va_nil))) rfl (Or.inr rfl)))
    (vb_one (vs_set nd rfl (Or.inl rfl) (ve_bin o_add (ve_var 4) (ve_lst (va_cons (ve_var 3) va_nil))) rfl (Or.inr rfl))))))
    vb_nil)))
    (vb_one (vs_set nd rfl (Or.inl rfl) (ve_var 8) rfl (Or.inr rfl)))))))))
    (vb_one (vs_ret (ve_tup (va_cons (ve_var 2) (va_cons (ve_var 4) va_nil))))))))
theorem b_times {n : Nat}   {cdv : Value} {A : Around} {outer : List Env} {s : Shared} {H : Hp} {E : XK} {f : Addr} (hr : Room (n + 40) (A.deeper (envOfC "times" (defScope s_times) s.heap.objs.size f cdv))) (dv : Dv base P (envOfC "times" (defScope s_times) s.heap.objs.size f cdv :: outer) (A.deeper (envOfC "times" (defScope s_times) s.heap.objs.size f cdv))) :
    VB (cxOf CX0 P w K mg base N_times "times" (defScope s_times) f cdv A outer s H E).nox (defBody s_times) (T_times (VM.callN FT n)) := by
  have nd := (sc_times).nd
  exact (vb_one (vs_ret (ve_comp (own := [("item", 2)]) (sl := [2]) rfl nd  (blkOk_by (by first | (show blkC N_times (defScope s_times) _ _ = true; decide +kernel) | kernel_rfl)) (vi_e (ve_var 0)) (by decide) (fun _ _ _ _ _ => (vg_name nd rfl (Or.inl rfl) (Or.inr rfl))) (fun _ _ _ _ _ => vts_nil) (fun _ _ _ _ _ => (ve_bin o_mul (ve_var 2) (ve_var 1))))))
theorem b_minus {n : Nat}  (z_zip : mg "zip" = none) {cdv : Value} {A : Around} {outer : List Env} {s : Shared} {H : Hp} {E : XK} {f : Addr} (hr : Room (n + 40) (A.deeper (envOfC "minus" (defScope s_minus) s.heap.objs.size f cdv))) (dv : Dv base P (envOfC "minus" (defScope s_minus) s.heap.objs.size f cdv :: outer) (A.deeper (envOfC "minus" (defScope s_minus) s.heap.objs.size f cdv))) :
    VB (cxOf CX0 P w K mg base N_minus "minus" (defScope s_minus) f cdv A outer s H E).nox (defBody s_minus) (T_minus (VM.callN FT n)) := by
  have nd := (sc_minus).nd
  exact (vb_one (vs_ret (ve_comp (own := [("a", 3), ("b", 4)]) (sl := [3, 4]) rfl nd  (blkOk_by (by first | (show blkC N_minus (defScope s_minus) _ _ = true; decide +kernel) | kernel_rfl)) (vi_zip rfl z_zip (ve_var 0) (ve_var 1)) (by decide) (fun _ _ _ _ _ => (vg_tup rfl (vgs_cons (vg_name nd rfl (Or.inl rfl) (Or.inr rfl)) (vgs_cons (vg_name nd rfl (Or.inl rfl) (Or.inr rfl)) vgs_nil)))) (fun _ _ _ _ _ => vts_nil) (fun _ _ _ _ _ => (ve_bin o_sub (ve_var 3) (ve_bin o_mul (ve_var 4) (ve_var 2)))))))
theorem b__law_insert {n : Nat}  (z_len : mg "len" = none) (z_list : mg "list" = none) (z_range : mg "range" = none) (z_zip : mg "zip" = none) {cdv : Value} {A : Around} {outer : List Env} {s : Shared} {H : Hp} {E : XK} {f : Addr} (hr : Room (n + 40) (A.deeper (envOfC "_law_insert" (defScope s__law_insert) s.heap.objs.size f cdv))) (dv : Dv base P (envOfC "_law_insert" (defScope s__law_insert) s.heap.objs.size f cdv :: outer) (A.deeper (envOfC "_law_insert" (defScope s__law_insert) s.heap.objs.size f cdv))) :
    VB (cxOf CX0 P w K mg base N__law_insert "_law_insert" (defScope s__law_insert) f cdv A outer s H E).nox (defBody s__law_insert) (T__law_insert (VM.callN FT n)) := by
  have nd := (sc__law_insert).nd
  exact (vb_cons (vs_set nd rfl (Or.inl rfl) (ve_list (ve_var 1) rfl z_list) rfl (Or.inr rfl))
    (vb_one (vs_for PassesOwn.never rfl (vi_range1 rfl z_range (ve_len (ve_var 2) rfl z_len)) (vg_name nd rfl (Or.inl rfl) (Or.inr rfl))
    (vb_one (vs_if (vt_cmp (c_ne hr.units) (ve_ix (ve_var 2) (ve_var 3)) ve_int (nomark _))
    (vb_cons (vs_if (vt_cmp c_isN (ve_ix (ve_var 0) (ve_var 3)) ve_non (nomark _))
    (vb_cons (vs_setix (ve_var 2) (ve_var 0) (ve_var 3))
    (vb_one vs_retN))
    vb_nil)
    (vb_one (vs_while PassesOwn.never (vt_cmp (c_ne hr.units) (ve_ix (ve_var 2) (ve_var 3)) ve_int (nomark _))
    (vb_cons (vs_set nd rfl (Or.inr rfl) (ve_bin (o_fdiv dv) (ve_ix (ve_ix (ve_var 0) (ve_var 3)) (ve_var 3)) (ve_ix (ve_var 2) (ve_var 3))) rfl (Or.inl rfl))
    (vb_cons (vs_setc (own := [("_law_a", 6), ("_law_b", 7)]) (sl := [6, 7]) rfl nd rfl rfl (sw_true rfl rfl rfl rfl) (blkOk_by (by first | (show blkC N__law_insert (defScope s__law_insert) _ _ = true; decide +kernel) | kernel_rfl)) (vi_zip rfl z_zip (ve_ix (ve_var 0) (ve_var 3)) (ve_var 2)) (by decide) (fun _ _ _ _ _ => (vg_tup rfl (vgs_cons (vg_name nd rfl (Or.inl rfl) (Or.inr rfl)) (vgs_cons (vg_name nd rfl (Or.inl rfl) (Or.inr rfl)) vgs_nil)))) (fun _ _ _ _ _ => vts_nil) (fun _ _ _ _ _ => (ve_bin o_sub (ve_var 6) (ve_bin o_mul (ve_var 4) (ve_var 7)))))
    (vb_cons (vs_setix (ve_var 2) (ve_var 0) (ve_var 3))
    (vb_one (vs_set nd rfl (Or.inl rfl) (ve_var 5) rfl (Or.inr rfl)))))))))
    vb_nil)))))
def Fs (K : PySem.W.Frag) (mg : Str → Option Value) : Prop := (∃ f fd, FnP K "law" s_law f fd ∧ mg "law" = some (.ref f)) ∧ (∃ f fd, FnP K "_law_bag" s__law_bag f fd ∧ mg "_law_bag" = some (.ref f)) ∧ (∃ f fd, FnP K "meet" s_meet f fd ∧ mg "meet" = some (.ref f)) ∧ (∃ f fd, FnP K "_law_take" s__law_take f fd ∧ mg "_law_take" = some (.ref f)) ∧ (∃ f fd, FnP K "_law_form" s__law_form f fd ∧ mg "_law_form" = some (.ref f)) ∧ (∃ f fd, FnP K "_law_same" s__law_same f fd ∧ mg "_law_same" = some (.ref f)) ∧ (∃ f fd, FnP K "_law_small" s__law_small f fd ∧ mg "_law_small" = some (.ref f)) ∧ (∃ f fd, FnP K "_law_meet" s__law_meet f fd ∧ mg "_law_meet" = some (.ref f)) ∧ (∃ f fd, FnP K "_law_lowered" s__law_lowered f fd ∧ mg "_law_lowered" = some (.ref f)) ∧ (∃ f fd, FnP K "echelon" s_echelon f fd ∧ mg "echelon" = some (.ref f)) ∧ (∃ f fd, FnP K "reduced" s_reduced f fd ∧ mg "reduced" = some (.ref f)) ∧ (∃ f fd, FnP K "_law_basis" s__law_basis f fd ∧ mg "_law_basis" = some (.ref f)) ∧ (∃ f fd, FnP K "_law_of" s__law_of f fd ∧ mg "_law_of" = some (.ref f)) ∧ (∃ f fd, FnP K "cleared" s_cleared f fd ∧ mg "cleared" = some (.ref f)) ∧ (∃ f fd, FnP K "times" s_times f fd ∧ mg "times" = some (.ref f)) ∧ (∃ f fd, FnP K "minus" s_minus f fd ∧ mg "minus" = some (.ref f)) ∧ (∃ f fd, FnP K "_law_insert" s__law_insert f fd ∧ mg "_law_insert" = some (.ref f))
def Zs (mg : Str → Option Value) : Prop := mg "abs" = none ∧ mg "all" = none ∧ mg "bool" = none ∧ mg "int" = none ∧ mg "isinstance" = none ∧ mg "len" = none ∧ mg "list" = none ∧ mg "range" = none ∧ mg "reversed" = none ∧ mg "str" = none ∧ mg "tuple" = none ∧ mg "zip" = none
def All (P : Program) (w : World) (K : PySem.W.Frag) (mg : Str → Option Value) (base : Heap) (n : Nat) : Prop := Ce P w K mg base n "law" 21 P_law ∧ Ce P w K mg base n "_law_bag" 0 P__law_bag ∧ Ce P w K mg base n "meet" 19 P_meet ∧ Ce P w K mg base n "_law_take" 1 P__law_take ∧ Ce P w K mg base n "_law_form" 15 P__law_form ∧ Ce P w K mg base n "_law_same" 16 P__law_same ∧ Ce P w K mg base n "_law_small" 3 P__law_small ∧ Ce P w K mg base n "_law_meet" 20 P__law_meet ∧ Ce P w K mg base n "_law_lowered" 14 P__law_lowered ∧ Ce P w K mg base n "echelon" 9 P_echelon ∧ Ce P w K mg base n "reduced" 10 P_reduced ∧ Ce P w K mg base n "_law_basis" 13 P__law_basis ∧ Ce P w K mg base n "_law_of" 2 P__law_of ∧ Ce P w K mg base n "cleared" 7 P_cleared ∧ Ce P w K mg base n "times" 8 P_times ∧ Ce P w K mg base n "minus" 6 P_minus ∧ Ce P w K mg base n "_law_insert" 12 P__law_insert
theorem all_ok (hF : Fs K mg) (hZ : Zs mg) (hS : base.NoSeer) (hT : P.given.tree = none) : ∀ n, All P w K mg base n := by
  obtain ⟨⟨f0, fd0, F0, m0⟩, ⟨f1, fd1, F1, m1⟩, ⟨f2, fd2, F2, m2⟩, ⟨f3, fd3, F3, m3⟩, ⟨f4, fd4, F4, m4⟩, ⟨f5, fd5, F5, m5⟩, ⟨f6, fd6, F6, m6⟩, ⟨f7, fd7, F7, m7⟩, ⟨f8, fd8, F8, m8⟩, ⟨f9, fd9, F9, m9⟩, ⟨f10, fd10, F10, m10⟩, ⟨f11, fd11, F11, m11⟩, ⟨f12, fd12, F12, m12⟩, ⟨f13, fd13, F13, m13⟩, ⟨f14, fd14, F14, m14⟩, ⟨f15, fd15, F15, m15⟩, ⟨f16, fd16, F16, m16⟩⟩ := hF
  obtain ⟨z_abs, z_all, z_bool, z_int, z_isinstance, z_len, z_list, z_range, z_reversed, z_str, z_tuple, z_zip⟩ := hZ
  have b0 : Binds K fd0 P_law [] := F0.bindsN fun _ _ _ _ _ _ us hl => match us, hl with | [_], _ => rfl
  have b1 : Binds K fd1 P__law_bag [] := F1.bindsN fun _ _ _ _ _ _ us hl => match us, hl with | [_], _ => rfl
  have b2 : Binds K fd2 P_meet [] := F2.bindsN fun _ _ _ _ _ _ us hl => match us, hl with | [_, _], _ => rfl
  have b3 : Binds K fd3 P__law_take [] := F3.bindsN fun _ _ _ _ _ _ us hl => match us, hl with | [_, _], _ => rfl
  have b4 : Binds K fd4 P__law_form [] := F4.bindsN fun _ _ _ _ _ _ us hl => match us, hl with | [_, _], _ => rfl
  have b5 : Binds K fd5 P__law_same [] := F5.bindsN fun _ _ _ _ _ _ us hl => match us, hl with | [_, _], _ => rfl
  have b6 : Binds K fd6 P__law_small [] := F6.bindsN fun _ _ _ _ _ _ us hl => match us, hl with | [_], _ => rfl
  have b7 : Binds K fd7 P__law_meet [] := F7.bindsN fun _ _ _ _ _ _ us hl => match us, hl with | [_, _, _], _ => rfl
  have b8 : Binds K fd8 P__law_lowered [] := F8.bindsN fun _ _ _ _ _ _ us hl => match us, hl with | [_, _], _ => rfl
  have b9 : Binds K fd9 P_echelon [] := F9.bindsN fun _ _ _ _ _ _ us hl => match us, hl with | [_, _], _ => rfl
  have b10 : Binds K fd10 P_reduced [] := F10.bindsN fun _ _ _ _ _ _ us hl => match us, hl with | [_], _ => rfl
  have b11 : Binds K fd11 P__law_basis [] := F11.bindsN fun _ _ _ _ _ _ us hl => match us, hl with | [_, _], _ => rfl
  have b12 : Binds K fd12 P__law_of [] := F12.bindsN fun _ _ _ _ _ _ us hl => match us, hl with | [_, _], _ => rfl
  have b13 : Binds K fd13 P_cleared [] := F13.bindsN fun _ _ _ _ _ _ us hl => match us, hl with | [_, _], _ => rfl
  have b14 : Binds K fd14 P_times [] := F14.bindsN fun _ _ _ _ _ _ us hl => match us, hl with | [_, _], _ => rfl
  have b15 : Binds K fd15 P_minus [] := F15.bindsN fun _ _ _ _ _ _ us hl => match us, hl with | [_, _, _], _ => rfl
  have b16 : Binds K fd16 P__law_insert [] := F16.bindsN fun _ _ _ _ _ _ us hl => match us, hl with | [_, _], _ => rfl
  intro n
  induction n with
  | zero => exact ⟨⟨⟨f0, fd0, fn_zero, m0, F0.kp, b0, lk_of F0⟩, fun _ _ _ _ h => callN_len (hF := show FT 21 = some ⟨1, 17, T_law_k07⟩ from rfl) rfl h⟩, ⟨⟨f1, fd1, fn_zero, m1, F1.kp, b1, lk_of F1⟩, fun _ _ _ _ h => callN_len (hF := show FT 0 = some ⟨1, 4, T__law_bag⟩ from rfl) rfl h⟩, ⟨⟨f2, fd2, fn_zero, m2, F2.kp, b2, lk_of F2⟩, fun _ _ _ _ h => callN_len (hF := show FT 19 = some ⟨2, 8, T_meet⟩ from rfl) rfl h⟩, ⟨⟨f3, fd3, fn_zero, m3, F3.kp, b3, lk_of F3⟩, fun _ _ _ _ h => callN_len (hF := show FT 1 = some ⟨2, 5, T__law_take⟩ from rfl) rfl h⟩, ⟨⟨f4, fd4, fn_zero, m4, F4.kp, b4, lk_of F4⟩, fun _ _ _ _ h => callN_len (hF := show FT 15 = some ⟨2, 9, T__law_form⟩ from rfl) rfl h⟩, ⟨⟨f5, fd5, fn_zero, m5, F5.kp, b5, lk_of F5⟩, fun _ _ _ _ h => callN_len (hF := show FT 16 = some ⟨2, 4, T__law_same⟩ from rfl) rfl h⟩, ⟨⟨f6, fd6, fn_zero, m6, F6.kp, b6, lk_of F6⟩, fun _ _ _ _ h => callN_len (hF := show FT 3 = some ⟨1, 1, T__law_small⟩ from rfl) rfl h⟩, ⟨⟨f7, fd7, fn_zero, m7, F7.kp, b7, lk_of F7⟩, fun _ _ _ _ h => callN_len (hF := show FT 20 = some ⟨3, 7, T__law_meet⟩ from rfl) rfl h⟩, ⟨⟨f8, fd8, fn_zero, m8, F8.kp, b8, lk_of F8⟩, fun _ _ _ _ h => callN_len (hF := show FT 14 = some ⟨2, 9, T__law_lowered⟩ from rfl) rfl h⟩, ⟨⟨f9, fd9, fn_zero, m9, F9.kp, b9, lk_of F9⟩, fun _ _ _ _ h => callN_len (hF := show FT 9 = some ⟨2, 8, T_echelon⟩ from rfl) rfl h⟩, ⟨⟨f10, fd10, fn_zero, m10, F10.kp, b10, lk_of F10⟩, fun _ _ _ _ h => callN_len (hF := show FT 10 = some ⟨1, 8, T_reduced⟩ from rfl) rfl h⟩, ⟨⟨f11, fd11, fn_zero, m11, F11.kp, b11, lk_of F11⟩, fun _ _ _ _ h => callN_len (hF := show FT 13 = some ⟨2, 5, T__law_basis⟩ from rfl) rfl h⟩, ⟨⟨f12, fd12, fn_zero, m12, F12.kp, b12, lk_of F12⟩, fun _ _ _ _ h => callN_len (hF := show FT 2 = some ⟨2, 2, T__law_of⟩ from rfl) rfl h⟩, ⟨⟨f13, fd13, fn_zero, m13, F13.kp, b13, lk_of F13⟩, fun _ _ _ _ h => callN_len (hF := show FT 7 = some ⟨2, 9, T_cleared⟩ from rfl) rfl h⟩, ⟨⟨f14, fd14, fn_zero, m14, F14.kp, b14, lk_of F14⟩, fun _ _ _ _ h => callN_len (hF := show FT 8 = some ⟨2, 3, T_times⟩ from rfl) rfl h⟩, ⟨⟨f15, fd15, fn_zero, m15, F15.kp, b15, lk_of F15⟩, fun _ _ _ _ h => callN_len (hF := show FT 6 = some ⟨3, 5, T_minus⟩ from rfl) rfl h⟩, ⟨⟨f16, fd16, fn_zero, m16, F16.kp, b16, lk_of F16⟩, fun _ _ _ _ h => callN_len (hF := show FT 12 = some ⟨2, 8, T__law_insert⟩ from rfl) rfl h⟩⟩
  | succ n IH =>
    obtain ⟨C_law, C__law_bag, C_meet, C__law_take, C__law_form, C__law_same, C__law_small, C__law_meet, C__law_lowered, C_echelon, C_reduced, C__law_basis, C__law_of, C_cleared, C_times, C_minus, C__law_insert⟩ := IH
    exact ⟨⟨⟨f0, fd0, fn_succ F0 sc_law (show FT 21 = some ⟨1, 17, T_law_k07⟩ from rfl) rfl rfl fun cdv A outer s H E hr => b_law C__law_bag C__law_form C__law_lowered C__law_meet C__law_same C__law_small C__law_take C_meet z_list z_range z_tuple hr (dv_fn hS hT sc_law hr), m0, F0.kp, b0, lk_of F0⟩, fun _ _ _ _ h => callN_len (hF := show FT 21 = some ⟨1, 17, T_law_k07⟩ from rfl) rfl h⟩,
      ⟨⟨f1, fd1, fn_succ F1 sc__law_bag (show FT 0 = some ⟨1, 4, T__law_bag⟩ from rfl) rfl rfl fun cdv A outer s H E hr => b__law_bag  z_int z_len hr (dv_fn hS hT sc__law_bag hr), m1, F1.kp, b1, lk_of F1⟩, fun _ _ _ _ h => callN_len (hF := show FT 0 = some ⟨1, 4, T__law_bag⟩ from rfl) rfl h⟩,
      ⟨⟨f2, fd2, fn_succ F2 sc_meet (show FT 19 = some ⟨2, 8, T_meet⟩ from rfl) rfl rfl fun cdv A outer s H E hr => b_meet C_echelon C_reduced z_len z_list hr (dv_fn hS hT sc_meet hr), m2, F2.kp, b2, lk_of F2⟩, fun _ _ _ _ h => callN_len (hF := show FT 19 = some ⟨2, 8, T_meet⟩ from rfl) rfl h⟩,
      ⟨⟨f3, fd3, fn_succ F3 sc__law_take (show FT 1 = some ⟨2, 5, T__law_take⟩ from rfl) rfl rfl fun cdv A outer s H E hr => b__law_take  z_int z_len hr (dv_fn hS hT sc__law_take hr), m3, F3.kp, b3, lk_of F3⟩, fun _ _ _ _ h => callN_len (hF := show FT 1 = some ⟨2, 5, T__law_take⟩ from rfl) rfl h⟩,
      ⟨⟨f4, fd4, fn_succ F4 sc__law_form (show FT 15 = some ⟨2, 9, T__law_form⟩ from rfl) rfl rfl fun cdv A outer s H E hr => b__law_form C__law_basis C__law_lowered z_range z_reversed hr (dv_fn hS hT sc__law_form hr), m4, F4.kp, b4, lk_of F4⟩, fun _ _ _ _ h => callN_len (hF := show FT 15 = some ⟨2, 9, T__law_form⟩ from rfl) rfl h⟩,
      ⟨⟨f5, fd5, fn_succ F5 sc__law_same (show FT 16 = some ⟨2, 4, T__law_same⟩ from rfl) rfl rfl fun cdv A outer s H E hr => b__law_same C__law_same z_all z_bool z_int z_isinstance z_len z_list z_str z_tuple z_zip hr (dv_fn hS hT sc__law_same hr), m5, F5.kp, b5, lk_of F5⟩, fun _ _ _ _ h => callN_len (hF := show FT 16 = some ⟨2, 4, T__law_same⟩ from rfl) rfl h⟩,
      ⟨⟨f6, fd6, fn_succ F6 sc__law_small (show FT 3 = some ⟨1, 1, T__law_small⟩ from rfl) rfl rfl fun cdv A outer s H E hr => b__law_small C__law_of  hr (dv_fn hS hT sc__law_small hr), m6, F6.kp, b6, lk_of F6⟩, fun _ _ _ _ h => callN_len (hF := show FT 3 = some ⟨1, 1, T__law_small⟩ from rfl) rfl h⟩,
      ⟨⟨f7, fd7, fn_succ F7 sc__law_meet (show FT 20 = some ⟨3, 7, T__law_meet⟩ from rfl) rfl rfl fun cdv A outer s H E hr => b__law_meet C__law_basis C__law_form z_list hr (dv_fn hS hT sc__law_meet hr), m7, F7.kp, b7, lk_of F7⟩, fun _ _ _ _ h => callN_len (hF := show FT 20 = some ⟨3, 7, T__law_meet⟩ from rfl) rfl h⟩,
      ⟨⟨f8, fd8, fn_succ F8 sc__law_lowered (show FT 14 = some ⟨2, 9, T__law_lowered⟩ from rfl) rfl rfl fun cdv A outer s H E hr => b__law_lowered  z_len z_list z_range z_tuple z_zip hr (dv_fn hS hT sc__law_lowered hr), m8, F8.kp, b8, lk_of F8⟩, fun _ _ _ _ h => callN_len (hF := show FT 14 = some ⟨2, 9, T__law_lowered⟩ from rfl) rfl h⟩,
      ⟨⟨f9, fd9, fn_succ F9 sc_echelon (show FT 9 = some ⟨2, 8, T_echelon⟩ from rfl) rfl rfl fun cdv A outer s H E hr => b_echelon C_cleared C_times z_list z_range hr (dv_fn hS hT sc_echelon hr), m9, F9.kp, b9, lk_of F9⟩, fun _ _ _ _ h => callN_len (hF := show FT 9 = some ⟨2, 8, T_echelon⟩ from rfl) rfl h⟩,
      ⟨⟨f10, fd10, fn_succ F10 sc_reduced (show FT 10 = some ⟨1, 8, T_reduced⟩ from rfl) rfl rfl fun cdv A outer s H E hr => b_reduced C_echelon C_minus z_len z_range z_tuple hr (dv_fn hS hT sc_reduced hr), m10, F10.kp, b10, lk_of F10⟩, fun _ _ _ _ h => callN_len (hF := show FT 10 = some ⟨1, 8, T_reduced⟩ from rfl) rfl h⟩,
      ⟨⟨f11, fd11, fn_succ F11 sc__law_basis (show FT 13 = some ⟨2, 5, T__law_basis⟩ from rfl) rfl rfl fun cdv A outer s H E hr => b__law_basis C__law_insert z_range hr (dv_fn hS hT sc__law_basis hr), m11, F11.kp, b11, lk_of F11⟩, fun _ _ _ _ h => callN_len (hF := show FT 13 = some ⟨2, 5, T__law_basis⟩ from rfl) rfl h⟩,
      ⟨⟨f12, fd12, fn_succ F12 sc__law_of (show FT 2 = some ⟨2, 2, T__law_of⟩ from rfl) rfl rfl fun cdv A outer s H E hr => b__law_of C__law_take z_len hr (dv_fn hS hT sc__law_of hr), m12, F12.kp, b12, lk_of F12⟩, fun _ _ _ _ h => callN_len (hF := show FT 2 = some ⟨2, 2, T__law_of⟩ from rfl) rfl h⟩,
      ⟨⟨f13, fd13, fn_succ F13 sc_cleared (show FT 7 = some ⟨2, 9, T_cleared⟩ from rfl) rfl rfl fun cdv A outer s H E hr => b_cleared C_minus z_abs z_len z_range hr (dv_fn hS hT sc_cleared hr), m13, F13.kp, b13, lk_of F13⟩, fun _ _ _ _ h => callN_len (hF := show FT 7 = some ⟨2, 9, T_cleared⟩ from rfl) rfl h⟩,
      ⟨⟨f14, fd14, fn_succ F14 sc_times (show FT 8 = some ⟨2, 3, T_times⟩ from rfl) rfl rfl fun cdv A outer s H E hr => b_times   hr (dv_fn hS hT sc_times hr), m14, F14.kp, b14, lk_of F14⟩, fun _ _ _ _ h => callN_len (hF := show FT 8 = some ⟨2, 3, T_times⟩ from rfl) rfl h⟩,
      ⟨⟨f15, fd15, fn_succ F15 sc_minus (show FT 6 = some ⟨3, 5, T_minus⟩ from rfl) rfl rfl fun cdv A outer s H E hr => b_minus  z_zip hr (dv_fn hS hT sc_minus hr), m15, F15.kp, b15, lk_of F15⟩, fun _ _ _ _ h => callN_len (hF := show FT 6 = some ⟨3, 5, T_minus⟩ from rfl) rfl h⟩,
      ⟨⟨f16, fd16, fn_succ F16 sc__law_insert (show FT 12 = some ⟨2, 8, T__law_insert⟩ from rfl) rfl rfl fun cdv A outer s H E hr => b__law_insert  z_len z_list z_range z_zip hr (dv_fn hS hT sc__law_insert hr), m16, F16.kp, b16, lk_of F16⟩, fun _ _ _ _ h => callN_len (hF := show FT 12 = some ⟨2, 8, T__law_insert⟩ from rfl) rfl h⟩⟩
end
end L_k07
theorem L_k07.law_true (is : List Int) (hl : is.length ≤ 63) : VM.callN L_k07.FT 180 21 [.scr is] [] (fun v _ => v = .bl true) VS.nox := VP.law_true07 is hl _
set_option maxHeartbeats 0
namespace L_k07
open PySem PySem.Spec PyProof.Rows L2 VS
def d_law : He.DefD := ⟨("law", none), "law", "law", defArgs s_law, defBody s_law, defScope s_law, [], []⟩
def d__law_bag : He.DefD := ⟨("_law_bag", none), "_law_bag", "_law_bag", defArgs s__law_bag, defBody s__law_bag, defScope s__law_bag, [], []⟩
def d_meet : He.DefD := ⟨("meet", none), "meet", "meet", defArgs s_meet, defBody s_meet, defScope s_meet, [], []⟩
def d__law_take : He.DefD := ⟨("_law_take", none), "_law_take", "_law_take", defArgs s__law_take, defBody s__law_take, defScope s__law_take, [], []⟩
def d__law_form : He.DefD := ⟨("_law_form", none), "_law_form", "_law_form", defArgs s__law_form, defBody s__law_form, defScope s__law_form, [], []⟩
def d__law_same : He.DefD := ⟨("_law_same", none), "_law_same", "_law_same", defArgs s__law_same, defBody s__law_same, defScope s__law_same, [], []⟩
def d__law_small : He.DefD := ⟨("_law_small", none), "_law_small", "_law_small", defArgs s__law_small, defBody s__law_small, defScope s__law_small, [], []⟩
def d__law_meet : He.DefD := ⟨("_law_meet", none), "_law_meet", "_law_meet", defArgs s__law_meet, defBody s__law_meet, defScope s__law_meet, [], []⟩
def d__law_lowered : He.DefD := ⟨("_law_lowered", none), "_law_lowered", "_law_lowered", defArgs s__law_lowered, defBody s__law_lowered, defScope s__law_lowered, [], []⟩
def d_echelon : He.DefD := ⟨("echelon", none), "echelon", "echelon", defArgs s_echelon, defBody s_echelon, defScope s_echelon, [], []⟩
def d_reduced : He.DefD := ⟨("reduced", none), "reduced", "reduced", defArgs s_reduced, defBody s_reduced, defScope s_reduced, [], []⟩
def d__law_basis : He.DefD := ⟨("_law_basis", none), "_law_basis", "_law_basis", defArgs s__law_basis, defBody s__law_basis, defScope s__law_basis, [], []⟩
def d__law_of : He.DefD := ⟨("_law_of", none), "_law_of", "_law_of", defArgs s__law_of, defBody s__law_of, defScope s__law_of, [], []⟩
def d_cleared : He.DefD := ⟨("cleared", none), "cleared", "cleared", defArgs s_cleared, defBody s_cleared, defScope s_cleared, [], []⟩
def d_times : He.DefD := ⟨("times", none), "times", "times", defArgs s_times, defBody s_times, defScope s_times, [], []⟩
def d_minus : He.DefD := ⟨("minus", none), "minus", "minus", defArgs s_minus, defBody s_minus, defScope s_minus, [], []⟩
def d__law_insert : He.DefD := ⟨("_law_insert", none), "_law_insert", "_law_insert", defArgs s__law_insert, defBody s__law_insert, defScope s__law_insert, [], []⟩
def fn : List He.DefD := [d_law, d__law_bag, d_meet, d__law_take, d__law_form, d__law_same, d__law_small, d__law_meet, d__law_lowered, d_echelon, d_reduced, d__law_basis, d__law_of, d_cleared, d_times, d_minus, d__law_insert]
def fa : List He.Fa := [.glo "law", .glo "_law_bag", .glo "meet", .glo "_law_take", .glo "_law_form", .glo "_law_same", .glo "_law_small", .glo "_law_meet", .glo "_law_lowered", .glo "echelon", .glo "reduced", .glo "_law_basis", .glo "_law_of", .glo "cleared", .glo "times", .glo "minus", .glo "_law_insert", .free "abs", .free "all", .free "bool", .free "int", .free "isinstance", .free "len", .free "list", .free "range", .free "reversed", .free "str", .free "tuple", .free "zip"]
abbrev R : PySem.W.OpenRow := PySem.W.OpenLaw.row PySem.Challenge.rw_whatcrosses_k07_whole_vectors_in_both_la
abbrev hk : PySem.W.Hook := He.hookD 4 fa fn
def ob (s : PySem.W.SharedT) : He.AlD := He.obsDG 4 fa fn (HandSHeadRun.getT s)
theorem ob_eq (s : PySem.W.SharedT) : ob s = hk.obs s.abs := He.obsDG_eq (HandSHeadRun.getT_eq s)
def names0 : List PySem.Str := ["__name__", "times", "minus", "cleared", "echelon", "reduced", "meet", "_law_bag", "_law_take", "_law_of", "_law_same", "_law_insert", "_law_basis", "_law_lowered", "_law_form", "_law_meet"]
def names1 : List PySem.Str := ["_law_small"]
def names : List PySem.Str := names0 ++ names1
theorem run (w : World) : HandSHeadRun.RunEq R (PySem.W.view R.prog [18]) hk ob 40000 names w := by
  intro os
  kernel_rfl
theorem facts {K : PySem.W.Frag} {h : Heap} {mg : Str → Option Value} (X : K.In h) (G : h.Ns mainGlobals mg) (c : He.SaysD fa fn K) : Fs K mg ∧ Zs mg :=
  ⟨⟨(by obtain ⟨fd, F⟩ := c.def_ 0 (d := d_law) rfl; exact ⟨_, fd, F, He.glo_ok X G (c.fact 0 (f := .glo "law") rfl)⟩),
    (by obtain ⟨fd, F⟩ := c.def_ 1 (d := d__law_bag) rfl; exact ⟨_, fd, F, He.glo_ok X G (c.fact 1 (f := .glo "_law_bag") rfl)⟩),
    (by obtain ⟨fd, F⟩ := c.def_ 2 (d := d_meet) rfl; exact ⟨_, fd, F, He.glo_ok X G (c.fact 2 (f := .glo "meet") rfl)⟩),
    (by obtain ⟨fd, F⟩ := c.def_ 3 (d := d__law_take) rfl; exact ⟨_, fd, F, He.glo_ok X G (c.fact 3 (f := .glo "_law_take") rfl)⟩),
    (by obtain ⟨fd, F⟩ := c.def_ 4 (d := d__law_form) rfl; exact ⟨_, fd, F, He.glo_ok X G (c.fact 4 (f := .glo "_law_form") rfl)⟩),
    (by obtain ⟨fd, F⟩ := c.def_ 5 (d := d__law_same) rfl; exact ⟨_, fd, F, He.glo_ok X G (c.fact 5 (f := .glo "_law_same") rfl)⟩),
    (by obtain ⟨fd, F⟩ := c.def_ 6 (d := d__law_small) rfl; exact ⟨_, fd, F, He.glo_ok X G (c.fact 6 (f := .glo "_law_small") rfl)⟩),
    (by obtain ⟨fd, F⟩ := c.def_ 7 (d := d__law_meet) rfl; exact ⟨_, fd, F, He.glo_ok X G (c.fact 7 (f := .glo "_law_meet") rfl)⟩),
    (by obtain ⟨fd, F⟩ := c.def_ 8 (d := d__law_lowered) rfl; exact ⟨_, fd, F, He.glo_ok X G (c.fact 8 (f := .glo "_law_lowered") rfl)⟩),
    (by obtain ⟨fd, F⟩ := c.def_ 9 (d := d_echelon) rfl; exact ⟨_, fd, F, He.glo_ok X G (c.fact 9 (f := .glo "echelon") rfl)⟩),
    (by obtain ⟨fd, F⟩ := c.def_ 10 (d := d_reduced) rfl; exact ⟨_, fd, F, He.glo_ok X G (c.fact 10 (f := .glo "reduced") rfl)⟩),
    (by obtain ⟨fd, F⟩ := c.def_ 11 (d := d__law_basis) rfl; exact ⟨_, fd, F, He.glo_ok X G (c.fact 11 (f := .glo "_law_basis") rfl)⟩),
    (by obtain ⟨fd, F⟩ := c.def_ 12 (d := d__law_of) rfl; exact ⟨_, fd, F, He.glo_ok X G (c.fact 12 (f := .glo "_law_of") rfl)⟩),
    (by obtain ⟨fd, F⟩ := c.def_ 13 (d := d_cleared) rfl; exact ⟨_, fd, F, He.glo_ok X G (c.fact 13 (f := .glo "cleared") rfl)⟩),
    (by obtain ⟨fd, F⟩ := c.def_ 14 (d := d_times) rfl; exact ⟨_, fd, F, He.glo_ok X G (c.fact 14 (f := .glo "times") rfl)⟩),
    (by obtain ⟨fd, F⟩ := c.def_ 15 (d := d_minus) rfl; exact ⟨_, fd, F, He.glo_ok X G (c.fact 15 (f := .glo "minus") rfl)⟩),
    (by obtain ⟨fd, F⟩ := c.def_ 16 (d := d__law_insert) rfl; exact ⟨_, fd, F, He.glo_ok X G (c.fact 16 (f := .glo "_law_insert") rfl)⟩)⟩,
   ⟨He.free_ok X G (c.fact 17 (f := .free "abs") rfl), He.free_ok X G (c.fact 18 (f := .free "all") rfl), He.free_ok X G (c.fact 19 (f := .free "bool") rfl), He.free_ok X G (c.fact 20 (f := .free "int") rfl), He.free_ok X G (c.fact 21 (f := .free "isinstance") rfl), He.free_ok X G (c.fact 22 (f := .free "len") rfl), He.free_ok X G (c.fact 23 (f := .free "list") rfl), He.free_ok X G (c.fact 24 (f := .free "range") rfl), He.free_ok X G (c.fact 25 (f := .free "reversed") rfl), He.free_ok X G (c.fact 26 (f := .free "str") rfl), He.free_ok X G (c.fact 27 (f := .free "tuple") rfl), He.free_ok X G (c.fact 28 (f := .free "zip") rfl)⟩⟩
theorem Fs_le {K K' : PySem.W.Frag} {mg : Str → Option Value} (le : LeK K K') (h : Fs K mg) : Fs K' mg := by
  obtain ⟨⟨f0, fd0, F0, m0⟩, ⟨f1, fd1, F1, m1⟩, ⟨f2, fd2, F2, m2⟩, ⟨f3, fd3, F3, m3⟩, ⟨f4, fd4, F4, m4⟩, ⟨f5, fd5, F5, m5⟩, ⟨f6, fd6, F6, m6⟩, ⟨f7, fd7, F7, m7⟩, ⟨f8, fd8, F8, m8⟩, ⟨f9, fd9, F9, m9⟩, ⟨f10, fd10, F10, m10⟩, ⟨f11, fd11, F11, m11⟩, ⟨f12, fd12, F12, m12⟩, ⟨f13, fd13, F13, m13⟩, ⟨f14, fd14, F14, m14⟩, ⟨f15, fd15, F15, m15⟩, ⟨f16, fd16, F16, m16⟩⟩ := h
  exact ⟨⟨f0, fd0, VS.FunD.le F0 le, m0⟩, ⟨f1, fd1, VS.FunD.le F1 le, m1⟩, ⟨f2, fd2, VS.FunD.le F2 le, m2⟩, ⟨f3, fd3, VS.FunD.le F3 le, m3⟩, ⟨f4, fd4, VS.FunD.le F4 le, m4⟩, ⟨f5, fd5, VS.FunD.le F5 le, m5⟩, ⟨f6, fd6, VS.FunD.le F6 le, m6⟩, ⟨f7, fd7, VS.FunD.le F7 le, m7⟩, ⟨f8, fd8, VS.FunD.le F8 le, m8⟩, ⟨f9, fd9, VS.FunD.le F9 le, m9⟩, ⟨f10, fd10, VS.FunD.le F10 le, m10⟩, ⟨f11, fd11, VS.FunD.le F11 le, m11⟩, ⟨f12, fd12, VS.FunD.le F12 le, m12⟩, ⟨f13, fd13, VS.FunD.le F13 le, m13⟩, ⟨f14, fd14, VS.FunD.le F14 le, m14⟩, ⟨f15, fd15, VS.FunD.le F15 le, m15⟩, ⟨f16, fd16, VS.FunD.le F16 le, m16⟩⟩
end L_k07
open PySem PySem.W PySem.Calls PyProof.Rows
theorem PySem.Challenge.cw_whatcrosses_k07_whole_vectors_in_both_la_holds : PySem.Challenge.rw_whatcrosses_k07_whole_vectors_in_both_la.Holds := by
  w_on; o_law
  refine HandSHeadRun.head_any (r := OpenLaw.row PySem.Challenge.rw_whatcrosses_k07_whole_vectors_in_both_la) (q := view (OpenLaw.row PySem.Challenge.rw_whatcrosses_k07_whole_vectors_in_both_la).prog [18]) (H := L_k07.hk) (ob := L_k07.ob) (M := 40000) (loose := L_k07.names) (d := HandSHeadRun.topDef (OpenLaw.row PySem.Challenge.rw_whatcrosses_k07_whole_vectors_in_both_la).prog 18) (kwd := []) L_k07.ob_eq
    (by kernel_rfl) (fun s => by kernel_rfl) L_k07.run (by kernel_rfl) (by kernel_rfl) (by kernel_rfl) (by rfl) (by first | assumption | decide +kernel) (by decide +kernel) ⟨rfl, rfl, rfl, rfl, rfl, by decide +kernel⟩ ?hw ?hc
  case hw => w_witness2
  case hc =>
    refine VS.walk_ofS (l := PySem.Challenge.rw_whatcrosses_k07_whole_vectors_in_both_la) (n := 63) (k := 220) (x := "_law_script") rfl (by decide) (by kernel_rfl) ⟨rfl, by decide, by decide⟩ (by kernel_rfl) ?F
    intro w mg fa h Y G hmg0
    obtain ⟨K, KX, c⟩ := Y
    have hmg : mg ("law" : PySem.Str) = some (.ref fa) := by
      have e : (HandSHeadRun.topDef (OpenLaw.row PySem.Challenge.rw_whatcrosses_k07_whole_vectors_in_both_la).prog 18).name = ("law" : PySem.Str) := by kernel_rfl
      rw [← e]
      exact hmg0
    obtain ⟨hF, hZ⟩ := L_k07.facts KX G c
    obtain ⟨f0, fd0, F0, m0⟩ := hF.1
    have ef : f0 = fa := by
      have e := m0.symm.trans hmg
      cases e
      rfl
    subst ef
    have b := L2.FunD.bindsA (ps := ["_law_script"]) F0 fun _ _ _ _ _ _ us hl => match us, hl with | [_], _ => rfl
    refine ⟨K, fd0, KX, fun s v => b s [v] rfl, fun K' le => ⟨VS.spOf K' (VM.callN L_k07.FT 180) 21 1, fun H a is hl hS => VS.sp_law hS (L_k07.law_true is hl), fun base hK hN hS => ?_⟩⟩
    have hF' := L_k07.Fs_le le hF
    obtain ⟨f1, fd1, F1, m1, k1, b1, lk1⟩ := (L_k07.all_ok (P := (PySem.Challenge.rw_whatcrosses_k07_whole_vectors_in_both_la).prog) (w := w) (base := base) hF' hZ hS (by kernel_rfl) 180).1.ok
    have e1 : f1 = f0 := by
      have e := m1.symm.trans m0
      cases e
      rfl
    subst e1
    have e2 : fd1 = fd0 := VS.lk_inj lk1 (VS.lk_of (VS.FunD.le F0 le))
    subst e2
    exact F1
