import PyProof.Rows.All
import HandS.TupAny
import HandS.TupMul
import HandS.Call
import HandS.Conv
import Wide.All
import OpenK.AllK
import Wide.FinOn
import HandS.ForMost
import HandS.More
import HandS.Walk
import HandS.Zip
import HandS.Rev
import HandS.IsInst
import HandS.Wide
import HandS.Deep
import HandS.Flow
import HandS.HeadHook1
import HandS.ExcInit
import HandS.Lambda
import HandS.ExcField
import KE.KTryMore
import KE.GoesMore
import KE.GoesEnum
import HandS.TryMany
import HandS.Defaults
import HandS.Words
import OpenK.KOps
import OpenK.KMeth
import KE.KOpsOwn
import HandS.OwnEq
import HandS.Property
import HandS.Gcd
import PyProof.InstNe
import KE.KFmtOwn
import HandS.Style
import HandS.Ends
import HandS.HeadEnd
import HandS.HeadHook2
import HandS.Head0
import HandS.Head1
import HandS.Head2
import PyProof.SetNew
import PyProof.Rows.SetFrom
import HandS.Strs
import HandS.Text
import HandS.TupSets
import HandS.Dict
import HandS.RevRange
import HandS.ClsMeth
import HandS.Star
import PyProof.Conv_bool
import KE.KExcInit
import HandS.HotCalls
import KE.KDflt
import HandS.EndTab
import HandS.FStr
import KE.KRevSl
import KE.IntTextLaws
import HandS.ListItems
import KE.KEqDict
import PySem.Challenge.RW_whatcrosses_k03_sums_and_kept_rows
set_option Elab.async false
set_option linter.all false
set_option maxRecDepth 100000
set_option maxHeartbeats 4000000
section
namespace VS
open PySem PySem.Spec PyProof.Rows L2
def Pl (o : Obj) : Prop := o.cls = .type "tuple" ∧ o.dict = none
section
variable {X : Cx} {es : List Expr} {pos : Pos} {t : L2.TA}
def tTupX (t : L2.TA) : L2.TE := fun σ H Q => t σ H fun xs H1 => xs.length ≤ sizeLine ∧ ∀ p o, H1 p = none → Pl o → Q (.ref p) (upd H1 p (.frz o (.tup xs)))
theorem pe_tupX {x1} (h : PA X es t) : PE X (.Tuple es x1 pos) (tTupX t) := by
  refine ⟨fun pins s σ H Q I hq => ?_⟩
  refine wpAny_Tuple_spliced (thn (h.run pos pins s σ H _ I hq) fun us s1 ⟨xs, H1, I1, r, z, q⟩ => ⟨by rw [← r.length]; exact z, ?_⟩)
  have hf : H1 s1.heap.objs.size = none := I1.hok.fresh (Nat.le_refl _)
  refine ⟨.ref s1.heap.objs.size, upd H1 s1.heap.objs.size (.frz { cls := .type "tuple", data := .seq us.toArray } (.tup xs)), I1.laid (t' := s1.toks) (fun b u e => Heap.get?_push_of_some _ e) (Nat.le_refl _) ?_, rfl, q _ { cls := .type "tuple", data := .seq us.toArray } hf ⟨rfl, rfl⟩⟩
  exact ⟨Heap.get?_push_size _ rfl, z, us, r, ⟨_, Heap.get?_push_size _ rfl, rfl, _, rfl⟩⟩
theorem call_tupleX : CallR X (.type "tuple") (fun xs H Q => ∃ p ys, xs = [.ref p] ∧ ((SqL X.K H p ys ∧ ∀ l o, H l = none → Pl o → Q (.ref l) (upd H l (.frz o (.tup ys)))) ∨ (SqT X.K H p ys ∧ Q (.ref p) H))) := by
  intro pins s σ H xs us Q I r h
  obtain ⟨p, ys, rfl, h⟩ := h
  obtain ⟨u, rfl, rx⟩ := vals1 r
  cases rx
  rcases h with ⟨hq, q⟩ | ⟨hq, q⟩
  · obtain ⟨its, r', pl, hz⟩ := I.list hq
    have hlen := r'.length
    refine call_tuple_list pl.isList (fun h' kp => ?_) (by simp only [List.size_toArray] <;> omega)
    have I1 : Inv X pins σ H { s with heap := h' } := I.kept (t' := s.toks) kp
    have I2 : Inv X pins σ (upd H h'.objs.size (.frz { cls := .type "tuple", data := .seq its.toArray } (.tup ys))) { s with heap := h'.push { cls := .type "tuple", data := .seq its.toArray } } :=
      I1.laid (t' := s.toks) (fun b o e => Heap.get?_push_of_some _ e) (Nat.le_refl _) ⟨Heap.get?_push_size _ rfl, hz, its, r', IsTup.new _ _⟩
    exact ⟨.ref h'.objs.size, _, I2, rfl, q _ _ (I1.hok.fresh (Nat.le_refl _)) ⟨rfl, rfl⟩⟩
  · obtain ⟨its, r', pl, hz⟩ := I.tuple hq
    exact call_tuple_same pl ⟨.ref p, H, I, rfl, q⟩
theorem op_catX : OpR X (binaryOp .Add) (fun x y H Q => ∃ a b xs ys, x = .ref a ∧ y = .ref b ∧ SqT X.K H a xs ∧ SqT X.K H b ys ∧ xs.length + ys.length ≤ sizeLine ∧
    (xs = [] → Q (.ref b) H) ∧ (xs ≠ [] → ys = [] → Q (.ref a) H) ∧ (xs ≠ [] → ys ≠ [] → ∀ p o, H p = none → Pl o → Q (.ref p) (upd H p (.frz o (.tup (xs ++ ys)))))) := by
  intro pins s σ H x y v u Q I rx ry h
  obtain ⟨a, b, xs, ys, rfl, rfl, ha, hb, hz, q0, q1, q2⟩ := h
  cases rx
  cases ry
  obtain ⟨its, r1, p1, _⟩ := I.tuple ha
  obtain ⟨its2, r2, p2, _⟩ := I.tuple hb
  by_cases hx : xs = []
  · subst hx
    cases r1
    exact cat_tup0 p1 p2 ⟨.ref b, H, I, rfl, q0 rfl⟩
  · refine HT.cat_tup p1 p2 (fun z => hx (r1.nil_iff.mp z)) (fun z => ⟨.ref a, H, I, rfl, q1 hx (r2.nil_iff.mp z)⟩) (fun z => ?_) (by rw [← r1.length, ← r2.length]; exact hz)
    have e := I.laid (h' := s.heap.push { cls := .type "tuple", data := .seq (its ++ its2).toArray }) (a := s.heap.objs.size) (t' := s.toks) (o := .frz { cls := .type "tuple", data := .seq (its ++ its2).toArray } (.tup (xs ++ ys))) (fun b ob q => Heap.get?_push_of_some _ q) (Nat.le_refl _)
      ⟨Heap.get?_push_size _ rfl, by rw [List.length_append]; exact hz, _, r1.append r2, IsTup.new _ _⟩
    exact ⟨.ref s.heap.objs.size, _, by simpa using e, rfl, q2 hx (fun w => z (r2.nil_iff.mpr w)) _ { cls := .type "tuple", data := .seq (its ++ its2).toArray } (I.hok.fresh (Nat.le_refl _)) ⟨rfl, rfl⟩⟩
theorem sl_tupX : SlR X (fun x lo hi H Q => ∃ a xs, x = .ref a ∧ SqT X.K H a xs ∧
    (HT.sIx xs.length 0 lo = 0 ∧ HT.sIx xs.length xs.length hi = xs.length → Q (.ref a) H) ∧ (¬ (HT.sIx xs.length 0 lo = 0 ∧ HT.sIx xs.length xs.length hi = xs.length) → ∀ p o, H p = none → Pl o → Q (.ref p) (upd H p (.frz o (.tup (cutV xs lo hi)))))) := by
  intro pins s σ H x v vl vu lo hi sl Q I rx hs pl pu h
  obtain ⟨a, xs, rfl, hx, q1, q2⟩ := h
  cases rx
  obtain ⟨its, r, ht, hz⟩ := I.tuple hx
  have hlen : its.toArray.size = xs.length := by rw [List.size_toArray]; exact r.length.symm
  refine ⟨"tuple", _, PyProof.Rows.slot_tuple_getitem.lookup, ht.typeIs, ?_⟩
  by_cases hw : HT.sIx xs.length 0 lo = 0 ∧ HT.sIx xs.length xs.length hi = xs.length
  · exact getItem_tuple_whole ht hs pl pu (by rw [hlen]; exact hw) ⟨.ref a, H, I, rfl, q1 hw⟩
  · refine HT.getItem_tuple_cut ht hs pl pu (by rw [hlen]; exact hw) ?_ (by rw [hlen]; exact hz)
    rw [hlen]
    have e := I.laid (h' := s.heap.push { cls := .type "tuple", data := .seq ((its.drop (HT.sIx xs.length 0 lo)).take (HT.sIx xs.length xs.length hi - HT.sIx xs.length 0 lo)).toArray }) (a := s.heap.objs.size) (t' := s.toks) (o := .frz { cls := .type "tuple", data := .seq ((its.drop (HT.sIx xs.length 0 lo)).take (HT.sIx xs.length xs.length hi - HT.sIx xs.length 0 lo)).toArray } (.tup (cutV xs lo hi))) (fun b ob q => Heap.get?_push_of_some _ q) (Nat.le_refl _)
      ⟨Heap.get?_push_size _ rfl, Nat.le_trans (cutV_length xs lo hi) hz, _, (r.drop (HT.sIx xs.length 0 lo)).take (HT.sIx xs.length xs.length hi - HT.sIx xs.length 0 lo), IsTup.new _ _⟩
    exact ⟨.ref s.heap.objs.size, _, e, rfl, q2 hw _ _ (I.hok.fresh (Nat.le_refl _)) ⟨rfl, rfl⟩⟩
theorem op_repTX : OpR X (binaryOp .Mult) (fun x y H Q => ∃ l k xs, x = .ref l ∧ y = .int k ∧ SqT X.K H l xs ∧ xs ≠ [] ∧ 2 ≤ k ∧ k ≤ 1000 ∧ xs.length ≤ 1000 ∧ ∀ p o, H p = none → Pl o → Q (.ref p) (upd H p (.frz o (.tup (List.replicate k.toNat xs).flatten)))) := by
  intro pins s σ H x y v u Q I rx ry h
  obtain ⟨l, k, xs, rfl, rfl, hT, hne, h1, h2, hz, q⟩ := h
  cases rx
  obtain ⟨t, rfl⟩ := ry
  obtain ⟨its, r, ⟨⟨cls, dd, data, sl⟩, ho, hc, n, hd⟩, hs⟩ := I.tuple hT
  simp only at hc hd
  subst hc hd
  have hle : its.length = xs.length := r.length.symm
  have hn : its ≠ [] := fun e => hne (by
    rw [e] at hle
    exact List.eq_nil_of_length_eq_zero hle.symm)
  have hi : its.toArray.isEmpty = false := by
    cases its with
    | nil => exact absurd rfl hn
    | cons a b => rfl
  have hsz0 : its.toArray.size = xs.length := by rw [List.size_toArray, hle]
  have hm : ((its.toArray.size : Nat) : Int) * k ≤ 1000000 := by
    rw [hsz0]
    have a1 : ((xs.length : Nat) : Int) * k ≤ 1000 * k := Int.mul_le_mul_of_nonneg_right (by omega) (by omega)
    omega
  have flen : (List.replicate k.toNat its).flatten.length ≤ sizeLine := by
    rw [PyProof.Rows.lm_len_rep_flat, hle, sizeLine_eq]
    have a1 : k.toNat * xs.length ≤ 1000 * 1000 := Nat.mul_le_mul (by omega) hz
    omega
  have c0 : (decide (k < -(2 ^ 63)) || decide (k ≥ 2 ^ 63)) = false := by
    rw [decide_eq_false (by omega), decide_eq_false (by omega)] <;> rfl
  have c1 : (its.toArray.isEmpty || k == 1) = false := by
    rw [hi, Bool.false_or]
    exact beq_eq_false_iff_ne.mpr (by omega)
  have c2 : (decide (k ≤ 0) || its.toArray.isEmpty) = false := by
    rw [hi, Bool.or_false]
    exact decide_eq_false (by omega)
  have c4 : Builtin.Tuple.tupleTooMany (((its.toArray.size : Nat) : Int) * k) = false := by
    unfold Builtin.Tuple.tupleTooMany
    rw [sizeLine_eq]
    exact decide_eq_false (by omega)
  refine wpAny_binaryOp_repeat_ref (T := "tuple") (U := "int") (by decide) ⟨_, ho, rfl⟩ (fun s' => typeIs_int s' k t) noFill_tuple_mul F.fills_int_mul F.slot_int_rmul repeat_tuple F.slot_int_index.lookup
    (call_meets F.slot_int_rmul (typeIs_int s k t) F.entry_int_rmul (F.args_int_rmul_2 _ _) (int_rmul_tuple k t l its.toArray n dd sl)
      ⟨ho, rfl, ⟨_, ho, rfl⟩, call_meets F.slot_tuple_mul ⟨_, ho, rfl⟩ F.entry_tuple_mul (F.args_tuple_mul_2 _ _) (tuple_mulW l its.toArray n dd sl k t c0 c1 c2 (by omega) c4 (by rw [size_rep, List.size_toArray]; exact flen)) ⟨ho, ?_⟩⟩)
  rw [size_rep]
  have e := I.laid (h' := s.heap.push { cls := .type "tuple", data := .seq (List.replicate k.toNat its).flatten.toArray }) (a := s.heap.objs.size) (t' := s.toks) (o := .frz { cls := .type "tuple", data := .seq (List.replicate k.toNat its).flatten.toArray } (.tup (List.replicate k.toNat xs).flatten)) (fun b ob q => Heap.get?_push_of_some _ q) (Nat.le_refl _)
    ⟨Heap.get?_push_size _ rfl, by rw [PyProof.Rows.lm_len_rep_flat, sizeLine_eq]; have a1 : k.toNat * xs.length ≤ 1000 * 1000 := Nat.mul_le_mul (by omega) hz; omega, _, r.rep k.toNat, IsTup.new _ _⟩
  exact ⟨.ref s.heap.objs.size, _, e, rfl, q _ _ (I.hok.fresh (Nat.le_refl _)) ⟨rfl, rfl⟩⟩
end
end VS
end
section
namespace VM
abbrev Sg := List Nat
inductive PV where
  | non | bl (b : Bool) | int (i : Int) | str (s : Sg)
  | tup (xs : List PV) | lst (xs : List PV)
  | dct (ks vs : List PV)
  | dctT (ks vs : List PV)
  | obj (c : Nat) (ks : List Nat) (vs : List PV)
  | scr (is : List Int)
  | ref (i : Nat)
  | ty (n : Nat) | fn (f : Nat) | cls (c : Nat)
  | exc (c : Nat) (ks : List Nat) (vs : List PV)
  | lam (i : Nat) (j : Option Nat)
  deriving Inhabited
inductive SO where
  | dead
  | lst (xs : List PV)
  | dct (ks vs : List PV)
  | dctT (ks vs : List PV)
  | ins (c : Nat) (ks : List Nat) (vs : List PV)
  | live (b : Bool) (ls : List (Nat × List PV))
  deriving Inhabited
abbrev Store := List SO
abbrev SZ : Nat := 16777216
abbrev Env := List (Option PV)
abbrev KV := PV → Store → Prop
abbrev TE := Env → Store → KV → KV → Prop
abbrev TT := Env → Store → (Bool → Store → Prop) → KV → Prop
abbrev TA := Env → Store → (List PV → Store → Prop) → KV → Prop
structure Ends where
  nx : Env → Store → Prop
  rt : KV
  bk : Env → Store → Prop
  ct : Env → Store → Prop
  xk : KV
abbrev TS := Ends → Env → Store → Prop
abbrev TG := PV → Env → Store → (Env → Store → Prop) → Prop
abbrev CS := Nat → List PV → Store → KV → KV → Prop

mutual
def eqv : PV → PV → Bool
  | .non, y => match y with | .non => true | _ => false
  | .bl a, y => match y with | .bl b => a == b | .int j => (if a then 1 else 0) == j | _ => false
  | .int i, y => match y with | .int j => i == j | .bl b => i == (if b then 1 else 0) | _ => false
  | .str a, y => match y with | .str b => a == b | _ => false
  | .tup xs, y => match y with | .tup ys => eqvL xs ys | _ => false
  | .lst xs, y => match y with | .lst ys => eqvL xs ys | _ => false
  | _, _ => false
def eqvL : List PV → List PV → Bool
  | [], ys => match ys with | [] => true | _ => false
  | x :: xs, ys => match ys with | y :: ys => eqv x y && eqvL xs ys | [] => false
end
mutual
def isD : Nat → PV → Bool
  | _, .non => true
  | _, .bl _ => true
  | _, .int _ => true
  | _, .str _ => true
  | n, .tup xs => match n with | 0 => false | n + 1 => isDL n xs
  | n, .lst xs => match n with | 0 => false | n + 1 => isDL n xs
  | _, _ => false
def isDL : Nat → List PV → Bool
  | _, [] => true
  | n, x :: xs => isD n x && isDL n xs
end
def asL (st : Store) : PV → Option (List PV)
  | .lst xs => some xs
  | .ref i => match st[i]? with | some (.lst xs) => some xs | _ => none
  | _ => none
def signs (s : Sg) : List PV := s.map fun c => .str [c]
def items (st : Store) : PV → Option (List PV)
  | .lst xs => some xs
  | .tup xs => some xs
  | .str s => some (signs s)
  | .dct ks _ => some ks
  | .dctT ks _ => some ks
  | .ref i => match st[i]? with | some (.lst xs) => some xs | some (.dct ks _) => some ks | some (.dctT ks _) => some ks | _ => none
  | _ => none
def stays (st0 : Store) : PV → Store → Prop
  | .ref i, st => st[i]? = st0[i]?
  | _, _ => True
def truth (st : Store) : PV → Option Bool
  | .non => some false
  | .bl b => some b
  | .int i => some (decide (i ≠ 0))
  | .str s => some (!s.isEmpty)
  | .tup xs => some (!xs.isEmpty)
  | .lst xs => some (!xs.isEmpty)
  | .dct ks _ => some (!ks.isEmpty)
  | .dctT ks _ => some (!ks.isEmpty)
  | .ref i => match st[i]? with | some (.lst xs) => some (!xs.isEmpty) | some (.dct ks _) => some (!ks.isEmpty) | some (.dctT ks _) => some (!ks.isEmpty) | _ => none
  | _ => none
def ix (n : Nat) (i : Int) : Option Nat := if 0 ≤ i then (if i < n then some i.toNat else none) else if -(n : Int) ≤ i then some (i + n).toNat else none

def MulOk (i j : Int) : Prop := i.natAbs.log2 + j.natAbs.log2 < 100000000
def DivOk (_i j : Int) : Prop := j ≠ 0
def PowOk (i j : Int) : Prop := 0 ≤ j ∧ j ≤ 1000000 ∧ i.natAbs < 2 ^ 64

inductive Op where | add | sub | mul | fdiv | mod | pow | band
  deriving DecidableEq
inductive Cm where | eq | ne | lt | le | gt | ge | isN | notN | isin | notin
  deriving DecidableEq
def opAdd (x y : PV) (st : Store) (k : KV) : Prop := match x, y with
  | .int i, .int j => k (.int (i + j)) st
  | .str a, .str b => a.length + b.length ≤ SZ ∧ k (.str (a ++ b)) st
  | .tup a, .tup b => a.length + b.length ≤ SZ ∧ k (.tup (a ++ b)) st
  | x, y => match asL st x, asL st y with
    | some a, some b => a.length + b.length ≤ SZ ∧ k (.lst (a ++ b)) st
    | _, _ => False
def opSub (x y : PV) (st : Store) (k : KV) : Prop := match x, y with
  | .int i, .int j => k (.int (i - j)) st
  | _, _ => False
def opMul (x y : PV) (st : Store) (k : KV) : Prop := match x, y with
  | .int i, .int j => MulOk i j ∧ k (.int (i * j)) st
  | .lst a, .int j => -(2 ^ 63) ≤ j ∧ j < 2 ^ 63 ∧ a.length * j.toNat ≤ SZ ∧ k (.lst (List.replicate j.toNat a).flatten) st
  | .tup a, .int j => a ≠ [] ∧ 2 ≤ j ∧ j ≤ 1000 ∧ a.length ≤ 1000 ∧ k (.tup (List.replicate j.toNat a).flatten) st
  | _, _ => False
def opFdiv (x y : PV) (st : Store) (k : KV) : Prop := match x, y with
  | .int i, .int j => DivOk i j ∧ k (.int (i.fdiv j)) st
  | _, _ => False
def opMod (x y : PV) (st : Store) (k : KV) : Prop := match x, y with
  | .int i, .int j => j ≠ 0 ∧ k (.int (i.fmod j)) st
  | _, _ => False
def opPow (x y : PV) (st : Store) (k : KV) : Prop := match x, y with
  | .int i, .int j => PowOk i j ∧ k (.int (i ^ j.toNat)) st
  | _, _ => False
def opBin : Op → PV → PV → Store → KV → Prop
  | .add => opAdd | .sub => opSub | .mul => opMul | .fdiv => opFdiv | .mod => opMod | .pow => opPow
  | .band => fun _ _ _ _ => False
def opIn (x y : PV) (st : Store) (k : Bool → Store → Prop) : Prop := match y with
  | .str s => match x with | .str [c] => k (decide (c ∈ s)) st | _ => False
  | .tup ys => isD 0 x = true ∧ isDL 0 ys = true ∧ k (ys.any fun y => eqv y x) st
  | y => match asL st y with
    | some ys => isD 0 x = true ∧ isDL 0 ys = true ∧ k (ys.any fun y => eqv y x) st
    | none => False
def frz (st : Store) : PV → PV
  | .ref i => match st[i]? with | some (.lst xs) => .lst xs | _ => .ref i
  | x => x
def opEq (x y : PV) (st : Store) (k : Bool → Store → Prop) : Prop := isD 60 (frz st x) = true ∧ isD 60 (frz st y) = true ∧ k (eqv (frz st x) (frz st y)) st
def isNon : PV → Bool
  | .non => true
  | _ => false
def opCm (c : Cm) (x y : PV) (st : Store) (k : Bool → Store → Prop) : Prop := match c with
  | .eq => opEq x y st k
  | .ne => opEq x y st fun b st => k (!b) st
  | .lt => match x, y with | .int i, .int j => k (decide (i < j)) st | _, _ => False
  | .le => match x, y with | .int i, .int j => k (decide (i ≤ j)) st | _, _ => False
  | .gt => match x, y with | .int i, .int j => k (decide (j < i)) st | _, _ => False
  | .ge => match x, y with | .int i, .int j => k (decide (j ≤ i)) st | _, _ => False
  | .isN => isNon y = true ∧ k (isNon x) st
  | .notN => isNon y = true ∧ k (!isNon x) st
  | .isin => opIn x y st k
  | .notin => opIn x y st fun b st => k (!b) st

def eVar (i : Nat) : TE := fun ρ st k _ => match ρ[i]? with | some (some v) => k v st | _ => False
def eC (v : PV) : TE := fun _ st k _ => k v st
def eBin (o : Op) (a b : TE) : TE := fun ρ st k x => a ρ st (fun u st => b ρ st (fun v st => opBin o u v st k) x) x
def eNeg (a : TE) : TE := fun ρ st k x => a ρ st (fun u st => match u with | .int i => k (.int (-i)) st | _ => False) x
def eCmp (c : Cm) (a b : TE) : TE := fun ρ st k x => a ρ st (fun u st => b ρ st (fun v st => opCm c u v st fun r st => k (.bl r) st) x) x
def eChain (c d : Cm) (a b e : TE) : TE := fun ρ st k x => a ρ st (fun u st => b ρ st (fun v st => opCm c u v st fun r st => if r = true then e ρ st (fun w st => opCm d v w st fun r st => k (.bl r) st) x else k (.bl false) st) x) x
def tOf (a : TE) : TT := fun ρ st k x => a ρ st (fun u st => match truth st u with | some b => k b st | none => False) x
def tCmp (c : Cm) (a b : TE) : TT := fun ρ st k x => a ρ st (fun u st => b ρ st (fun v st => opCm c u v st k) x) x
def tChain (c d : Cm) (a b e : TE) : TT := fun ρ st k x => a ρ st (fun u st => b ρ st (fun v st => opCm c u v st fun r st => if r = true then e ρ st (fun w st => opCm d v w st k) x else k false st) x) x
def tAnd (a b : TT) : TT := fun ρ st k x => a ρ st (fun r st => if r = true then b ρ st k x else k false st) x
def tOr (a b : TT) : TT := fun ρ st k x => a ρ st (fun r st => if r = true then k true st else b ρ st k x) x
def tNot (a : TT) : TT := fun ρ st k x => a ρ st (fun r st => k (!r) st) x
def eTest (a : TT) : TE := fun ρ st k x => a ρ st (fun r st => k (.bl r) st) x
def eAnd (a b : TE) : TE := fun ρ st k x => a ρ st (fun u st => match truth st u with | some true => b ρ st k x | some false => k u st | none => False) x
def eOr (a b : TE) : TE := fun ρ st k x => a ρ st (fun u st => match truth st u with | some false => b ρ st k x | some true => k u st | none => False) x
def eNot (a : TE) : TE := fun ρ st k x => a ρ st (fun u st => match truth st u with | some b => k (.bl !b) st | none => False) x
def eIf (t : TT) (a b : TE) : TE := fun ρ st k x => t ρ st (fun r st => if r = true then a ρ st k x else b ρ st k x) x
def aNil : TA := fun _ st k _ => k [] st
def aCons (a : TE) (r : TA) : TA := fun ρ st k x => a ρ st (fun u st => r ρ st (fun us st => k (u :: us) st) x) x
def eLst (a : TA) : TE := fun ρ st k x => a ρ st (fun us st => us.length ≤ SZ ∧ k (.lst us) st) x
def eLstM (a : TA) : TE := fun ρ st k x => a ρ st (fun us st => us.length ≤ SZ ∧ k (.ref st.length) (st ++ [.lst us])) x
def eTup (a : TA) : TE := fun ρ st k x => a ρ st (fun us st => us.length ≤ SZ ∧ k (.tup us) st) x
def eCall (cs : CS) (f : Nat) (a : TA) : TE := fun ρ st k x => a ρ st (fun us st => cs f us st k x) x
def getIx (u v : PV) (st : Store) (k : KV) : Prop := match v with
  | .int i => match u with
    | .tup xs => match ix xs.length i with | some n => (match xs[n]? with | some y => k y st | none => False) | none => False
    | .str s => match ix s.length i with | some n => (match s[n]? with | some c => k (.str [c]) st | none => False) | none => False
    | u => match asL st u with
      | some xs => match ix xs.length i with | some n => (match xs[n]? with | some y => k y st | none => False) | none => False
      | none => False
  | _ => False
def eIx (a b : TE) : TE := fun ρ st k x => a ρ st (fun u st => b ρ st (fun v st => getIx u v st k) x) x
def cutIx (n d : Nat) : Option Int → Nat
  | none => d
  | some v => if v < 0 then (v + (n : Int)).toNat else min v.toNat n
def slc {α : Type} (xs : List α) (lo hi : Option Int) : List α := (xs.drop (cutIx xs.length 0 lo)).take (cutIx xs.length xs.length hi - cutIx xs.length 0 lo)
def getSl (u : PV) (lo hi : Option Int) (st : Store) (k : KV) : Prop := match u with
  | .tup xs => k (.tup (slc xs lo hi)) st
  | .str s => k (.str (slc s lo hi)) st
  | .scr is => k (.lst (slc (is.map PV.int) lo hi)) st
  | u => match asL st u with
    | some xs => k (.lst (slc xs lo hi)) st
    | none => False
def eSl (a : TE) (lo hi : Option TE) : TE := fun ρ st k x => a ρ st (fun u st =>
  (match lo with | none => fun (k : Option Int → Store → Prop) => k none st | some e => fun k => e ρ st (fun v st => match v with | .int i => k (some i) st | _ => False) x) fun lo st =>
  (match hi with | none => fun (k : Option Int → Store → Prop) => k none st | some e => fun k => e ρ st (fun v st => match v with | .int i => k (some i) st | _ => False) x) fun hi st =>
  getSl u lo hi st k) x

def gName (i : Nat) : TG := fun v ρ st k => k (ρ.set i (some v)) st
def gEach : List TG → List PV → Env → Store → (Env → Store → Prop) → Prop
  | [], [], ρ, st, k => k ρ st
  | t :: ts, v :: vs, ρ, st, k => t v ρ st fun ρ st => gEach ts vs ρ st k
  | _, _, _, _, _ => False
def gTup (ts : List TG) : TG := fun v ρ st k => match v with | .tup xs => xs.length = ts.length ∧ gEach ts xs ρ st k | _ => False
abbrev TI := Env → Store → (List PV → (Store → Prop) → Store → Prop) → KV → Prop
def isSeq (st : Store) : PV → Bool
  | .lst _ => true
  | .tup _ => true
  | .str _ => true
  | .ref i => match st[i]? with | some (.lst _) => true | _ => false
  | _ => false
def iE (a : TE) : TI := fun ρ st k x => a ρ st (fun u st => match items st u with | some xs => isSeq st u = true ∧ k xs (stays st u) st | none => False) x
def i62 (i : Int) : Prop := -(2 ^ 62) ≤ i ∧ i < 2 ^ 62
def iRange1 (a : TE) : TI := fun ρ st k x => a ρ st (fun u st => match u with | .int n => i62 n ∧ k ((List.range n.toNat).map fun (i : Nat) => .int (i : Int)) (fun _ => True) st | _ => False) x
def iRange2 (a b : TE) : TI := fun ρ st k x => a ρ st (fun u st => b ρ st (fun v st => match u, v with | .int m, .int n => i62 m ∧ i62 n ∧ k ((List.range (n - m).toNat).map fun (i : Nat) => .int (m + (i : Int))) (fun _ => True) st | _, _ => False) x) x
def sq (st : Store) : PV → Option (List PV)
  | .tup xs => some xs
  | u => asL st u
def iZip (a b : TE) : TI := fun ρ st k x => a ρ st (fun u st => b ρ st (fun v st => match sq st u, sq st v with
  | some xs, some ys => k (List.zipWith (fun x y => .tup [x, y]) xs ys) (fun st' => stays st u st' ∧ stays st v st') st | _, _ => False) x) x
def iRev (a : TE) : TI := fun ρ st k x => a ρ st (fun u st => match asL st u with | some xs => k xs.reverse (stays st u) st | none => False) x
def wipe (ρ : Env) : List Nat → Env
  | [] => ρ
  | v :: vs => (wipe ρ vs).set v none
def compGo (g : TG) (t : TT) (e : TE) (own : List Nat) (stay : Store → Prop) : List PV → List PV → Env → Store → (List PV → Store → Prop) → Prop
  | [], acc, _, st, k => stay st ∧ k acc st
  | v :: r, acc, ρ, st, k => stay st ∧ g v ρ st fun ρ' st => t ρ' st (fun b st => if b = true then e ρ' st (fun y st => acc.length < SZ ∧ compGo g t e own stay r (acc ++ [y]) ρ st k) (fun _ _ => False) else compGo g t e own stay r acc ρ st k) (fun _ _ => False)
def eComp (i : TI) (g : TG) (t : TT) (e : TE) (own : List Nat) : TE := fun ρ st k x => i ρ st (fun xs stay st => compGo g t e own stay xs [] (wipe ρ own) st fun ys st => k (.lst ys) st) x
def eCompM (i : TI) (g : TG) (t : TT) (e : TE) (own : List Nat) : TE := fun ρ st k x => i ρ st (fun xs stay st => compGo g t e own stay xs [] (wipe ρ own) st fun ys st => k (.ref st.length) (st ++ [.lst ys])) x
def tYes : TT := fun _ st k _ => k true st

def sNil : TS := fun D ρ st => D.nx ρ st
def sCons (a b : TS) : TS := fun D ρ st => a { D with nx := b D } ρ st
def sSet (g : TG) (e : TE) : TS := fun D ρ st => e ρ st (fun v st => g v ρ st D.nx) D.xk
def sPar (is : List Nat) (a : TA) : TS := fun D ρ st => a ρ st (fun vs st => gEach (is.map gName) vs ρ st D.nx) D.xk
def setIx (u v w : PV) (st : Store) (k : Store → Prop) : Prop := match u, v with
  | .ref r, .int i => match st[r]? with
    | some (.lst xs) => match ix xs.length i with | some n => k (st.set r (.lst (xs.set n w))) | none => False
    | _ => False
  | _, _ => False
def sSetIx (a b e : TE) : TS := fun D ρ st => e ρ st (fun w st => a ρ st (fun u st => b ρ st (fun v st => setIx u v w st fun st => D.nx ρ st) D.xk) D.xk) D.xk
def sExpr (e : TE) : TS := fun D ρ st => e ρ st (fun _ st => D.nx ρ st) D.xk
def sRet (e : TE) : TS := fun D ρ st => e ρ st D.rt D.xk
def sRetN : TS := fun D _ st => D.rt .non st
def sIf (t : TT) (a b : TS) : TS := fun D ρ st => t ρ st (fun r st => if r = true then a D ρ st else b D ρ st) D.xk
def sBreak : TS := fun D ρ st => D.bk ρ st
def sCont : TS := fun D ρ st => D.ct ρ st
def forGo (g : TG) (b : TS) (stay : Store → Prop) : List PV → Ends → Env → Store → Prop
  | [], D, ρ, st => stay st ∧ D.nx ρ st
  | v :: r, D, ρ, st => stay st ∧ g v ρ st fun ρ st => b { D with nx := forGo g b stay r D, ct := forGo g b stay r D, bk := D.nx } ρ st
def sFor (i : TI) (g : TG) (b : TS) : TS := fun D ρ st => i ρ st (fun xs stay st => forGo g b stay xs D ρ st) D.xk
def eAppend (a e : TE) : TE := fun ρ st k x => a ρ st (fun u st => (asL st u).isSome = true ∧ e ρ st (fun v st => match u with
  | .ref r => (match st[r]? with | some (.lst xs) => xs.length < SZ ∧ k .non (st.set r (.lst (xs ++ [v]))) | _ => False)
  | _ => False) x) x
def eInsert (a i e : TE) : TE := fun ρ st k x => a ρ st (fun u st => (asL st u).isSome = true ∧ i ρ st (fun w st => e ρ st (fun v st => match u, w with
  | .ref r, .int n => (match st[r]? with | some (.lst xs) => 0 ≤ n ∧ n < 2 ^ 62 ∧ xs.length < SZ ∧ k .non (st.set r (.lst (xs.take n.toNat ++ [v] ++ xs.drop n.toNat))) | _ => False)
  | _, _ => False) x) x) x

def bLen (u : PV) (st : Store) : Option Nat := match u with
  | .tup xs => some xs.length
  | .str s => some s.length
  | .dct ks _ => some ks.length
  | .dctT ks _ => some ks.length
  | u => match asL st u with
    | some xs => some xs.length
    | none => match u with
      | .ref i => match st[i]? with | some (.dct ks _) => some ks.length | some (.dctT ks _) => some ks.length | _ => none
      | _ => none
def eB1 (f : PV → Store → KV → Prop) (a : TE) : TE := fun ρ st k x => a ρ st (fun u st => f u st k) x
def fLen (u : PV) (st : Store) (k : KV) : Prop := match bLen u st with | some n => k (.int n) st | none => False
def fAbs (u : PV) (st : Store) (k : KV) : Prop := match u with | .int i => k (.int i.natAbs) st | _ => False
def fInt (u : PV) (st : Store) (k : KV) : Prop := match u with | .int i => k (.int i) st | .bl b => k (.int (if b then 1 else 0)) st | _ => False
def seqOf (st : Store) : PV → Option (List PV)
  | .tup xs => some xs
  | u => asL st u
def fList (u : PV) (st : Store) (k : KV) : Prop := match seqOf st u with | some xs => k (.lst xs) st | none => False
def fListM (u : PV) (st : Store) (k : KV) : Prop := match seqOf st u with | some xs => k (.ref st.length) (st ++ [.lst xs]) | none => False
def fTuple (u : PV) (st : Store) (k : KV) : Prop := match seqOf st u with | some xs => k (.tup xs) st | none => False
def allInt : List PV → Option (List Int)
  | [] => some []
  | .int i :: r => (allInt r).map (i :: ·)
  | _ :: _ => none
def fSum (u : PV) (st : Store) (k : KV) : Prop := match asL st u with | some xs => (match allInt xs with | some is => k (.int is.sum) st | none => False) | none => False
def allBl : List PV → Option (List Bool)
  | [] => some []
  | .bl b :: r => (allBl r).map (b :: ·)
  | _ :: _ => none
def fAll (u : PV) (st : Store) (k : KV) : Prop := match asL st u with | some xs => (match allBl xs with | some bs => k (.bl (bs.all id)) st | none => False) | none => False
def fAny (u : PV) (st : Store) (k : KV) : Prop := match asL st u with | some xs => (match allBl xs with | some bs => k (.bl (bs.any id)) st | none => False) | none => False
inductive Ty where | int | bool | str | list | tuple | dict
  deriving DecidableEq
inductive Kd where | non | bool | int | str | list | tuple | dict | other
  deriving DecidableEq
def kdOf (st : Store) : PV → Kd
  | .non => .non
  | .bl _ => .bool
  | .int _ => .int
  | .str _ => .str
  | .tup _ => .tuple
  | .lst _ => .list
  | .dct _ _ => .dict
  | .dctT _ _ => .dict
  | .ref i => match st[i]? with | some (.lst _) => .list | some (.dct _ _) => .dict | some (.dctT _ _) => .dict | _ => .other
  | _ => .other
def kdIs : Kd → Ty → Bool
  | .bool, .bool => true
  | .bool, .int => true
  | .int, .int => true
  | .str, .str => true
  | .list, .list => true
  | .tuple, .tuple => true
  | .dict, .dict => true
  | _, _ => false
def fIsi (ts : List Ty) (u : PV) (st : Store) (k : KV) : Prop := kdOf st u ≠ .other ∧ k (.bl (ts.any (kdIs (kdOf st u)))) st

structure FD where
  np : Nat
  ns : Nat
  body : CS → TS
def start (F : FD) (vs : List PV) : Env := vs.map some ++ List.replicate (F.ns - F.np) none
def callN (FT : Nat → Option FD) : Nat → CS
  | 0 => fun _ _ _ _ _ => False
  | n + 1 => fun f vs st k x => match FT f with
    | some F => vs.length = F.np ∧ F.body (callN FT n) { nx := fun _ st => k .non st, rt := k, bk := fun _ _ => False, ct := fun _ _ => False, xk := x } (start F vs) st
    | none => False
def fget : List Nat → List PV → Nat → Option PV
  | k :: ks, v :: vs, n => if k = n then some v else fget ks vs n
  | _, _, _ => none
def isFlat : PV → Bool
  | .non => true
  | .bl _ => true
  | .int _ => true
  | .str _ => true
  | _ => false
end VM
end
section
namespace VS
open PySem PySem.Spec PyProof.Rows L2
open VM (PV SO Store)
abbrev VEnv := VM.Env

def cnL0 : List Str := ["Share", "Lot", "Net", "Post", "Answer", "Never", "Single", "Strided", "Ledger", "Desk", "System", "InvalidName", "DuplicateName"]
def cnL1 : List Str := ["InvalidNumber", "InvalidRow", "InvalidTerms", "InvalidPoint", "InvalidFace", "InvalidTie", "NoTree", "Scattered", "InvalidChange", "InvalidCommand", "InvalidText", "InvalidPrice", "NamesDiffer"]
def cnL2 : List Str := ["TreeLike", "NotTied", "NotLeaf", "Full", "TooWide", "UnknownName", "UnknownHouse", "UnknownLabel", "NothingLeft", "CrossError", "Missing"]
def cnL : List Str := cnL0 ++ cnL1 ++ cnL2
def cn (c : Nat) : Str := cnL.getD c ""
def cA (K : PySem.W.Frag) (c : Nat) : Addr := He.ga K (cn c)
def anL0 : List Str := ["MOST_FACE", "MOST_HOUSES", "MOST_ROWS", "__init__", "__name__", "accept", "again", "age", "amounts", "anchor", "answer", "answer_letter", "answer_step", "append", "apply", "base", "book", "bottom", "busy", "change", "check_house", "clear", "code", "conclude", "dealing", "draft", "empty_way", "extended", "face", "failed"]
def anL1 : List Str := ["first", "free", "full", "gathered", "get", "give_back", "given", "heads", "history", "holds", "house", "houses", "index", "insert", "is_stale", "is_world", "items", "join", "joint", "label", "last", "last_taken", "last_written", "ledger", "letter_at", "line", "lines", "lose", "lot", "many"]
def anL2 : List Str := ["most", "name", "names", "near", "net", "of_rows", "onto", "over", "own_anchor", "own_bottom", "own_busy", "own_dealing", "own_done", "own_faces", "own_far", "own_houses", "own_ledger", "own_lines", "own_names", "own_net", "own_past", "own_post", "own_steps", "own_taken", "own_ties", "own_top", "own_undone", "own_way", "own_world", "own_written"]
def anL3 : List Str := ["partition", "pop", "post", "put", "put_on_way", "redo", "rest", "reverse", "say", "settle", "settled", "shared", "size", "solve", "split", "startswith", "steps", "stride", "strike", "take", "text", "ties", "told", "top", "tracks", "triples", "twin", "undo", "unknowns", "value"]
def anL4 : List Str := ["walk", "way", "weighed", "weights", "whole", "within", "world", "worlds", "worth", "write", "write_all"]
def anL : List Str := anL0 ++ anL1 ++ anL2 ++ anL3 ++ anL4
def an (n : Nat) : Str := match anL[n]? with
  | some s => s
  | none => ⟨Array.replicate (n + 1000) 0⟩
theorem an_nd : anL.Nodup := by decide +kernel
theorem an_short : ∀ s ∈ anL, s.cps.size < 1000 := by decide +kernel
theorem an_inj {n m : Nat} (h : an n = an m) : n = m := by
  unfold an at h
  cases e1 : anL[n]? with
  | some s =>
    rw [e1] at h
    obtain ⟨h1, h2⟩ := List.getElem?_eq_some_iff.mp e1
    cases e2 : anL[m]? with
    | some s' =>
      rw [e2] at h
      obtain ⟨h3, h4⟩ := List.getElem?_eq_some_iff.mp e2
      exact (List.getElem_inj an_nd).mp (h2.trans (h.trans h4.symm))
    | none =>
      rw [e2] at h
      have := an_short s (List.mem_of_getElem? e1)
      have e : s = ⟨Array.replicate (m + 1000) 0⟩ := h
      rw [e] at this
      simp at this
      omega
  | none =>
    rw [e1] at h
    cases e2 : anL[m]? with
    | some s' =>
      rw [e2] at h
      have := an_short s' (List.mem_of_getElem? e2)
      have e : s' = ⟨Array.replicate (n + 1000) 0⟩ := h.symm
      rw [e] at this
      simp at this
      omega
    | none =>
      rw [e2] at h
      have h : (⟨Array.replicate (n + 1000) 0⟩ : Str) = ⟨Array.replicate (m + 1000) 0⟩ := h
      injection h with h
      have := congrArg Array.size h
      simp at this
      omega
def attrs (ks : List Nat) (vs : List V) : List (Str × V) := (ks.map an).zip vs
def errAttrs : List Str := ["code", "index", "name", "most", "house", "given", "label", "first", "last", "line"]
def gotCs (K : PySem.W.Frag) : List Value := [.ref (cA K 35), .ref (cA K 36), .ref (cA K 34)]
def gotIn (K : PySem.W.Frag) : Bool := (gotCs K).all fun c => decide (PySem.W.subIn K c (.type "BaseException") = some true)
def goodE (K : PySem.W.Frag) (c : Nat) : Bool := xfB K (cA K c) && ((errAttrs.all fun n => decide (PySem.W.findIn K (.ref (cA K c)) n = some none)) && (!gotIn K || decide (PySem.W.exmAny K (.ref (cA K c)) (gotCs K) = some true)))
theorem goodE_xf {K : PySem.W.Frag} {c : Nat} (h : goodE K c = true) : XfC K (cA K c) ∧ ∀ n ∈ errAttrs, PySem.W.findIn K (.ref (cA K c)) n = some none := by
  unfold goodE at h
  simp only [Bool.and_eq_true, List.all_eq_true, decide_eq_true_eq] at h
  exact ⟨xfB_ok h.1, h.2.1⟩
theorem goodE_got {K : PySem.W.Frag} {c : Nat} (h : goodE K c = true) (hg : gotIn K = true) : PySem.W.exmAny K (.ref (cA K c)) (gotCs K) = some true := by
  unfold goodE at h
  simp only [Bool.and_eq_true, Bool.or_eq_true, hg, Bool.not_true, Bool.false_eq_true, false_or, decide_eq_true_eq] at h
  exact h.2.2
def kP : Key → PV
  | .inl i => .int i
  | .inr x => .str x.cps.toList
def sOk (s : List Nat) : Prop := s.length ≤ 16777216 ∧ ∀ c ∈ s, c < 1114112
def SqX (K : PySem.W.Frag) (F : Hp) (a : Addr) (vs : List V) : Prop := (∃ o, F a = some (.frz o (.tup vs)) ∧ Pl o) ∨
  ∃ (o : Obj) (its : Array Value) (n : Nat), K.lookup a = some o ∧ o.cls = .type "tuple" ∧ o.dict = none ∧ o.data = .seq its n ∧ its.size ≤ sizeLine ∧ Vals vs its.toList
theorem SqX.t {K : PySem.W.Frag} {F : Hp} {a : Addr} {vs : List V} (h : SqX K F a vs) : SqT K F a vs := by
  rcases h with ⟨o, h, _⟩ | ⟨o, its, n, h1, h2, _, h3⟩
  · exact .inl (.inr ⟨o, h⟩)
  · exact .inr ⟨o, its, n, h1, h2, h3⟩
structure LamI where
  params : Arguments
  body : Expr
  scope : Scope
  free : List Str
class Lams where
  info : Nat → LamI
  own : List Str
def lamT [L : Lams] (K : PySem.W.Frag) : List (Addr × Str) := L.own.filterMap fun x => (PySem.W.tabIn K x).map fun p => (p.2, x ++ ".<locals>." ++ "<lambda>")
def ExO (a : Addr) (o : Obj) : HO := .ext fun h => h.get? a = some o
theorem exO_lst {a : Addr} {o : Obj} {xs : List V} : ExO a o ≠ .lst xs := fun z => by
  have z' : HO.ext _ = HO.lst xs := z
  cases z'
mutual
def Rep (K : PySem.W.Frag) (F : Hp) (μ : List Addr) : PV → V → Prop
  | .non, v => v = .non
  | .bl b, v => v = .bl b
  | .int i, v => v = .int i
  | .str s, v => sOk s ∧ v = .str ⟨s.toArray⟩
  | .tup xs, v => ∃ a vs, v = .ref a ∧ SqX K F a vs ∧ RepL K F μ xs vs
  | .lst xs, v => ∃ a vs, v = .ref a ∧ F a = some (.lst vs) ∧ RepL K F μ xs vs
  | .scr is, v => ∃ a, v = .ref a ∧ SqL K F a (is.map V.int)
  | .dct ks xs, v => ∃ a kvs, v = .ref a ∧ F a = some (.dK kvs) ∧ ks = kvs.map (fun q => kP q.1) ∧ RepL K F μ xs (kvs.map (·.2))
  | .ref i, v => ∃ a, μ[i]? = some a ∧ v = .ref a
  | .obj c ks xs, v => ∃ a dx vs, v = .ref a ∧ F a = some (.ins (cA K c) dx (attrs ks vs)) ∧ ks.length = xs.length ∧ RepL K F μ xs vs
  | .cls c, v => v = .ref (cA K c)
  | .exc c ks xs, v => ∃ (a d : Addr) (vs : List V) (φ : Heap → Prop), v = .ref a ∧ goodE K c = true ∧ F a = some (.ext φ) ∧ (∀ h : Heap, φ h → ∃ oe us, h.get? a = some oe ∧ oe.cls = .ref (cA K c) ∧ oe.dict = some d ∧ oe.data = .fields us) ∧ F d = some (.xd (attrs ks vs)) ∧ ks.length = xs.length ∧ RepL K F μ xs vs
  | .lam i j, v => ∃ a, μ[i]? = some a ∧ match j with
    | none => v = .ref a
    | some j => ∃ f vs, v = .ref f ∧ F a = some (.lst vs) ∧ vs[j]? = some (.ref f)
  | _, _ => False
def RepL (K : PySem.W.Frag) (F : Hp) (μ : List Addr) : List PV → List V → Prop
  | [], vs => vs = []
  | x :: xs, vs => ∃ v r, vs = v :: r ∧ Rep K F μ x v ∧ RepL K F μ xs r
end
def SameD (F H : Hp) : Prop := ∀ a o, F a = some o → H a = some o
structure Ext (F : Hp) (μ : List Addr) (F' : Hp) (μ' : List Addr) : Prop where
  same : SameD F F'
  pre : ∃ l, μ' = μ ++ l
section
variable {K : PySem.W.Frag} {F F' F2 : Hp} {μ μ' μ2 : List Addr}
theorem Ext.refl : Ext F μ F μ := ⟨fun _ _ h => h, [], by simp⟩
theorem Ext.trans (a : Ext F μ F' μ') (b : Ext F' μ' F2 μ2) : Ext F μ F2 μ2 := by
  obtain ⟨l, rfl⟩ := a.pre
  obtain ⟨m, rfl⟩ := b.pre
  exact ⟨fun c o h => b.same c o (a.same c o h), l ++ m, by simp⟩
theorem Ext.get (e : Ext F μ F' μ') {i : Nat} {a : Addr} (h : μ[i]? = some a) : μ'[i]? = some a := by
  obtain ⟨l, rfl⟩ := e.pre
  rw [List.getElem?_append_left (List.getElem?_eq_some_iff.mp h).1]
  exact h
theorem SameD.seqL {a : Addr} {xs : List V} (e : SameD F F') (h : SqL K F a xs) : SqL K F' a xs := by
  rcases h with (h | ⟨o, h⟩) | h
  · exact .inl (.inl (e _ _ h))
  · exact .inl (.inr ⟨o, e _ _ h⟩)
  · exact .inr h
theorem SameD.seqT {a : Addr} {xs : List V} (e : SameD F F') (h : SqT K F a xs) : SqT K F' a xs := by
  rcases h with (h | ⟨o, h⟩) | h
  · exact .inl (.inl (e _ _ h))
  · exact .inl (.inr ⟨o, e _ _ h⟩)
  · exact .inr h
theorem SameD.seqX {a : Addr} {xs : List V} (e : SameD F F') (h : SqX K F a xs) : SqX K F' a xs := by
  rcases h with ⟨o, h, p⟩ | h
  · exact .inl ⟨o, e _ _ h, p⟩
  · exact .inr h
mutual
theorem Rep.mono (e : Ext F μ F' μ') : ∀ {x : PV} {v : V}, Rep K F μ x v → Rep K F' μ' x v
  | .non, _, h => h
  | .bl _, _, h => h
  | .int _, _, h => h
  | .str _, _, h => h
  | .tup xs, _, h => by
    unfold Rep at h ⊢
    obtain ⟨a, vs, h1, h2, h3⟩ := h
    exact ⟨a, vs, h1, e.same.seqX h2, RepL.mono e h3⟩
  | .lst xs, _, h => by
    unfold Rep at h ⊢
    obtain ⟨a, vs, h1, h2, h3⟩ := h
    exact ⟨a, vs, h1, e.same _ _ h2, RepL.mono e h3⟩
  | .scr is, _, h => by
    unfold Rep at h ⊢
    obtain ⟨a, h1, h2⟩ := h
    exact ⟨a, h1, e.same.seqL h2⟩
  | .dct ks xs, _, h => by
    unfold Rep at h ⊢
    obtain ⟨a, kvs, h1, h2, h3, h4⟩ := h
    exact ⟨a, kvs, h1, e.same _ _ h2, h3, RepL.mono e h4⟩
  | .ref i, _, h => by
    unfold Rep at h ⊢
    obtain ⟨a, h1, h2⟩ := h
    exact ⟨a, e.get h1, h2⟩
  | .dctT _ _, _, h => by unfold Rep at h; exact h.elim
  | .obj c ks xs, _, h => by
    unfold Rep at h ⊢
    obtain ⟨a, dx, vs, h1, h2, h3, h4⟩ := h
    exact ⟨a, dx, vs, h1, e.same _ _ h2, h3, RepL.mono e h4⟩
  | .ty _, _, h => by unfold Rep at h; exact h.elim
  | .fn _, _, h => by unfold Rep at h; exact h.elim
  | .cls _, _, h => by unfold Rep at h ⊢; exact h
  | .exc c ks xs, _, h => by
    unfold Rep at h ⊢
    obtain ⟨a, d, vs, φ, h1, h0, h2, h6, h3, h4, h5⟩ := h
    exact ⟨a, d, vs, φ, h1, h0, e.same _ _ h2, h6, e.same _ _ h3, h4, RepL.mono e h5⟩
  | .lam i j, _, h => by
    unfold Rep at h ⊢
    obtain ⟨a, h1, h2⟩ := h
    refine ⟨a, e.get h1, ?_⟩
    cases j with
    | none => exact h2
    | some j =>
      obtain ⟨f, vs, h3, h4, h5⟩ := h2
      exact ⟨f, vs, h3, e.same _ _ h4, h5⟩
theorem RepL.mono (e : Ext F μ F' μ') : ∀ {xs : List PV} {vs : List V}, RepL K F μ xs vs → RepL K F' μ' xs vs
  | [], _, h => by
    unfold RepL at h ⊢
    exact h
  | x :: xs, _, h => by
    unfold RepL at h ⊢
    obtain ⟨v, r, h1, h2, h3⟩ := h
    exact ⟨v, r, h1, Rep.mono e h2, RepL.mono e h3⟩
end
theorem repL_nil {vs : List V} : RepL K F μ [] vs ↔ vs = [] := by unfold RepL; exact Iff.rfl
theorem repL_cons {x : PV} {xs : List PV} {vs : List V} : RepL K F μ (x :: xs) vs ↔ ∃ v r, vs = v :: r ∧ Rep K F μ x v ∧ RepL K F μ xs r := by
  constructor
  · intro h
    unfold RepL at h
    exact h
  · intro h
    unfold RepL
    exact h
theorem RepL.length : ∀ {xs : List PV} {vs : List V}, RepL K F μ xs vs → vs.length = xs.length
  | [], _, h => by
    rw [repL_nil.mp h]
    rfl
  | x :: xs, _, h => by
    obtain ⟨v, r, rfl, _, h3⟩ := repL_cons.mp h
    simp [RepL.length h3]
theorem RepL.get : ∀ {xs : List PV} {vs : List V} {i : Nat} {x : PV}, RepL K F μ xs vs → xs[i]? = some x → ∃ v, vs[i]? = some v ∧ Rep K F μ x v
  | [], _, _, _, _, h => by simp at h
  | y :: xs, _, 0, x, h, e => by
    obtain ⟨v, r, rfl, h2, h3⟩ := repL_cons.mp h
    simp at e
    subst e
    exact ⟨v, by simp, h2⟩
  | y :: xs, _, i + 1, x, h, e => by
    obtain ⟨v, r, rfl, h2, h3⟩ := repL_cons.mp h
    obtain ⟨w, h4, h5⟩ := RepL.get (i := i) h3 (by simpa using e)
    exact ⟨w, by simpa using h4, h5⟩
theorem RepL.append : ∀ {xs ys : List PV} {vs ws : List V}, RepL K F μ xs vs → RepL K F μ ys ws → RepL K F μ (xs ++ ys) (vs ++ ws)
  | [], ys, vs, ws, h, h' => by
    rw [repL_nil.mp h]
    exact h'
  | x :: xs, ys, vs, ws, h, h' => by
    obtain ⟨v, r, rfl, h2, h3⟩ := repL_cons.mp h
    exact repL_cons.mpr ⟨v, r ++ ws, rfl, h2, RepL.append h3 h'⟩
theorem RepL.take : ∀ {xs : List PV} {vs : List V} (n : Nat), RepL K F μ xs vs → RepL K F μ (xs.take n) (vs.take n)
  | _, _, 0, _ => by simp [RepL]
  | [], vs, n + 1, h => by
    rw [repL_nil.mp h]
    simp [RepL]
  | x :: xs, vs, n + 1, h => by
    obtain ⟨v, r, rfl, h2, h3⟩ := repL_cons.mp h
    exact repL_cons.mpr ⟨v, r.take n, rfl, h2, RepL.take n h3⟩
theorem RepL.drop : ∀ {xs : List PV} {vs : List V} (n : Nat), RepL K F μ xs vs → RepL K F μ (xs.drop n) (vs.drop n)
  | _, _, 0, h => by simpa using h
  | [], vs, n + 1, h => by
    rw [repL_nil.mp h]
    simp [RepL]
  | x :: xs, vs, n + 1, h => by
    obtain ⟨v, r, rfl, h2, h3⟩ := repL_cons.mp h
    simpa using RepL.drop n h3
theorem RepL.set : ∀ {xs : List PV} {vs : List V} (n : Nat) {x : PV} {v : V}, RepL K F μ xs vs → Rep K F μ x v → RepL K F μ (xs.set n x) (vs.set n v)
  | [], vs, n, x, v, h, hx => by
    rw [repL_nil.mp h]
    simp [RepL]
  | y :: xs, vs, 0, x, v, h, hx => by
    obtain ⟨w, r, rfl, h2, h3⟩ := repL_cons.mp h
    exact repL_cons.mpr ⟨v, r, rfl, hx, h3⟩
  | y :: xs, vs, n + 1, x, v, h, hx => by
    obtain ⟨w, r, rfl, h2, h3⟩ := repL_cons.mp h
    exact repL_cons.mpr ⟨w, r.set n v, rfl, h2, RepL.set n h3 hx⟩
theorem RepL.reverse : ∀ {xs : List PV} {vs : List V}, RepL K F μ xs vs → RepL K F μ xs.reverse vs.reverse
  | [], vs, h => by
    rw [repL_nil.mp h]
    simp [RepL]
  | x :: xs, vs, h => by
    obtain ⟨v, r, rfl, h2, h3⟩ := repL_cons.mp h
    rw [List.reverse_cons, List.reverse_cons]
    exact (RepL.reverse h3).append (repL_cons.mpr ⟨v, [], rfl, h2, repL_nil.mpr rfl⟩)
theorem RepL.ofGet : ∀ {xs : List PV} {vs : List V}, vs.length = xs.length → (∀ (i : Nat) x v, xs[i]? = some x → vs[i]? = some v → Rep K F μ x v) → RepL K F μ xs vs
  | [], vs, hl, _ => repL_nil.mpr (List.length_eq_zero_iff.mp (by simpa using hl))
  | x :: xs, [], hl, _ => by simp at hl
  | x :: xs, v :: vs, hl, h => repL_cons.mpr ⟨v, vs, rfl, h 0 x v (by simp) (by simp), RepL.ofGet (by simpa using hl) fun i y w e1 e2 => h (i + 1) y w (by simpa using e1) (by simpa using e2)⟩
end
def LamB (F : Hp) (fd : FuncData) (bs : List (Str × Value)) : Prop := bindArgs fd ⟨[], []⟩ = pure bs ∨
  ∃ (T : Addr) (o : Obj) (its : Array Value) (n : Nat) (k : Option (Array Value) → Sem (List (Str × Value))), fd.defaults = .ref T ∧ F T = some (ExO T o) ∧ o.data = .seq its n ∧ bindArgs fd ⟨[], []⟩ = seqItems? fd.defaults >>= k ∧ k (some its) = pure bs
def LamAt [Lams] (K : PySem.W.Frag) (G F : Hp) (μ : List Addr) (n : Nat) (caps : List PV) (f : Addr) : Prop :=
  ∃ (fo : Obj) (fd : FuncData) (c' : Addr) (vs : List V) (bs : List (Str × Value)),
    (F f = some (ExO f fo) ∧ fo.data = .func fd ∧ F c' = some (LamX.CodeO c' fd.qualname) ∧ RepL K F μ caps vs ∧ LamB F fd bs ∧ (∀ y ∈ bs, (Lams.info n).scope.names.lookup y.1 = some .local)) ∧
    (fd.code = .ref c' ∧ fd.params = (Lams.info n).params ∧ fd.body = .expr (Lams.info n).body ∧ fd.scope = (Lams.info n).scope ∧ fd.globals = mainGlobals ∧ fd.builtins = builtinsNs) ∧
    (∀ x c, fd.closure.lookup x = some c → ∃ k : Nat, (Lams.info n).free[k]? = some x) ∧ (∀ x y c, fd.closure.lookup x = some c → fd.closure.lookup y = some c → x = y) ∧
    ∀ (k : Nat) (x : Str), (Lams.info n).free[k]? = some x → ∃ (c : Addr) (oc : Obj) (u : Value) (v : V), fd.closure.lookup x = some c ∧ G c = some (ExO c oc) ∧ oc.data = .cell (some u) ∧ vs[k]? = some v ∧ RelV v u
theorem LamAt.mono [Lams] {K : PySem.W.Frag} {G G' F F' : Hp} {μ μ' : List Addr} {n : Nat} {caps : List PV} {f : Addr} (h : LamAt K G F μ n caps f) (e : Ext F μ F' μ') (hg : ∀ c o, G c = some (ExO c o) → G' c = some (ExO c o)) : LamAt K G' F' μ' n caps f := by
  obtain ⟨fo, fd, c', vs, bs, ⟨h1, h2, h3, h4, h5, h6⟩, h7, h8, h9, h10⟩ := h
  refine ⟨fo, fd, c', vs, bs, ⟨e.same _ _ h1, h2, e.same _ _ h3, h4.mono e, ?_, h6⟩, h7, h8, h9, fun k x hk => ?_⟩
  · rcases h5 with h5 | ⟨T, o, its, m, k, a1, a2, a3⟩
    · exact .inl h5
    · exact .inr ⟨T, o, its, m, k, a1, e.same _ _ a2, a3⟩
  · obtain ⟨c, oc, u, v, a1, a2, a3⟩ := h10 k x hk
    exact ⟨c, oc, u, v, a1, hg _ _ a2, a3⟩
def RO [Lams] (K : PySem.W.Frag) (G F : Hp) (μ : List Addr) (H : Hp) (a : Addr) : SO → Prop
  | .dead => True
  | .lst xs => F a = none ∧ ∃ vs, H a = some (.lst vs) ∧ RepL K F μ xs vs
  | .dct ks xs => F a = none ∧ ∃ kvs, H a = some (.dK kvs) ∧ ks = kvs.map (fun q => kP q.1) ∧ RepL K F μ xs (kvs.map (·.2))
  | .ins c ks xs => F a = none ∧ ∃ dx vs, H a = some (.ins (cA K c) dx (attrs ks vs)) ∧ ks.length = xs.length ∧ RepL K F μ xs vs
  | .live b ls => ∃ fs : List Addr, (if b then fs = [a] else F a = some (.lst (fs.map V.ref))) ∧ ∀ (j : Nat) (n : Nat) (caps : List PV), ls[j]? = some (n, caps) → ∃ f, fs[j]? = some f ∧ LamAt K G F μ n caps f
  | _ => False
def TabL [Lams] (K : PySem.W.Frag) (G F : Hp) (μ : List Addr) (H : Hp) : Prop := ∀ p ∈ lamT K, G p.1 = none ∧ F p.1 = none ∧ p.1 ∉ μ ∧
  ∃ ps : Array Value, H p.1 = some (.tbl ps) ∧ TriplesOk ps.toList ∧ ∀ (pos : Pos) (cv : Value), codeAmong pos ps.toList = some cv → ∃ c, cv = .ref c ∧ F c = some (LamX.CodeO c p.2)
structure LayB [Lams] (K : PySem.W.Frag) (G F : Hp) (μ : List Addr) (st : Store) (H : Hp) : Prop where
  gd : ∀ a o, G a = some o → H a = some o ∧ F a = none ∧ a ∉ μ
  same : SameD F H
  len : μ.length = st.length
  nd : μ.Nodup
  there : ∀ a ∈ μ, ∃ o, H a = some o
  obj : ∀ (i : Nat) (a : Addr) (o : SO), μ[i]? = some a → st[i]? = some o → RO K G F μ H a o
  tab : TabL K G F μ H
def RepX (K : PySem.W.Frag) (F : Hp) (μ : List Addr) (px : PV) (cls : Value) (d : Option Addr) : Prop :=
  ∃ c ks xs dd vs, px = .exc c ks xs ∧ goodE K c = true ∧ cls = .ref (cA K c) ∧ d = some dd ∧ F dd = some (.xd (attrs ks vs)) ∧ ks.length = xs.length ∧ RepL K F μ xs vs
class Wsh [Lams] where
  K : PySem.W.Frag
  G : Hp
  F : Hp
  μ : List Addr
  x : PV → Store → Prop
  E : XK
  ok : ∀ (cls : Value) (d : Option Addr) (H' F' : Hp) (μ' : List Addr) (px : PV) (st' : Store), Ext F μ F' μ' → LayB K G F' μ' st' H' → RepX K F' μ' px cls d → x px st' → E cls d H'
structure Lay [Lams] [W : Wsh] (K : PySem.W.Frag) (G F : Hp) (μ : List Addr) (st : Store) (H : Hp) : Prop extends LayB K G F μ st H where
  gw : ∀ a o, W.G a = some o → G a = some o
  gx : ∀ a oc, G a = some (ExO a oc) → W.G a = some (ExO a oc)
  we : Ext W.F W.μ F μ
  wk : W.K = K
@[reducible] def Wsh.no [Lams] (W : Wsh) : Wsh := { W with x := fun _ _ => False, E := fun _ _ _ => False, ok := fun _ _ _ _ _ _ _ _ _ _ h => h }
theorem Lay.no [Lams] {W : Wsh} {K : PySem.W.Frag} {G F : Hp} {μ : List Addr} {st : Store} {H : Hp} (l : @Lay _ W K G F μ st H) : @Lay _ W.no K G F μ st H := @Lay.mk _ W.no K G F μ st H l.toLayB l.gw l.gx l.we l.wk
theorem Lay.ofNo [Lams] {W : Wsh} {K : PySem.W.Frag} {G F : Hp} {μ : List Addr} {st : Store} {H : Hp} (l : @Lay _ W.no K G F μ st H) : @Lay _ W K G F μ st H := @Lay.mk _ W K G F μ st H (@Lay.toLayB _ W.no _ _ _ _ _ _ l) (@Lay.gw _ W.no _ _ _ _ _ _ l) (@Lay.gx _ W.no _ _ _ _ _ _ l) (@Lay.we _ W.no _ _ _ _ _ _ l) (@Lay.wk _ W.no _ _ _ _ _ _ l)
def EnvR (K : PySem.W.Frag) (F : Hp) (μ : List Addr) (σ : L2.St) (ρ : VEnv) : Prop := σ.length = ρ.length ∧ ∀ (i : Nat) (x : PV), ρ[i]? = some (some x) → ∃ v, σ[i]? = some (some v) ∧ Rep K F μ x v
section
variable [Lams] [W : Wsh] {K : PySem.W.Frag} {G F F' : Hp} {μ μ' : List Addr} {σ : L2.St} {ρ : VEnv} {H : Hp} {st : Store}
theorem EnvR.mono (h : EnvR K F μ σ ρ) (e : Ext F μ F' μ') : EnvR K F' μ' σ ρ := ⟨h.1, fun i x q => by
  obtain ⟨v, h1, h2⟩ := h.2 i x q
  exact ⟨v, h1, h2.mono e⟩⟩
theorem EnvR.set {x : PV} {v : V} (h : EnvR K F μ σ ρ) (i : Nat) (r : Rep K F μ x v) : EnvR K F μ (σ.set i (some v)) (ρ.set i (some x)) := ⟨by simp [h.1], fun j y q => by
  by_cases e : i = j
  · subst e
    by_cases hi : i < ρ.length
    · rw [List.getElem?_set_self hi] at q
      cases q
      exact ⟨v, List.getElem?_set_self (by rw [h.1]; exact hi), r⟩
    · rw [List.getElem?_eq_none (by simpa using hi)] at q
      cases q
  · rw [List.getElem?_set_ne e] at q
    obtain ⟨w, h1, h2⟩ := h.2 j y q
    exact ⟨w, by rw [List.getElem?_set_ne e]; exact h1, h2⟩⟩
theorem EnvR.none (h : EnvR K F μ σ ρ) (i : Nat) : EnvR K F μ (σ.set i none) (ρ.set i none) := ⟨by simp [h.1], fun j y q => by
  by_cases e : i = j
  · subst e
    by_cases hi : i < ρ.length
    · rw [List.getElem?_set_self hi] at q
      cases q
    · rw [List.getElem?_eq_none (by simpa using hi)] at q
      cases q
  · rw [List.getElem?_set_ne e] at q
    obtain ⟨w, h1, h2⟩ := h.2 j y q
    exact ⟨w, by rw [List.getElem?_set_ne e]; exact h1, h2⟩⟩
theorem EnvR.wipe (h : EnvR K F μ σ ρ) : ∀ vs : List Nat, EnvR K F μ (L2.wipe σ vs) (VM.wipe ρ vs)
  | [] => h
  | v :: vs => (EnvR.wipe h vs).none v
theorem Lay.free (l : Lay K G F μ st H) {p : Addr} (h : H p = none) : F p = none := by
  cases e : F p with
  | none => rfl
  | some o =>
    rw [l.same p o e] at h
    cases h
theorem Lay.notin (l : Lay K G F μ st H) {p : Addr} (h : H p = none) : p ∉ μ := fun z => by
  obtain ⟨o, e⟩ := l.there p z
  rw [h] at e
  cases e
theorem Lay.gfree (l : Lay K G F μ st H) {p : Addr} (h : H p = none) : G p = none := by
  cases e : G p with
  | none => rfl
  | some o =>
    rw [(l.gd p o e).1] at h
    cases h
theorem Lay.wn (l : Lay K G F μ st H) {p : Addr} (h : H p = none) : W.G p = none := by
  cases e : W.G p with
  | none => rfl
  | some o =>
    have z := l.gw p o e
    rw [l.gfree h] at z
    cases z
theorem ext_upd (l : Lay K G F μ st H) {p : Addr} {o : HO} (h : H p = none) : Ext F μ (upd F p o) μ := ⟨fun a u e => by rw [upd_ne (ne_of_none e (l.free h))]; exact e, [], by simp⟩
theorem RO.mono {a : Addr} {o : SO} (h : RO K G F μ H a o) (e : Ext F μ F' μ') {H' G' : Hp} (hf : F' a = F a) (hh : H' a = H a) (hg : ∀ c o, G c = some (ExO c o) → G' c = some (ExO c o)) : RO K G' F' μ' H' a o := by
  cases o with
  | dead => exact h
  | lst xs =>
    obtain ⟨h1, vs, h2, h3⟩ := h
    exact ⟨hf.trans h1, vs, hh.trans h2, h3.mono e⟩
  | dct ks xs =>
    obtain ⟨h1, kvs, h2, h3, h4⟩ := h
    exact ⟨hf.trans h1, kvs, hh.trans h2, h3, h4.mono e⟩
  | dctT _ _ => exact h.elim
  | ins c ks xs =>
    obtain ⟨h1, dx, vs, h2, h3, h4⟩ := h
    exact ⟨hf.trans h1, dx, vs, hh.trans h2, h3, h4.mono e⟩
  | live b ls =>
    obtain ⟨fs, h1, h2⟩ := h
    refine ⟨fs, ?_, fun j n caps hj => ?_⟩
    · cases b with
      | true => exact h1
      | false =>
        rw [if_neg Bool.false_ne_true] at h1 ⊢
        exact hf.trans h1
    · obtain ⟨f, a1, a2⟩ := h2 j n caps hj
      exact ⟨f, a1, a2.mono e hg⟩
theorem TabL.mono (h : TabL K G F μ H) (e : Ext F μ F' μ') {H' G' : Hp} (hg : ∀ p ∈ lamT K, G' p.1 = G p.1 ∧ F' p.1 = F p.1 ∧ H' p.1 = H p.1 ∧ p.1 ∉ μ') : TabL K G' F' μ' H' := fun p hp => by
  obtain ⟨h1, h2, h3, ps, h4, h5, h6⟩ := h p hp
  obtain ⟨g1, g2, g3, g4⟩ := hg p hp
  refine ⟨g1.trans h1, g2.trans h2, g4, ps, g3.trans h4, h5, fun pos cv q => ?_⟩
  obtain ⟨c, a1, a2⟩ := h6 pos cv q
  exact ⟨c, a1, e.same _ _ a2⟩
theorem TabL.ne (h : TabL K G F μ H) {a : Addr} (ha : H a = none) : ∀ p ∈ lamT K, p.1 ≠ a := fun p hp z => by
  obtain ⟨_, _, _, ps, h4, _⟩ := h p hp
  rw [z, ha] at h4
  cases h4
theorem TabL.neμ (h : TabL K G F μ H) {a : Addr} (ha : a ∈ μ) : ∀ p ∈ lamT K, p.1 ≠ a := fun p hp z => (h p hp).2.2.1 (z ▸ ha)
theorem TabL.neG (h : TabL K G F μ H) {a : Addr} {o : HO} (ha : G a = some o) : ∀ p ∈ lamT K, p.1 ≠ a := fun p hp z => by
  have := (h p hp).1
  rw [z, ha] at this
  cases this
theorem Lay.new (l : Lay K G F μ st H) {p : Addr} {o : HO} (h : H p = none) : Lay K G (upd F p o) μ st (upd H p o) where
  gd := fun a u e => by
    obtain ⟨h1, h2, h3⟩ := l.gd a u e
    have q : a ≠ p := ne_of_none h1 h
    exact ⟨by rw [upd_ne q]; exact h1, by rw [upd_ne q]; exact h2, h3⟩
  same := fun a u e => by
    by_cases q : a = p
    · subst q
      rw [upd_same] at e ⊢
      exact e
    · rw [upd_ne q] at e ⊢
      exact l.same a u e
  len := l.len
  nd := l.nd
  there := fun a ha => by
    by_cases q : a = p
    · exact ⟨o, by rw [q]; exact upd_same⟩
    · rw [upd_ne q]
      exact l.there a ha
  obj := fun i a u h1 h2 => by
    have q : a ≠ p := fun z => l.notin h (z ▸ List.mem_of_getElem? h1)
    exact (l.obj i a u h1 h2).mono (ext_upd l h) (upd_ne q) (upd_ne q) fun _ _ z => z
  tab := l.tab.mono (ext_upd l h) fun q hq => ⟨rfl, upd_ne (l.tab.ne h q hq), upd_ne (l.tab.ne h q hq), (l.tab q hq).2.2.1⟩
  gw := l.gw
  gx := l.gx
  we := l.we.trans (ext_upd l h)
  wk := l.wk
theorem ext_alloc (p : Addr) : Ext F μ F (μ ++ [p]) := ⟨fun _ _ h => h, [p], rfl⟩
theorem Lay.alloc (l : Lay K G F μ st H) {p : Addr} {o : HO} {u : SO} (h : H p = none) (r : RO K G F (μ ++ [p]) (upd H p o) p u) : Lay K G F (μ ++ [p]) (st ++ [u]) (upd H p o) where
  gd := fun a u e => by
    obtain ⟨h1, h2, h3⟩ := l.gd a u e
    have q : a ≠ p := ne_of_none h1 h
    exact ⟨by rw [upd_ne q]; exact h1, h2, fun z => (List.mem_append.mp z).elim h3 fun z => q (by simpa using z)⟩
  same := fun a v e => by rw [upd_ne (ne_of_none (l.same a v e) h)]; exact l.same a v e
  len := by simp [l.len]
  nd := List.nodup_append.mpr ⟨l.nd, by simp, fun a ha b hb => by
    have e : b = p := by simpa using hb
    subst e
    exact fun z => l.notin h (z ▸ ha)⟩
  there := fun a ha => by
    rcases List.mem_append.mp ha with ha | ha
    · by_cases q : a = p
      · exact ⟨o, by rw [q]; exact upd_same⟩
      · rw [upd_ne q]
        exact l.there a ha
    · have e : a = p := by simpa using ha
      exact ⟨o, by rw [e]; exact upd_same⟩
  obj := fun i a v h1 h2 => by
    by_cases hi : i < μ.length
    · rw [List.getElem?_append_left hi] at h1
      rw [List.getElem?_append_left (by rw [← l.len]; exact hi)] at h2
      have q : a ≠ p := fun z => l.notin h (z ▸ List.mem_of_getElem? h1)
      exact (l.obj i a v h1 h2).mono (ext_alloc p) rfl (upd_ne q) fun _ _ z => z
    · have e : i = μ.length := by
        have := (List.getElem?_eq_some_iff.mp h1).1
        simp at this
        omega
      subst e
      rw [List.getElem?_append_right (Nat.le_refl _)] at h1
      rw [l.len, List.getElem?_append_right (Nat.le_refl _)] at h2
      simp at h1 h2
      subst h1 h2
      exact r
  tab := l.tab.mono (ext_alloc p) fun q hq => ⟨rfl, rfl, upd_ne (l.tab.ne h q hq), fun z => (List.mem_append.mp z).elim (l.tab q hq).2.2.1 fun z => l.tab.ne h q hq (by simpa using z)⟩
  gw := l.gw
  gx := l.gx
  we := l.we.trans (ext_alloc p)
  wk := l.wk
theorem Lay.put (l : Lay K G F μ st H) {i : Nat} {a : Addr} {o : HO} {u : SO} (hi : μ[i]? = some a) (r : RO K G F μ (upd H a o) a u) (hf : F a = none) : Lay K G F μ (st.set i u) (upd H a o) where
  gd := fun b v e => by
    obtain ⟨h1, h2, h3⟩ := l.gd b v e
    exact ⟨by rw [upd_ne (fun z => h3 (by rw [z]; exact List.mem_of_getElem? hi))]; exact h1, h2, h3⟩
  same := fun b v e => by rw [upd_ne (ne_of_none e hf)]; exact l.same b v e
  len := by simp [l.len]
  nd := l.nd
  there := fun b hb => by
    by_cases q : b = a
    · exact ⟨o, by rw [q]; exact upd_same⟩
    · rw [upd_ne q]
      exact l.there b hb
  obj := fun j b v h1 h2 => by
    by_cases e : i = j
    · subst e
      rw [hi] at h1
      cases h1
      rw [List.getElem?_set_self (by rw [← l.len]; exact (List.getElem?_eq_some_iff.mp hi).1)] at h2
      cases h2
      exact r
    · rw [List.getElem?_set_ne e] at h2
      have q : b ≠ a := fun z => by
        subst z
        obtain ⟨hi1, e1⟩ := List.getElem?_eq_some_iff.mp hi
        obtain ⟨hj1, e2⟩ := List.getElem?_eq_some_iff.mp h1
        exact e ((List.getElem_inj l.nd).mp (e1.trans e2.symm))
      exact (l.obj j b v h1 h2).mono Ext.refl rfl (upd_ne q) fun _ _ z => z
  tab := l.tab.mono Ext.refl fun q hq => ⟨rfl, rfl, upd_ne (l.tab.neμ (List.mem_of_getElem? hi) q hq), (l.tab q hq).2.2.1⟩
  gw := l.gw
  gx := l.gx
  we := l.we
  wk := l.wk
end
end VS
end
section
namespace VS
open PySem PySem.Spec PyProof.Rows L2
open VM (PV SO Store)
variable [Lams] [Wsh]
def nox : VM.KV := Wsh.x
class TkX (X : Cx) : Prop where
  tk : Takes X (fun cls d _ H => Wsh.E cls d H)
theorem TkX.pass {X : Cx} [T : TkX X] : Passes (L2.CX X.prog X.w) X Wsh.E := passes_call T.tk fun _ _ _ _ h => h
def Kon (K : PySem.W.Frag) (G F : Hp) (μ : List Addr) (k : VM.KV) (Q : VK) : Prop := ∀ (v : V) (H' F' : Hp) (μ' : List Addr) (x : PV) (st' : Store), Ext F μ F' μ' → Lay K G F' μ' st' H' → Rep K F' μ' x v → k x st' → Q v H'
def KonB (K : PySem.W.Frag) (G F : Hp) (μ : List Addr) (k : Bool → Store → Prop) (Q : Bool → Hp → Prop) : Prop := ∀ (b : Bool) (H' F' : Hp) (μ' : List Addr) (st' : Store), Ext F μ F' μ' → Lay K G F' μ' st' H' → k b st' → Q b H'
def KonA (K : PySem.W.Frag) (G F : Hp) (μ : List Addr) (k : List PV → Store → Prop) (Q : List V → Hp → Prop) : Prop := ∀ (vs : List V) (H' F' : Hp) (μ' : List Addr) (xs : List PV) (st' : Store), Ext F μ F' μ' → Lay K G F' μ' st' H' → RepL K F' μ' xs vs → k xs st' → Q vs H'
section
variable {K : PySem.W.Frag} {G F F' : Hp} {μ μ' : List Addr}
theorem Kon.mono {k : VM.KV} {Q : VK} (h : Kon K G F μ k Q) (e : Ext F μ F' μ') : Kon K G F' μ' k Q := fun v H' F2 μ2 x st' e2 => h v H' F2 μ2 x st' (e.trans e2)
theorem KonB.mono {k : Bool → Store → Prop} {Q : Bool → Hp → Prop} (h : KonB K G F μ k Q) (e : Ext F μ F' μ') : KonB K G F' μ' k Q := fun v H' F2 μ2 st' e2 => h v H' F2 μ2 st' (e.trans e2)
theorem KonA.mono {k : List PV → Store → Prop} {Q : List V → Hp → Prop} (h : KonA K G F μ k Q) (e : Ext F μ F' μ') : KonA K G F' μ' k Q := fun v H' F2 μ2 x st' e2 => h v H' F2 μ2 x st' (e.trans e2)
end
def rE (K : PySem.W.Frag) (t : VM.TE) : L2.TE := fun σ H Q => ∃ G F μ ρ st k, Lay K G F μ st H ∧ EnvR K F μ σ ρ ∧ t ρ st k nox ∧ Kon K G F μ k Q
def rT (K : PySem.W.Frag) (t : VM.TT) : L2.TT := fun σ H Q => ∃ G F μ ρ st k, Lay K G F μ st H ∧ EnvR K F μ σ ρ ∧ t ρ st k nox ∧ KonB K G F μ k Q
def rA (K : PySem.W.Frag) (t : VM.TA) : L2.TA := fun σ H Q => ∃ G F μ ρ st k, Lay K G F μ st H ∧ EnvR K F μ σ ρ ∧ t ρ st k nox ∧ KonA K G F μ k Q
abbrev VE (X : Cx) (e : Expr) (t : VM.TE) : Prop := PE X e (rE X.K t)
abbrev VT (X : Cx) (e : Expr) (t : VM.TT) : Prop := PT X e (rT X.K t)
abbrev VA (X : Cx) (es : List Expr) (t : VM.TA) : Prop := PA X es (rA X.K t)
theorem pe_imp {X : Cx} {e : Expr} {t t' : L2.TE} (h : PE X e t) (hi : ∀ σ H Q, t' σ H Q → t σ H Q) : PE X e t' := ⟨fun pins s σ H Q I q => h.run pins s σ H Q I (hi σ H Q q)⟩
theorem pt_imp {X : Cx} {e : Expr} {t t' : L2.TT} (h : PT X e t) (hi : ∀ σ H Q, t' σ H Q → t σ H Q) : PT X e t' := ⟨fun pins s σ H Q I q => h.run pins s σ H Q I (hi σ H Q q)⟩
theorem pw_imp {X : Cx} {e : Expr} {t t' : L2.TT} (h : PW X e t) (hi : ∀ σ H Q, t' σ H Q → t σ H Q) : PW X e t' := ⟨fun wh pins s σ H Q I q => h.run wh pins s σ H Q I (hi σ H Q q)⟩
theorem pa_imp {X : Cx} {es : List Expr} {t t' : L2.TA} (h : PA X es t) (hi : ∀ σ H Q, t' σ H Q → t σ H Q) : PA X es t' := ⟨fun pos pins s σ H Q I q => h.run pos pins s σ H Q I (hi σ H Q q)⟩
def R2of (K : PySem.W.Frag) (f : PV → PV → Store → VM.KV → Prop) : R2 := fun x y H Q => ∃ G F μ st px py k, Lay K G F μ st H ∧ Rep K F μ px x ∧ Rep K F μ py y ∧ f px py st k ∧ Kon K G F μ k Q
section
variable {K : PySem.W.Frag} {G F : Hp} {μ : List Addr} {σ : L2.St} {H : Hp}
theorem bind1 {ta : VM.TE} {ρ : VM.Env} {st : Store} {k : VM.KV} {W : V → Hp → Prop} (l : Lay K G F μ st H) (r : EnvR K F μ σ ρ) (h : ta ρ st k nox)
    (hG : ∀ v H1 F1 μ1 x st1, Ext F μ F1 μ1 → Lay K G F1 μ1 st1 H1 → EnvR K F1 μ1 σ ρ → Rep K F1 μ1 x v → k x st1 → W v H1) : rE K ta σ H W :=
  ⟨G, F, μ, ρ, st, k, l, r, h, fun v H' F' μ' x st' e l' r' q => hG v H' F' μ' x st' e l' (r.mono e) r' q⟩
theorem bindT {ta : VM.TT} {ρ : VM.Env} {st : Store} {k : Bool → Store → Prop} {W : Bool → Hp → Prop} (l : Lay K G F μ st H) (r : EnvR K F μ σ ρ) (h : ta ρ st k nox)
    (hG : ∀ b H1 F1 μ1 st1, Ext F μ F1 μ1 → Lay K G F1 μ1 st1 H1 → EnvR K F1 μ1 σ ρ → k b st1 → W b H1) : rT K ta σ H W :=
  ⟨G, F, μ, ρ, st, k, l, r, h, fun v H' F' μ' st' e l' q => hG v H' F' μ' st' e l' (r.mono e) q⟩
theorem bindA {ta : VM.TA} {ρ : VM.Env} {st : Store} {k : List PV → Store → Prop} {W : List V → Hp → Prop} (l : Lay K G F μ st H) (r : EnvR K F μ σ ρ) (h : ta ρ st k nox)
    (hG : ∀ vs H1 F1 μ1 xs st1, Ext F μ F1 μ1 → Lay K G F1 μ1 st1 H1 → EnvR K F1 μ1 σ ρ → RepL K F1 μ1 xs vs → k xs st1 → W vs H1) : rA K ta σ H W :=
  ⟨G, F, μ, ρ, st, k, l, r, h, fun v H' F' μ' x st' e l' r' q => hG v H' F' μ' x st' e l' (r.mono e) r' q⟩
theorem bind2 {ta tb : VM.TE} {ρ : VM.Env} {st : Store} {f : PV → PV → Store → VM.KV → Prop} {k : VM.KV} {Q : VK} (l : Lay K G F μ st H) (r : EnvR K F μ σ ρ) (hk : Kon K G F μ k Q)
    (h : ta ρ st (fun u st => tb ρ st (fun v st => f u v st k) nox) nox) : tOp (R2of K f) (rE K ta) (rE K tb) σ H Q :=
  bind1 l r h fun x H1 F1 μ1 px st1 e1 l1 r1 p1 q1 => bind1 l1 r1 q1 fun y H2 F2 μ2 py st2 e2 l2 r2 p2 q2 => ⟨G, F2, μ2, st2, px, py, k, l2, p1.mono e2, p2, q2, hk.mono (e1.trans e2)⟩
theorem asL_rep {st : Store} {px : PV} {x : V} {xs : List PV} (l : Lay K G F μ st H) (r : Rep K F μ px x) (h : VM.asL st px = some xs) : ∃ a vs, x = .ref a ∧ H a = some (.lst vs) ∧ RepL K F μ xs vs := by
  unfold VM.asL at h
  split at h
  · cases h
    unfold Rep at r
    obtain ⟨a, vs, h1, h2, h3⟩ := r
    exact ⟨a, vs, h1, l.same a _ h2, h3⟩
  · rename_i i
    split at h
    · rename_i ys e
      cases h
      unfold Rep at r
      obtain ⟨a, h1, h2⟩ := r
      obtain ⟨_, vs, h3, h4⟩ := l.obj i a _ h1 e
      exact ⟨a, vs, h2, h3, h4⟩
    · cases h
  · cases h
theorem rep_non {v : V} : Rep K F μ .non v ↔ v = .non := by unfold Rep; exact Iff.rfl
theorem rep_bl {b : Bool} {v : V} : Rep K F μ (.bl b) v ↔ v = .bl b := by unfold Rep; exact Iff.rfl
theorem rep_int {i : Int} {v : V} : Rep K F μ (.int i) v ↔ v = .int i := by unfold Rep; exact Iff.rfl
theorem rep_str {s : List Nat} {v : V} : Rep K F μ (.str s) v ↔ sOk s ∧ v = .str ⟨s.toArray⟩ := by unfold Rep; exact Iff.rfl
structure TupIff (A B C : Prop) : Prop where
  mp : A → B
  mpr : C → A
theorem rep_tup {xs : List PV} {v : V} : TupIff (Rep K F μ (.tup xs) v) (∃ a vs, v = .ref a ∧ SqT K F a vs ∧ RepL K F μ xs vs) (∃ a vs, v = .ref a ∧ SqX K F a vs ∧ RepL K F μ xs vs) := by
  constructor
  · intro h
    unfold Rep at h
    obtain ⟨a, vs, h1, h2, h3⟩ := h
    exact ⟨a, vs, h1, h2.t, h3⟩
  · intro h
    unfold Rep
    exact h
theorem rep_lst {xs : List PV} {v : V} : Rep K F μ (.lst xs) v ↔ ∃ a vs, v = .ref a ∧ F a = some (.lst vs) ∧ RepL K F μ xs vs := by
  constructor
  · intro h
    unfold Rep at h
    exact h
  · intro h
    unfold Rep
    exact h
theorem rep_scr {is : List Int} {v : V} : Rep K F μ (.scr is) v ↔ ∃ a, v = .ref a ∧ SqL K F a (is.map V.int) := by
  constructor
  · intro h
    unfold Rep at h
    exact h
  · intro h
    unfold Rep
    exact h
theorem rep_ref {i : Nat} {v : V} : Rep K F μ (.ref i) v ↔ ∃ a, μ[i]? = some a ∧ v = .ref a := by
  constructor
  · intro h
    unfold Rep at h
    exact h
  · intro h
    unfold Rep
    exact h
theorem Kon.lst {st : Store} {k : VM.KV} {Q : VK} {xs : List PV} {vs : List V} (hk : Kon K G F μ k Q) (l : Lay K G F μ st H) (r : RepL K F μ xs vs) (q : k (.lst xs) st) (p : Addr) (hp : H p = none) : Q (.ref p) (upd H p (.lst vs)) :=
  hk (.ref p) _ (upd F p (.lst vs)) μ (.lst xs) st (ext_upd l hp) (l.new hp) (rep_lst.mpr ⟨p, vs, rfl, upd_same, r.mono (ext_upd l hp)⟩) q
theorem Kon.tup {st : Store} {k : VM.KV} {Q : VK} {xs : List PV} {vs : List V} (hk : Kon K G F μ k Q) (l : Lay K G F μ st H) (r : RepL K F μ xs vs) (q : k (.tup xs) st) (p : Addr) (o : Obj) (hp : H p = none) (ho : Pl o) : Q (.ref p) (upd H p (.frz o (.tup vs))) :=
  hk (.ref p) _ (upd F p (.frz o (.tup vs))) μ (.tup xs) st (ext_upd l hp) (l.new hp) (rep_tup.mpr ⟨p, vs, rfl, .inl ⟨o, upd_same, ho⟩, r.mono (ext_upd l hp)⟩) q
theorem Kon.lstM {st : Store} {k : VM.KV} {Q : VK} {xs : List PV} {vs : List V} (hk : Kon K G F μ k Q) (l : Lay K G F μ st H) (r : RepL K F μ xs vs) (q : k (.ref st.length) (st ++ [.lst xs])) (p : Addr) (hp : H p = none) : Q (.ref p) (upd H p (.lst vs)) := by
  refine hk (.ref p) _ F (μ ++ [p]) (.ref st.length) (st ++ [.lst xs]) (ext_alloc p) (l.alloc (u := SO.lst xs) hp ⟨l.free hp, vs, upd_same, r.mono (ext_alloc p)⟩) (rep_ref.mpr ⟨p, ?_, rfl⟩) q
  rw [← l.len, List.getElem?_append_right (Nat.le_refl _)]
  simp
theorem Kon.same {st : Store} {k : VM.KV} {Q : VK} {x : PV} {v : V} (hk : Kon K G F μ k Q) (l : Lay K G F μ st H) (r : Rep K F μ x v) (q : k x st) : Q v H := hk v H F μ x st Ext.refl l r q
end
section
variable {X : Cx} {a b c : Expr} {ta tb tc : VM.TE} {pos : Pos}
theorem ve_var (i : Nat) {x : Str} (hN : X.N[i]? = some x := by rfl) (hv : Vis X.env.scope x := by first | exact Or.inl rfl | exact Or.inr (Or.inl rfl) | exact Or.inr (Or.inr rfl)) (hd : (x == ("__debug__" : Str)) = false := by decide)
    (hcd : (x == ("__classdict__" : Str)) = false := by decide) : VE X (.Name x pos) (VM.eVar i) := pe_imp (pe_var hN hv hd hcd) fun σ H Q h => by
  obtain ⟨G, F, μ, ρ, st, k, l, r, d, hk⟩ := h
  unfold VM.eVar at d
  split at d
  · rename_i v e
    obtain ⟨w, h1, h2⟩ := r.2 i v e
    exact ⟨w, h1, hk.same l h2 d⟩
  · exact d.elim
theorem ve_c {e : Expr} {v : V} {x : PV} (h : PE X e (tC v)) (hr : ∀ F μ, Rep X.K F μ x v) : VE X e (VM.eC x) := pe_imp h fun σ H Q h => by
  obtain ⟨G, F, μ, ρ, st, k, l, r, d, hk⟩ := h
  exact hk.same l (hr F μ) d
theorem ve_int {i : Int} {j : Nat} : VE X (.Constant (.int i) j pos) (VM.eC (.int i)) := ve_c pe_int fun _ _ => rep_int.mpr rfl
theorem ve_bl {i : Bool} {j : Nat} : VE X (.Constant (.bool i) j pos) (VM.eC (.bl i)) := ve_c pe_bl fun _ _ => rep_bl.mpr rfl
theorem ve_non {j : Nat} : VE X (.Constant .none j pos) (VM.eC .non) := ve_c pe_non fun _ _ => rep_non.mpr rfl
theorem sOk_of {s : List Nat} (h : (Nat.ble s.length 16777216 && s.all fun c => Nat.blt c 1114112) = true) : sOk s := by
  rw [Bool.and_eq_true] at h
  exact ⟨Nat.le_of_ble_eq_true h.1, fun c hc => Nat.le_of_ble_eq_true (List.all_eq_true.mp h.2 c hc)⟩
theorem ve_str {z : Str} {s : List Nat} {j : Nat} (hz : z = ⟨s.toArray⟩ := by rfl) (hs : (Nat.ble s.length 16777216 && s.all fun c => Nat.blt c 1114112) = true := by rfl) : VE X (.Constant (.str z) j pos) (VM.eC (.str s)) := by
  subst hz
  exact ve_c pe_str fun _ _ => rep_str.mpr ⟨sOk_of hs, rfl⟩

structure Dv (base : Heap) (P : Program) (stack : List PySem.Env) (A : Around) : Prop where
  seer : base.NoSeer
  tree : P.given.tree = none
  top : ∃ env l, stack = env :: l ∧ env.scope.isGenerator = false ∧ env.scope.isCoroutine = false ∧ env.builtins = builtinsNs ∧ env.globals = mainGlobals
  dep : A.depth + Builtin.pylongFrames < recursionLimit
theorem dv_room {pins : List (Addr × Obj)} {σ : L2.St} {H : Hp} {s : Shared} (hd : Dv X.base X.prog X.stack X.A) (I : Inv X pins σ H s) : PylongRoom (model X.prog X.w) X.A s := by
  obtain ⟨env, l, e, h1, h2, h3, h4⟩ := hd.top
  exact PylongRoom.of I.nolimit hd.dep (SeerAt.of (env := env) (l := l) (hd.seer.keeps I.bk) hd.tree (I.ok.frames.trans (by rw [e])) h1 h2 h3 h4)
theorem mulOk {i j : Int} (h : VM.MulOk i j) : IntMulOk i j := by
  have b : ∀ x : Int, Builtin.Int.intBits x ≤ x.natAbs.log2 + 1 := fun x => by
    unfold Builtin.Int.intBits
    split <;> omega
  have h1 := b i
  have h2 := b j
  have h3 : i.natAbs.log2 + j.natAbs.log2 < 100000000 := h
  have e : bitsLine = 134217728 := by decide
  unfold IntMulOk
  intro z
  rw [Bool.and_eq_true] at z
  have z2 := z.2
  unfold Builtin.Int.intTooBig at z2
  have z3 := of_decide_eq_true z2
  rw [e] at z3
  omega
theorem op_mulG : OpR X (binaryOp .Mult) (rI VM.MulOk fun i j => .int (i * j)) := opI fun _ _ _ _ _ _ _ hc q => mul_int q (mulOk hc)
theorem strA (a b : List Nat) : ((⟨a.toArray⟩ : Str) ++ (⟨b.toArray⟩ : Str)) = ⟨(a ++ b).toArray⟩ := by
  show (⟨a.toArray ++ b.toArray⟩ : Str) = _
  simp
theorem o_add : OpR X (binaryOp .Add) (R2of X.K VM.opAdd) := by
  intro pins s σ H x y v u Q I rx ry h
  obtain ⟨G, F, μ, st, px, py, k, l, p1, p2, d, hk⟩ := h
  unfold VM.opAdd at d
  split at d
  · rename_i i j
    obtain rfl := rep_int.mp p1
    obtain rfl := rep_int.mp p2
    exact op_add pins s σ H _ _ v u Q I rx ry ⟨i, j, rfl, rfl, hk.same l (rep_int.mpr rfl) d⟩
  · rename_i a b
    obtain ⟨o1, rfl⟩ := rep_str.mp p1
    obtain ⟨o2, rfl⟩ := rep_str.mp p2
    refine op_add_str pins s σ H _ _ v u Q I rx ry ⟨_, _, rfl, rfl, by rw [sizeLine_eq]; simpa [Str.length] using d.1, ?_⟩
    rw [strA]
    exact hk.same l (rep_str.mpr ⟨⟨by simpa using d.1, fun c hc => (List.mem_append.mp hc).elim (o1.2 c) (o2.2 c)⟩, rfl⟩) d.2
  · rename_i xs ys
    obtain ⟨p, vs, rfl, e1, r1⟩ := rep_tup.mp p1
    obtain ⟨q, ws, rfl, e2, r2⟩ := rep_tup.mp p2
    have h1 := r1.length
    have h2 := r2.length
    refine op_catX pins s σ H _ _ v u Q I rx ry ⟨p, q, vs, ws, rfl, rfl, l.same.seqT e1, l.same.seqT e2, by rw [sizeLine_eq]; have z : VM.SZ = 16777216 := rfl; have := d.1; omega, fun z => ?_, fun _ z => ?_, fun _ _ => hk.tup l (r1.append r2) d.2⟩
    · subst z
      cases xs with
      | nil => exact hk.same l p2 d.2
      | cons _ _ => simp at h1
    · subst z
      cases ys with
      | nil =>
        have d2 := d.2
        rw [List.append_nil] at d2
        exact hk.same l p1 d2
      | cons _ _ => simp at h2
  · split at d
    · rename_i xs ys ea eb
      obtain ⟨p, vs, rfl, e1, r1⟩ := asL_rep l p1 ea
      obtain ⟨q, ws, rfl, e2, r2⟩ := asL_rep l p2 eb
      have h1 := r1.length
      have h2 := r2.length
      exact op_cat pins s σ H _ _ v u Q I rx ry ⟨p, q, vs, ws, rfl, rfl, e1, e2, by rw [sizeLine_eq]; have z : VM.SZ = 16777216 := rfl; have := d.1; omega, hk.lst l (r1.append r2) d.2⟩
    · exact d.elim
theorem o_sub : OpR X (binaryOp .Sub) (R2of X.K VM.opSub) := by
  intro pins s σ H x y v u Q I rx ry h
  obtain ⟨G, F, μ, st, px, py, k, l, p1, p2, d, hk⟩ := h
  unfold VM.opSub at d
  split at d
  · rename_i i j
    obtain rfl := rep_int.mp p1
    obtain rfl := rep_int.mp p2
    exact op_sub pins s σ H _ _ v u Q I rx ry ⟨i, j, rfl, rfl, hk.same l (rep_int.mpr rfl) d⟩
  · exact d.elim
theorem o_fdiv (hd : Dv X.base X.prog X.stack X.A) : OpR X (binaryOp .FloorDiv) (R2of X.K VM.opFdiv) := by
  intro pins s σ H x y v u Q I rx ry h
  obtain ⟨G, F, μ, st, px, py, k, l, p1, p2, d, hk⟩ := h
  unfold VM.opFdiv at d
  split at d
  · rename_i i j
    obtain rfl := rep_int.mp p1
    obtain rfl := rep_int.mp p2
    obtain ⟨t, rfl⟩ := rx
    obtain ⟨t', rfl⟩ := ry
    exact floordiv_int d.1 ⟨.int (i.fdiv j), H, I.tok _, ⟨_, rfl⟩, hk.same l (rep_int.mpr rfl) d.2⟩ (.inr (dv_room hd I))
  · exact d.elim
theorem o_mod : OpR X (binaryOp .Mod) (R2of X.K VM.opMod) := by
  intro pins s σ H x y v u Q I rx ry h
  obtain ⟨G, F, μ, st, px, py, k, l, p1, p2, d, hk⟩ := h
  unfold VM.opMod at d
  split at d
  · rename_i i j
    obtain rfl := rep_int.mp p1
    obtain rfl := rep_int.mp p2
    exact op_modN pins s σ H _ _ v u Q I rx ry ⟨i, j, rfl, rfl, d.1, hk.same l (rep_int.mpr rfl) d.2⟩
  · exact d.elim
theorem o_pow : OpR X (binaryOp .Pow) (R2of X.K VM.opPow) := by
  intro pins s σ H x y v u Q I rx ry h
  obtain ⟨G, F, μ, st, px, py, k, l, p1, p2, d, hk⟩ := h
  unfold VM.opPow at d
  split at d
  · rename_i i j
    obtain rfl := rep_int.mp p1
    obtain rfl := rep_int.mp p2
    exact op_pow pins s σ H _ _ v u Q I rx ry ⟨i, j, rfl, rfl, d.1, hk.same l (rep_int.mpr rfl) d.2⟩
  · exact d.elim
theorem RepL.rep {K : PySem.W.Frag} {F : Hp} {μ : List Addr} {xs : List PV} {vs : List V} (r : RepL K F μ xs vs) : ∀ n : Nat, RepL K F μ (List.replicate n xs).flatten (List.replicate n vs).flatten
  | 0 => repL_nil.mpr rfl
  | n + 1 => by
    rw [List.replicate_succ, List.replicate_succ, List.flatten_cons, List.flatten_cons]
    exact r.append (RepL.rep r n)
theorem o_mul : OpR X (binaryOp .Mult) (R2of X.K VM.opMul) := by
  intro pins s σ H x y v u Q I rx ry h
  obtain ⟨G, F, μ, st, px, py, k, l, p1, p2, d, hk⟩ := h
  unfold VM.opMul at d
  split at d
  · rename_i i j
    obtain rfl := rep_int.mp p1
    obtain rfl := rep_int.mp p2
    exact op_mulG pins s σ H _ _ v u Q I rx ry ⟨i, j, rfl, rfl, d.1, hk.same l (rep_int.mpr rfl) d.2⟩
  · rename_i xs j
    obtain ⟨p, vs, rfl, e1, r1⟩ := rep_lst.mp p1
    obtain rfl := rep_int.mp p2
    obtain ⟨h1, h2, h3, d⟩ := d
    have hl := r1.length
    exact op_rep pins s σ H _ _ v u Q I rx ry ⟨p, j, vs, rfl, rfl, l.same _ _ e1, h1, h2, by rw [sizeLine_eq, hl]; exact h3, hk.lst l (r1.rep _) d⟩
  · rename_i xs j
    obtain ⟨p, vs, rfl, e1, r1⟩ := rep_tup.mp p1
    obtain rfl := rep_int.mp p2
    obtain ⟨h0, h1, h2, h3, d⟩ := d
    have hl := r1.length
    exact op_repTX pins s σ H _ _ v u Q I rx ry ⟨p, j, vs, rfl, rfl, l.same.seqT e1, fun z => by
      subst z
      exact h0 (List.length_eq_zero_iff.mp hl.symm), h1, h2, by rw [hl]; exact h3, hk.tup l (r1.rep _) d⟩
  · exact d.elim
theorem ve_bin {op : Operator} {o : VM.Op} (ho : OpR X (binaryOp op) (R2of X.K (VM.opBin o))) (ha : VE X a ta) (hb : VE X b tb) : VE X (.BinOp a op b pos) (VM.eBin o ta tb) := pe_imp (pe_op ho ha hb) fun σ H Q h => by
  obtain ⟨G, F, μ, ρ, st, k, l, r, d, hk⟩ := h
  exact bind2 l r hk d
theorem ve_neg (ha : VE X a ta) : VE X (.UnaryOp .USub a pos) (VM.eNeg ta) := pe_imp (pe_un un_neg ha) fun σ H Q h => by
  obtain ⟨G, F, μ, ρ, st, k, l, r, d, hk⟩ := h
  refine bind1 l r d fun x H1 F1 μ1 px st1 e1 l1 r1 p1 q1 => ?_
  split at q1
  · rename_i i
    obtain rfl := rep_int.mp p1
    exact ⟨i, rfl, (hk.mono e1).same l1 (rep_int.mpr rfl) q1⟩
  · exact q1.elim
end
end VS
end
section
namespace VS
open PySem PySem.Spec PyProof.Rows L2
open VM (PV SO Store)
variable [Lams] [Wsh]
mutual
def toD : PV → PyData
  | .non => .none
  | .bl b => .bool b
  | .int i => .int i
  | .str s => .str ⟨s.toArray⟩
  | .tup xs => .tuple (toDL xs)
  | .lst xs => .list (toDL xs)
  | _ => .none
def toDL : List PV → List PyData
  | [] => []
  | x :: xs => toD x :: toDL xs
end
section
variable {K : PySem.W.Frag} {G F : Hp} {μ : List Addr} {H : Hp}
mutual
theorem dp_of (hs : SameD F H) : ∀ (n : Nat) (x : PV) (v : V), VM.isD n x = true → Rep K F μ x v → Dp K H v (toD x)
  | _, .non, v, _, r => by
    obtain rfl := rep_non.mp r
    unfold toD
    exact .non
  | _, .bl b, v, _, r => by
    obtain rfl := rep_bl.mp r
    unfold toD
    exact .bl b
  | _, .int i, v, _, r => by
    obtain rfl := rep_int.mp r
    unfold toD
    exact .int i
  | _, .str s, v, _, r => by
    obtain ⟨_, rfl⟩ := rep_str.mp r
    unfold toD
    exact .str _
  | 0, .tup xs, v, h, r => by simp [VM.isD] at h
  | n + 1, .tup xs, v, h, r => by
    obtain ⟨a, vs, rfl, e, q⟩ := rep_tup.mp r
    unfold toD
    exact .tup (hs.seqT e) (dpL_of hs n xs vs (by simpa [VM.isD] using h) q)
  | 0, .lst xs, v, h, r => by simp [VM.isD] at h
  | n + 1, .lst xs, v, h, r => by
    obtain ⟨a, vs, rfl, e, q⟩ := rep_lst.mp r
    unfold toD
    exact .lst (.inl (.inl (hs _ _ e))) (dpL_of hs n xs vs (by simpa [VM.isD] using h) q)
  | n, .dct _ _, v, h, r => by simp [VM.isD] at h
  | n, .dctT _ _, v, h, r => by simp [VM.isD] at h
  | n, .obj _ _ _, v, h, r => by simp [VM.isD] at h
  | n, .scr _, v, h, r => by simp [VM.isD] at h
  | n, .ref _, v, h, r => by simp [VM.isD] at h
  | n, .ty _, v, h, r => by simp [VM.isD] at h
  | n, .fn _, v, h, r => by simp [VM.isD] at h
  | n, .cls _, v, h, r => by simp [VM.isD] at h
theorem dpL_of (hs : SameD F H) : ∀ (n : Nat) (xs : List PV) (vs : List V), VM.isDL n xs = true → RepL K F μ xs vs → DpAll K H vs (toDL xs)
  | _, [], vs, _, r => by
    rw [repL_nil.mp r]
    unfold toDL
    exact .nil
  | n, x :: xs, vs, h, r => by
    obtain ⟨v, w, rfl, r1, r2⟩ := repL_cons.mp r
    have h' : VM.isD n x = true ∧ VM.isDL n xs = true := by simpa [VM.isDL] using h
    unfold toDL
    exact .cons (dp_of hs n x v h'.1 r1) (dpL_of hs n xs w h'.2 r2)
end
mutual
theorem lay_of : ∀ (n : Nat) (x : PV) (v : V), VM.isD n x = true → Rep K F μ x v → (toD x).canLay0 = true ∧ (toD x).depth ≤ n
  | _, .non, v, _, r => by simp [toD, PyData.canLay0, PyData.depth]
  | _, .bl b, v, _, r => by simp [toD, PyData.canLay0, PyData.depth]
  | _, .int i, v, _, r => by simp [toD, PyData.canLay0, PyData.depth]
  | _, .str s, v, _, r => by
    obtain ⟨o, rfl⟩ := rep_str.mp r
    refine ⟨?_, by simp [toD, PyData.depth]⟩
    simp only [toD, PyData.canLay0, PyData.strOk]
    simp only [List.all_toArray, List.all_eq_true, decide_eq_true_eq]
    exact fun c hc => o.2 c hc
  | 0, .tup xs, v, h, r => by simp [VM.isD] at h
  | n + 1, .tup xs, v, h, r => by
    obtain ⟨a, vs, rfl, e, q⟩ := rep_tup.mp r
    have z := layL_of n xs vs (by simpa [VM.isD] using h) q
    simp only [toD, PyData.canLay0, PyData.depth]
    exact ⟨z.1, by omega⟩
  | 0, .lst xs, v, h, r => by simp [VM.isD] at h
  | n + 1, .lst xs, v, h, r => by
    obtain ⟨a, vs, rfl, e, q⟩ := rep_lst.mp r
    have z := layL_of n xs vs (by simpa [VM.isD] using h) q
    simp only [toD, PyData.canLay0, PyData.depth]
    exact ⟨z.1, by omega⟩
  | n, .dct _ _, v, h, r => by simp [VM.isD] at h
  | n, .dctT _ _, v, h, r => by simp [VM.isD] at h
  | n, .obj _ _ _, v, h, r => by simp [VM.isD] at h
  | n, .scr _, v, h, r => by simp [VM.isD] at h
  | n, .ref _, v, h, r => by simp [VM.isD] at h
  | n, .ty _, v, h, r => by simp [VM.isD] at h
  | n, .fn _, v, h, r => by simp [VM.isD] at h
  | n, .cls _, v, h, r => by simp [VM.isD] at h
theorem layL_of : ∀ (n : Nat) (xs : List PV) (vs : List V), VM.isDL n xs = true → RepL K F μ xs vs → PyData.canLayAll0 (toDL xs) = true ∧ PyData.depthAll (toDL xs) ≤ n
  | n, [], vs, _, r => by simp [toDL, PyData.canLayAll0, PyData.depthAll]
  | n, x :: xs, vs, h, r => by
    obtain ⟨v, w, rfl, r1, r2⟩ := repL_cons.mp r
    have h' : VM.isD n x = true ∧ VM.isDL n xs = true := by simpa [VM.isDL] using h
    have a := lay_of n x v h'.1 r1
    have b := layL_of n xs w h'.2 r2
    simp only [toDL, PyData.canLayAll0, PyData.depthAll]
    rw [Bool.and_eq_true]
    exact ⟨⟨a.1, b.1⟩, by omega⟩
end
theorem shaped_of {n : Nat} {x : PV} {v : V} (hn : n ≤ 64) (h : VM.isD n x = true) (r : Rep K F μ x v) : SeqAt.shaped (toD x) = true := by
  have z := lay_of n x v h r
  show ((toD x).canLay0 && decide ((toD x).depth ≤ 64)) = true
  rw [Bool.and_eq_true]
  exact ⟨z.1, decide_eq_true (by omega)⟩
theorem str_beq (a b : List Nat) : ((⟨a.toArray⟩ : Str) == ⟨b.toArray⟩) = (a == b) := by
  rw [Bool.eq_iff_iff]
  simp
mutual
theorem eqv_of : ∀ (n m : Nat) (x y : PV), VM.isD n x = true → VM.isD m y = true → PyData.eqv (toD x) (toD y) = VM.eqv x y
  | n, m, .non, y, h, h' => by
    cases y <;> first | (simp [VM.isD] at h'; done) | simp [toD, PyData.eqv, VM.eqv]
  | n, m, .bl b, y, h, h' => by
    cases y <;> first | (simp [VM.isD] at h'; done) | simp [toD, PyData.eqv, VM.eqv]
  | n, m, .int i, y, h, h' => by
    cases y <;> first | (simp [VM.isD] at h'; done) | simp [toD, PyData.eqv, VM.eqv]
  | n, m, .str s, y, h, h' => by
    cases y <;> first | (simp [VM.isD] at h'; done) | (simp only [toD, PyData.eqv, VM.eqv, str_beq])
  | 0, m, .tup xs, y, h, h' => by simp [VM.isD] at h
  | n + 1, m, .tup xs, y, h, h' => by
    cases y with
    | tup ys =>
      cases m with
      | zero => simp [VM.isD] at h'
      | succ m =>
        simp only [toD, PyData.eqv, VM.eqv]
        exact eqvL_of n m xs ys (by simpa [VM.isD] using h) (by simpa [VM.isD] using h')
    | _ => first | (simp [VM.isD] at h'; done) | simp [toD, PyData.eqv, VM.eqv]
  | 0, m, .lst xs, y, h, h' => by simp [VM.isD] at h
  | n + 1, m, .lst xs, y, h, h' => by
    cases y with
    | lst ys =>
      cases m with
      | zero => simp [VM.isD] at h'
      | succ m =>
        simp only [toD, PyData.eqv, VM.eqv]
        exact eqvL_of n m xs ys (by simpa [VM.isD] using h) (by simpa [VM.isD] using h')
    | _ => first | (simp [VM.isD] at h'; done) | simp [toD, PyData.eqv, VM.eqv]
  | n, m, .dct _ _, y, h, h' => by simp [VM.isD] at h
  | n, m, .dctT _ _, y, h, h' => by simp [VM.isD] at h
  | n, m, .obj _ _ _, y, h, h' => by simp [VM.isD] at h
  | n, m, .scr _, y, h, h' => by simp [VM.isD] at h
  | n, m, .ref _, y, h, h' => by simp [VM.isD] at h
  | n, m, .ty _, y, h, h' => by simp [VM.isD] at h
  | n, m, .fn _, y, h, h' => by simp [VM.isD] at h
  | n, m, .cls _, y, h, h' => by simp [VM.isD] at h
theorem eqvL_of : ∀ (n m : Nat) (xs ys : List PV), VM.isDL n xs = true → VM.isDL m ys = true → PyData.eqvAll (toDL xs) (toDL ys) = VM.eqvL xs ys
  | n, m, [], ys, h, h' => by
    cases ys <;> simp [toDL, PyData.eqvAll, VM.eqvL]
  | n, m, x :: xs, ys, h, h' => by
    cases ys with
    | nil => simp [toDL, PyData.eqvAll, VM.eqvL]
    | cons y ys =>
      have a : VM.isD n x = true ∧ VM.isDL n xs = true := by simpa [VM.isDL] using h
      have b : VM.isD m y = true ∧ VM.isDL m ys = true := by simpa [VM.isDL] using h'
      simp only [toDL, PyData.eqvAll, VM.eqvL]
      rw [eqv_of n m x y a.1 b.1, eqvL_of n m xs ys a.2 b.2]
end
theorem frz_dp {st : Store} {n : Nat} {x : PV} {v : V} (l : Lay K G F μ st H) (h : VM.isD n (VM.frz st x) = true) (hn : n ≤ 64) (r : Rep K F μ x v) : Dp K H v (toD (VM.frz st x)) ∧ SeqAt.shaped (toD (VM.frz st x)) = true := by
  by_cases hx : ∃ i, x = .ref i
  · obtain ⟨i, rfl⟩ := hx
    obtain ⟨a, h1, rfl⟩ := rep_ref.mp r
    unfold VM.frz at h ⊢
    dsimp only at h ⊢
    split at h
    · rename_i xs e
      obtain ⟨hf, vs, h3, h4⟩ := l.obj i a _ h1 e
      cases n with
      | zero => simp [VM.isD] at h
      | succ n =>
        have hd : VM.isDL n xs = true := by simpa [VM.isD] using h
        have z := layL_of n xs vs hd h4
        refine ⟨?_, ?_⟩
        · unfold toD
          exact .lst (.inl (.inl h3)) (dpL_of l.same n xs vs hd h4)
        · show ((toD (.lst xs)).canLay0 && decide ((toD (.lst xs)).depth ≤ 64)) = true
          rw [Bool.and_eq_true]
          simp only [toD, PyData.canLay0, PyData.depth]
          exact ⟨z.1, decide_eq_true (by omega)⟩
    · simp [VM.isD] at h
  · have e : VM.frz st x = x := by
      unfold VM.frz
      split
      · exact absurd ⟨_, rfl⟩ hx
      · rfl
    rw [e] at h ⊢
    exact ⟨dp_of l.same n x v h r, shaped_of hn h r⟩
end
def R2B (K : PySem.W.Frag) (f : PV → PV → Store → (Bool → Store → Prop) → Prop) : R2 := fun x y H Q => ∃ G F μ st px py k, Lay K G F μ st H ∧ Rep K F μ px x ∧ Rep K F μ py y ∧ f px py st k ∧ KonB K G F μ k fun b H' => Q (.bl b) H'
section
variable {K : PySem.W.Frag} {G F : Hp} {μ : List Addr} {H : Hp} {st : Store}
theorem KonB.same {k : Bool → Store → Prop} {Q : Bool → Hp → Prop} {b : Bool} (hk : KonB K G F μ k Q) (l : Lay K G F μ st H) (q : k b st) : Q b H := hk b H F μ st Ext.refl l q
end
section
variable {X : Cx}
theorem c_eq (hu : X.A.units + 64 < cLine) : OpR X (compareOp .Eq) (R2B X.K VM.opEq) := by
  intro pins s σ H x y v u Q I rx ry h
  obtain ⟨G, F, μ, st, px, py, k, l, p1, p2, ⟨d1, d2, d⟩, hk⟩ := h
  obtain ⟨a1, a2⟩ := frz_dp l d1 (by decide) p1
  obtain ⟨b1, b2⟩ := frz_dp l d2 (by decide) p2
  exact op_eqD hu pins s σ H x y v u Q I rx ry ⟨_, _, a1, b1, a2, b2, by rw [eqv_of 60 60 _ _ d1 d2]; exact hk.same l d⟩
theorem c_ne (hu : X.A.units + 64 < cLine) : OpR X (compareOp .NotEq) (R2B X.K fun x y st k => VM.opEq x y st fun b st => k (!b) st) := by
  intro pins s σ H x y v u Q I rx ry h
  obtain ⟨G, F, μ, st, px, py, k, l, p1, p2, ⟨d1, d2, d⟩, hk⟩ := h
  obtain ⟨a1, a2⟩ := frz_dp l d1 (by decide) p1
  obtain ⟨b1, b2⟩ := frz_dp l d2 (by decide) p2
  exact op_neD hu pins s σ H x y v u Q I rx ry ⟨_, _, a1, b1, a2, b2, by rw [eqv_of 60 60 _ _ d1 d2]; exact hk.same l d⟩
theorem c_lt : OpR X (compareOp .Lt) (R2B X.K (VM.opCm .lt)) := by
  intro pins s σ H x y v u Q I rx ry h
  obtain ⟨G, F, μ, st, px, py, k, l, p1, p2, d, hk⟩ := h
  simp only [VM.opCm] at d
  split at d
  · obtain rfl := rep_int.mp p1
    obtain rfl := rep_int.mp p2
    exact op_lt pins s σ H _ _ v u Q I rx ry ⟨_, _, rfl, rfl, hk.same l d⟩
  · exact d.elim
theorem c_gt : OpR X (compareOp .Gt) (R2B X.K (VM.opCm .gt)) := by
  intro pins s σ H x y v u Q I rx ry h
  obtain ⟨G, F, μ, st, px, py, k, l, p1, p2, d, hk⟩ := h
  simp only [VM.opCm] at d
  split at d
  · obtain rfl := rep_int.mp p1
    obtain rfl := rep_int.mp p2
    exact op_gt pins s σ H _ _ v u Q I rx ry ⟨_, _, rfl, rfl, hk.same l d⟩
  · exact d.elim
theorem c_ge : OpR X (compareOp .GtE) (R2B X.K (VM.opCm .ge)) := by
  intro pins s σ H x y v u Q I rx ry h
  obtain ⟨G, F, μ, st, px, py, k, l, p1, p2, d, hk⟩ := h
  simp only [VM.opCm] at d
  split at d
  · obtain rfl := rep_int.mp p1
    obtain rfl := rep_int.mp p2
    exact op_ge pins s σ H _ _ v u Q I rx ry ⟨_, _, rfl, rfl, hk.same l d⟩
  · exact d.elim
theorem rep_noniff {K : PySem.W.Frag} {F : Hp} {μ : List Addr} {x : PV} {v : V} (r : Rep K F μ x v) : decide (v = .non) = VM.isNon x := by
  cases x <;> unfold Rep at r
  case non => rw [r]; rfl
  case bl => rw [r]; rfl
  case int => rw [r]; rfl
  case str => rw [r.2]; rfl
  case tup => obtain ⟨a, vs, rfl, _⟩ := r; rfl
  case lst => obtain ⟨a, vs, rfl, _⟩ := r; rfl
  case dct => obtain ⟨a, vs, rfl, _⟩ := r; rfl
  case scr => obtain ⟨a, rfl, _⟩ := r; rfl
  case ref => obtain ⟨a, _, rfl⟩ := r; rfl
  case obj => obtain ⟨a, dx, vs, rfl, _⟩ := r; rfl
  case cls => subst r; rfl
  case exc => obtain ⟨a, d, vs, φ, rfl, _⟩ := r; rfl
  case lam i j =>
    obtain ⟨a, _, r⟩ := r
    cases j with
    | none =>
      obtain rfl : v = V.ref a := r
      rfl
    | some j =>
      obtain ⟨f, vs, rfl, _⟩ := r
      rfl
  all_goals exact r.elim
theorem c_isN : OpR X (compareOp .Is) (R2B X.K (VM.opCm .isN)) := by
  intro pins s σ H x y v u Q I rx ry h
  obtain ⟨G, F, μ, st, px, py, k, l, p1, p2, ⟨hy, d⟩, hk⟩ := h
  obtain rfl : py = .non := by cases py <;> first | rfl | cases hy
  obtain rfl := rep_non.mp p2
  refine op_isN pins s σ H _ _ v u Q I rx ry ⟨rfl, ?_⟩
  rw [rep_noniff p1]
  exact hk.same l d
theorem flat_of {K : PySem.W.Frag} {F : Hp} {μ : List Addr} {x : PV} {v : V} (h : VM.isD 0 x = true) (r : Rep K F μ x v) : flatV v = true := by
  cases x <;> first | (simp [VM.isD] at h; done) | skip
  case non => rw [rep_non.mp r]; rfl
  case bl => rw [rep_bl.mp r]; rfl
  case int => rw [rep_int.mp r]; rfl
  case str => rw [(rep_str.mp r).2]; rfl
theorem flatL_of {K : PySem.W.Frag} {F : Hp} {μ : List Addr} : ∀ {xs : List PV} {vs : List V}, VM.isDL 0 xs = true → RepL K F μ xs vs → vs.all flatV = true
  | [], vs, _, r => by
    rw [repL_nil.mp r]
    rfl
  | x :: xs, vs, h, r => by
    obtain ⟨v, w, rfl, r1, r2⟩ := repL_cons.mp r
    have a : VM.isD 0 x = true ∧ VM.isDL 0 xs = true := by simpa [VM.isDL] using h
    rw [List.all_cons, flat_of a.1 r1, flatL_of a.2 r2]
    rfl
theorem eqV_of {K : PySem.W.Frag} {F : Hp} {μ : List Addr} {x y : PV} {v w : V} (h : VM.isD 0 x = true) (h' : VM.isD 0 y = true) (r : Rep K F μ x v) (r' : Rep K F μ y w) : eqV v w = VM.eqv x y := by
  cases x <;> first | (simp [VM.isD] at h; done) | skip
  all_goals cases y <;> first | (simp [VM.isD] at h'; done) | skip
  all_goals first
    | (obtain rfl := rep_non.mp r)
    | (obtain rfl := rep_bl.mp r)
    | (obtain rfl := rep_int.mp r)
    | (obtain ⟨_, rfl⟩ := rep_str.mp r)
  all_goals first
    | (obtain rfl := rep_non.mp r')
    | (obtain rfl := rep_bl.mp r')
    | (obtain rfl := rep_int.mp r')
    | (obtain ⟨_, rfl⟩ := rep_str.mp r')
  all_goals first
    | (simp [eqV, VM.eqv]; done)
    | simp only [eqV, VM.eqv, str_beq]
theorem inV_of {K : PySem.W.Frag} {F : Hp} {μ : List Addr} {x : PV} {v : V} (h : VM.isD 0 x = true) (r : Rep K F μ x v) : ∀ {ys : List PV} {ws : List V}, VM.isDL 0 ys = true → RepL K F μ ys ws → inV v ws = ys.any fun y => VM.eqv y x
  | [], ws, _, q => by
    rw [repL_nil.mp q]
    rfl
  | y :: ys, ws, h', q => by
    obtain ⟨w, w', rfl, r1, r2⟩ := repL_cons.mp q
    have a : VM.isD 0 y = true ∧ VM.isDL 0 ys = true := by simpa [VM.isDL] using h'
    have ih := inV_of h r a.2 r2
    unfold inV at ih ⊢
    rw [List.any_cons, List.any_cons, eqV_of a.1 h r1 r, ih]
theorem c_in_gen {neg : Bool} {op : CmpOp} (h1 : OpR X (compareOp op) (rIn X.K neg)) (h2 : OpR X (compareOp op) (fun x y H Q => ∃ (c : Nat) (z : Str), x = .str ⟨#[c]⟩ ∧ y = .str z ∧ Q (.bl (if neg then !decide (c ∈ z.cps.toList) else decide (c ∈ z.cps.toList))) H)) :
    OpR X (compareOp op) (R2B X.K fun x y st k => VM.opIn x y st fun b st => k (if neg then !b else b) st) := by
  intro pins s σ H x y v u Q I rx ry h
  obtain ⟨G, F, μ, st, px, py, k, l, p1, p2, d, hk⟩ := h
  unfold VM.opIn at d
  split at d
  · split at d
    · rename_i z c
      obtain ⟨_, rfl⟩ := rep_str.mp p1
      obtain ⟨_, rfl⟩ := rep_str.mp p2
      exact h2 pins s σ H _ _ v u Q I rx ry ⟨c, _, rfl, rfl, hk.same l (by simpa using d)⟩
    · exact d.elim
  · rename_i ys
    obtain ⟨d1, d2, d⟩ := d
    obtain ⟨a, ws, rfl, e, q⟩ := rep_tup.mp p2
    exact h1 pins s σ H _ _ v u Q I rx ry ⟨a, ws, rfl, .inr (l.same.seqT e), flat_of d1 p1, flatL_of d2 q, by rw [inV_of d1 p1 d2 q]; exact hk.same l d⟩
  · split at d
    · rename_i ys ea
      obtain ⟨d1, d2, d⟩ := d
      obtain ⟨a, ws, rfl, e, q⟩ := asL_rep l p2 ea
      exact h1 pins s σ H _ _ v u Q I rx ry ⟨a, ws, rfl, .inl (.inl (.inl e)), flat_of d1 p1, flatL_of d2 q, by rw [inV_of d1 p1 d2 q]; exact hk.same l d⟩
    · exact d.elim
theorem c_in : OpR X (compareOp .In) (R2B X.K (VM.opCm .isin)) := by
  have h := c_in_gen (X := X) (neg := false) (op := .In) op_in_seq op_in_sign
  intro pins s σ H x y v u Q I rx ry q
  exact h pins s σ H x y v u Q I rx ry q
end
end VS
end
section
namespace VS
open PySem PySem.Spec PyProof.Rows L2
open VM (PV SO Store)
variable [Lams] [Wsh]
section
variable {X : Cx} {a b c e : Expr} {ta tb tc te : VM.TE} {t1 t2 : VM.TT} {pos : Pos} {es rest : List Expr} {tas : VM.TA}
theorem bind2B {K : PySem.W.Frag} {G F : Hp} {μ : List Addr} {σ : L2.St} {H : Hp} {ρ : VM.Env} {st : Store} {f : PV → PV → Store → (Bool → Store → Prop) → Prop} {k : Bool → Store → Prop} {Q : VK} (l : Lay K G F μ st H) (r : EnvR K F μ σ ρ) (hk : KonB K G F μ k fun b H' => Q (.bl b) H')
    (h : ta ρ st (fun u st => tb ρ st (fun v st => f u v st k) nox) nox) : tOp (R2B K f) (rE K ta) (rE K tb) σ H Q :=
  bind1 l r h fun x H1 F1 μ1 px st1 e1 l1 r1 p1 q1 => bind1 l1 r1 q1 fun y H2 F2 μ2 py st2 e2 l2 r2 p2 q2 => ⟨G, F2, μ2, st2, px, py, k, l2, p1.mono e2, p2, q2, hk.mono (e1.trans e2)⟩
theorem kon_b {K : PySem.W.Frag} {G F : Hp} {μ : List Addr} {k : VM.KV} {Q : VK} (hk : Kon K G F μ k Q) : KonB K G F μ (fun r st => k (.bl r) st) fun b H' => Q (.bl b) H' := fun b H' F' μ' st' e l q => hk (.bl b) H' F' μ' (.bl b) st' e l (rep_bl.mpr rfl) q
theorem ve_cmp {op : CmpOp} {o : VM.Cm} (ho : OpR X (compareOp op) (R2B X.K (VM.opCm o))) (ha : VE X a ta) (hb : VE X b tb) (hm : behindInMarks op b = false) : VE X (.Compare a [op] [b] pos) (VM.eCmp o ta tb) := pe_imp (pe_cmpR ho ha hb hm) fun σ H Q h => by
  obtain ⟨G, F, μ, ρ, st, k, l, r, d, hk⟩ := h
  exact bind2B l r (kon_b hk) d
theorem vt_cmp {op : CmpOp} {o : VM.Cm} (ho : OpR X (compareOp op) (R2B X.K (VM.opCm o))) (ha : VE X a ta) (hb : VE X b tb) (hm : behindInMarks op b = false) : VT X (.Compare a [op] [b] pos) (VM.tCmp o ta tb) := pt_imp (pt_cmpR ho ha hb hm) fun σ H Q h => by
  obtain ⟨G, F, μ, ρ, st, k, l, r, d, hk⟩ := h
  exact bind2B (Q := fun x H' => ∃ k, x = .bl k ∧ Q k H') l r (fun b H' F' μ' st' e l q => ⟨b, rfl, hk b H' F' μ' st' e l q⟩) d
theorem truth_rep {K : PySem.W.Frag} {G F : Hp} {μ : List Addr} {H : Hp} {st : Store} {x : PV} {v : V} {b : Bool} (l : Lay K G F μ st H) (r : Rep K F μ x v) (h : VM.truth st x = some b) : TruV K v H b := by
  cases x <;> simp only [VM.truth] at h
  case non => cases h; rw [rep_non.mp r]; exact rfl
  case bl => cases h; rw [rep_bl.mp r]; exact rfl
  case int i =>
    cases h
    rw [rep_int.mp r]
    show decide (i ≠ 0) = (i != 0)
    rw [Bool.eq_iff_iff]
    simp
  case str s =>
    cases h
    obtain ⟨o, rfl⟩ := rep_str.mp r
    refine ⟨by rw [sizeLine_eq]; simpa [Str.length] using o.1, ?_⟩
    cases s with
    | nil => rfl
    | cons c s =>
      simp only [Str.length, List.isEmpty_cons, Bool.not_false]
      symm
      rw [bne_iff_ne]
      simp
      omega
  case tup xs =>
    cases h
    obtain ⟨a, vs, rfl, e, q⟩ := rep_tup.mp r
    refine .inr (.inl ⟨vs, l.same.seqT e, ?_⟩)
    have := q.length
    cases xs <;> cases vs <;> first | rfl | simp at this
  case lst xs =>
    cases h
    obtain ⟨a, vs, rfl, e, q⟩ := rep_lst.mp r
    refine .inl ⟨vs, .inl (.inl (l.same _ _ e)), ?_⟩
    have := q.length
    cases xs <;> cases vs <;> first | rfl | simp at this
  case dct ks xs =>
    cases h
    unfold Rep at r
    obtain ⟨a, kvs, rfl, e, rfl, _⟩ := r
    refine .inr (.inr ⟨kvs, l.same _ _ e, ?_⟩)
    cases kvs <;> rfl
  case dctT => unfold Rep at r; exact r.elim
  case ref i =>
    obtain ⟨a, h1, rfl⟩ := rep_ref.mp r
    split at h
    · rename_i xs e
      cases h
      obtain ⟨_, vs, h2, q⟩ := l.obj i a _ h1 e
      refine .inl ⟨vs, .inl (.inl h2), ?_⟩
      have := q.length
      cases xs <;> cases vs <;> first | rfl | simp at this
    · rename_i ks xs e
      cases h
      obtain ⟨_, kvs, h2, rfl, q⟩ := l.obj i a _ h1 e
      refine .inr (.inr ⟨kvs, h2, ?_⟩)
      cases kvs <;> rfl
    · rename_i ks xs e
      exact (l.obj i a _ h1 e).elim
    · cases h
  all_goals cases h
theorem vt_of (ha : VE X a ta) (he : ∀ whole, isTrue a X.env whole = (do let v ← whole; standAt a.pos; holding [v] (truthy v)) := by intro _; rfl) : VT X a (VM.tOf ta) := pt_imp (pt_truth ha he) fun σ H Q h => by
  obtain ⟨G, F, μ, ρ, st, k, l, r, d, hk⟩ := h
  refine bind1 l r d fun x H1 F1 μ1 px st1 e1 l1 r1 p1 q1 => ?_
  split at q1
  · rename_i b eb
    exact ⟨b, truth_rep l1 p1 eb, (hk.mono e1).same l1 q1⟩
  · exact q1.elim
abbrev VW (X : Cx) (e : Expr) (t : VM.TT) : Prop := PW X e (rT X.K t)
theorem vw_and1 (ha : VT X a t1) : VW X (.BoolOp .And [a] pos) t1 := pw_and1 ha
theorem vw_or1 (ha : VT X a t1) : VW X (.BoolOp .Or [a] pos) t1 := pw_or1 ha
theorem vw_and (ha : VT X a t1) (hb : VW X (.BoolOp .And (b :: rest) pos) t2) : VW X (.BoolOp .And (a :: b :: rest) pos) (VM.tAnd t1 t2) := pw_imp (pw_and ha hb) fun σ H Q h => by
  obtain ⟨G, F, μ, ρ, st, k, l, r, d, hk⟩ := h
  refine bindT l r d fun b H1 F1 μ1 st1 e1 l1 r1 q1 => ?_
  cases b with
  | true =>
    rw [if_pos rfl] at q1 ⊢
    exact bindT l1 r1 q1 fun b H2 F2 μ2 st2 e2 l2 r2 q2 => (hk.mono (e1.trans e2)).same l2 q2
  | false =>
    rw [if_neg Bool.false_ne_true] at q1 ⊢
    exact (hk.mono e1).same l1 q1
theorem vw_or (ha : VT X a t1) (hb : VW X (.BoolOp .Or (b :: rest) pos) t2) : VW X (.BoolOp .Or (a :: b :: rest) pos) (VM.tOr t1 t2) := pw_imp (pw_or ha hb) fun σ H Q h => by
  obtain ⟨G, F, μ, ρ, st, k, l, r, d, hk⟩ := h
  refine bindT l r d fun b H1 F1 μ1 st1 e1 l1 r1 q1 => ?_
  cases b with
  | true =>
    rw [if_pos rfl] at q1 ⊢
    exact (hk.mono e1).same l1 q1
  | false =>
    rw [if_neg Bool.false_ne_true] at q1 ⊢
    exact bindT l1 r1 q1 fun b H2 F2 μ2 st2 e2 l2 r2 q2 => (hk.mono (e1.trans e2)).same l2 q2
theorem vt_w (h : VW X e t1) : VT X e t1 := h.pt
theorem vt_not (ha : VT X a t1) : VT X (.UnaryOp .Not a pos) (VM.tNot t1) := pt_imp (pt_not ha) fun σ H Q h => by
  obtain ⟨G, F, μ, ρ, st, k, l, r, d, hk⟩ := h
  exact bindT l r d fun b H1 F1 μ1 st1 e1 l1 r1 q1 => (hk.mono e1).same l1 q1
theorem ve_one {op : PySem.BoolOp} (h : VE X a ta) : VE X (.BoolOp op [a] pos) ta := pe_one h
theorem ve_and (ha : VE X a ta) (hb : VE X (.BoolOp .And (b :: rest) pos) tb) : VE X (.BoolOp .And (a :: b :: rest) pos) (VM.eAnd ta tb) := pe_imp (pe_andT ha hb) fun σ H Q h => by
  obtain ⟨G, F, μ, ρ, st, k, l, r, d, hk⟩ := h
  refine bind1 l r d fun x H1 F1 μ1 px st1 e1 l1 r1 p1 q1 => ?_
  split at q1
  · rename_i eb
    refine ⟨true, truth_rep l1 p1 eb, ?_⟩
    rw [if_pos rfl]
    exact bind1 l1 r1 q1 fun y H2 F2 μ2 py st2 e2 l2 r2 p2 q2 => (hk.mono (e1.trans e2)).same l2 p2 q2
  · rename_i eb
    refine ⟨false, truth_rep l1 p1 eb, ?_⟩
    rw [if_neg Bool.false_ne_true]
    exact (hk.mono e1).same l1 p1 q1
  · exact q1.elim
theorem ve_if (hc : VT X c t1) (ha : VE X a ta) (hb : VE X b tb) : VE X (.IfExp c a b pos) (VM.eIf t1 ta tb) := pe_imp (pe_ifExp hc ha hb) fun σ H Q h => by
  obtain ⟨G, F, μ, ρ, st, k, l, r, d, hk⟩ := h
  refine bindT l r d fun b H1 F1 μ1 st1 e1 l1 r1 q1 => ?_
  cases b with
  | true =>
    rw [if_pos rfl] at q1 ⊢
    exact bind1 l1 r1 q1 fun y H2 F2 μ2 py st2 e2 l2 r2 p2 q2 => (hk.mono (e1.trans e2)).same l2 p2 q2
  | false =>
    rw [if_neg Bool.false_ne_true] at q1 ⊢
    exact bind1 l1 r1 q1 fun y H2 F2 μ2 py st2 e2 l2 r2 p2 q2 => (hk.mono (e1.trans e2)).same l2 p2 q2

theorem va_nil : VA X [] VM.aNil := pa_imp pa_nil fun σ H Q h => by
  obtain ⟨G, F, μ, ρ, st, k, l, r, d, hk⟩ := h
  exact hk [] H F μ [] st Ext.refl l (repL_nil.mpr rfl) d
theorem va_cons (ha : VE X a ta) (hr : VA X es tas) (hs : starEach (a :: es) X.env = (false, eval a X.env) :: starEach es X.env := by rfl) : VA X (a :: es) (VM.aCons ta tas) := pa_imp (pa_cons ha hr hs) fun σ H Q h => by
  obtain ⟨G, F, μ, ρ, st, k, l, r, d, hk⟩ := h
  exact bind1 l r d fun x H1 F1 μ1 px st1 e1 l1 r1 p1 q1 => bindA l1 r1 q1 fun xs H2 F2 μ2 pxs st2 e2 l2 r2 p2 q2 =>
    hk (x :: xs) H2 F2 μ2 (px :: pxs) st2 (e1.trans e2) l2 (repL_cons.mpr ⟨x, xs, rfl, p1.mono e2, p2⟩) q2
theorem ve_lst (h : VA X es tas) : VE X (.List es pos) (VM.eLst tas) := pe_imp (pe_lst h) fun σ H Q h => by
  obtain ⟨G, F, μ, ρ, st, k, l, r, d, hk⟩ := h
  exact bindA l r d fun xs H1 F1 μ1 pxs st1 e1 l1 r1 p1 q1 => ⟨by rw [sizeLine_eq, p1.length]; exact q1.1, (hk.mono e1).lst l1 p1 q1.2⟩
theorem ve_lstM (h : VA X es tas) : VE X (.List es pos) (VM.eLstM tas) := pe_imp (pe_lst h) fun σ H Q h => by
  obtain ⟨G, F, μ, ρ, st, k, l, r, d, hk⟩ := h
  exact bindA l r d fun xs H1 F1 μ1 pxs st1 e1 l1 r1 p1 q1 => ⟨by rw [sizeLine_eq, p1.length]; exact q1.1, (hk.mono e1).lstM l1 p1 q1.2⟩
theorem ve_tup {kt : Nat} (h : VA X es tas) : VE X (.Tuple es kt pos) (VM.eTup tas) := pe_imp (pe_tupX h) fun σ H Q h => by
  obtain ⟨G, F, μ, ρ, st, k, l, r, d, hk⟩ := h
  exact bindA l r d fun xs H1 F1 μ1 pxs st1 e1 l1 r1 p1 q1 => ⟨by rw [sizeLine_eq, p1.length]; exact q1.1, (hk.mono e1).tup l1 p1 q1.2⟩

theorem ix_ixN (n : Nat) (i : Int) : VM.ix n i = ixN n i := rfl
theorem atI_of {K : PySem.W.Frag} {F : Hp} {μ : List Addr} {xs : List PV} {vs : List V} {i : Int} {n : Nat} {y : PV} (r : RepL K F μ xs vs) (h : VM.ix xs.length i = some n) (hy : xs[n]? = some y) : ∃ v, atI vs i = some v ∧ Rep K F μ y v := by
  obtain ⟨v, h1, h2⟩ := r.get hy
  refine ⟨v, ?_, h2⟩
  unfold atI
  rw [r.length, ← ix_ixN, h]
  exact h1
theorem ix_dyn : IxR X (R2of X.K VM.getIx) := by
  intro value slice pins s σ H x y v u Q I rx ry h hs
  obtain ⟨G, F, μ, st, px, py, k, l, p1, p2, d, hk⟩ := h
  unfold VM.getIx at d
  split at d
  · rename_i i
    obtain rfl := rep_int.mp p2
    split at d
    · rename_i xs
      obtain ⟨a, vs, rfl, e, q⟩ := rep_tup.mp p1
      split at d
      · rename_i n en
        split at d
        · rename_i z ez
          obtain ⟨w, h1, h2⟩ := atI_of q en ez
          exact ix_tup value slice pins s σ H _ _ v u Q I rx ry ⟨a, vs, i, w, rfl, rfl, l.same.seqT e, h1, hk.same l h2 d⟩ hs
        · exact d.elim
      · exact d.elim
    · rename_i z
      obtain ⟨o, rfl⟩ := rep_str.mp p1
      split at d
      · rename_i n en
        split at d
        · rename_i c ez
          refine ix_str value slice pins s σ H _ _ v u Q I rx ry ⟨_, i, c, rfl, rfl, by rw [sizeLine_eq]; simpa [Str.length] using o.1, ?_, ?_⟩ hs
          · unfold atI
            rw [← ix_ixN, en]
            exact ez
          · exact hk.same l (rep_str.mpr ⟨⟨by simp, fun c' hc => by
              have e' : c' = c := by simpa using hc
              rw [e']
              exact o.2 c (List.mem_of_getElem? ez)⟩, rfl⟩) d
        · exact d.elim
      · exact d.elim
    · split at d
      · rename_i xs ea
        obtain ⟨a, vs, rfl, e, q⟩ := asL_rep l p1 ea
        split at d
        · rename_i n en
          split at d
          · rename_i z ez
            obtain ⟨w, h1, h2⟩ := atI_of q en ez
            exact ix_list value slice pins s σ H _ _ v u Q I rx ry ⟨a, vs, i, w, rfl, rfl, .inl (.inl e), h1, hk.same l h2 d⟩ hs
          · exact d.elim
        · exact d.elim
      · exact d.elim
  · exact d.elim
theorem ve_ix (ha : VE X a ta) (hb : VE X b tb) (hs : PlainIx b := by exact fun _ _ => rfl) : VE X (.Subscript a b pos) (VM.eIx ta tb) := pe_imp (pe_ix ix_dyn ha hb hs) fun σ H Q h => by
  obtain ⟨G, F, μ, ρ, st, k, l, r, d, hk⟩ := h
  exact bind2 l r hk d
theorem repL_ints {K : PySem.W.Frag} {F : Hp} {μ : List Addr} : ∀ is : List Int, RepL K F μ (is.map PV.int) (is.map V.int)
  | [] => repL_nil.mpr rfl
  | i :: is => repL_cons.mpr ⟨_, _, rfl, rep_int.mpr rfl, repL_ints is⟩
theorem cutIx_eq (n d : Nat) (o : Option Int) : VM.cutIx n d o = HT.sIx n d o := by cases o <;> rfl
theorem RepL.slc {K : PySem.W.Frag} {F : Hp} {μ : List Addr} {xs : List PV} {vs : List V} (r : RepL K F μ xs vs) (lo hi : Option Int) : RepL K F μ (VM.slc xs lo hi) (cutV vs lo hi) := by
  unfold VM.slc cutV
  rw [cutIx_eq, cutIx_eq, r.length]
  exact (r.drop _).take _
def SlOf (K : PySem.W.Frag) : V → Option Int → Option Int → Hp → VK → Prop := fun x lo hi H Q => ∃ G F μ st px k, Lay K G F μ st H ∧ Rep K F μ px x ∧ VM.getSl px lo hi st k ∧ Kon K G F μ k Q
theorem sl_dyn : SlR X (SlOf X.K) := by
  intro pins s σ H x v vl vu lo hi sl Q I rx hs pl pu h
  obtain ⟨G, F, μ, st, px, k, l, p1, d, hk⟩ := h
  unfold VM.getSl at d
  split at d
  · rename_i xs
    obtain ⟨a, vs, rfl, e, q⟩ := rep_tup.mp p1
    refine sl_tupX pins s σ H _ v vl vu lo hi sl Q I rx hs pl pu ⟨a, vs, rfl, l.same.seqT e, fun z => ?_, fun _ => hk.tup l (q.slc lo hi) d⟩
    have e2 : VM.slc xs lo hi = xs := by
      unfold VM.slc
      rw [cutIx_eq, cutIx_eq, ← q.length, z.1, z.2, List.drop_zero, q.length]
      simp
    rw [e2] at d
    exact hk.same l p1 d
  · rename_i z
    obtain ⟨o, rfl⟩ := rep_str.mp p1
    refine sl_str pins s σ H _ v vl vu lo hi sl Q I rx hs pl pu ⟨_, rfl, by rw [sizeLine_eq]; simpa [Str.length] using o.1, ?_⟩
    have e : cutS ⟨z.toArray⟩ lo hi = ⟨(VM.slc z lo hi).toArray⟩ := by
      unfold cutS VM.slc
      rw [cutIx_eq, cutIx_eq]
      simp [Str.length]
    rw [e]
    refine hk.same l (rep_str.mpr ⟨⟨?_, fun c hc => o.2 c (List.mem_of_mem_drop (List.mem_of_mem_take hc))⟩, rfl⟩) d
    have := o.1
    rw [List.length_take, List.length_drop]
    omega
  · rename_i is
    obtain ⟨a, rfl, e⟩ := rep_scr.mp p1
    refine sl_list pins s σ H _ v vl vu lo hi sl Q I rx hs pl pu ⟨a, _, rfl, l.same.seqL e, hk.lst l (RepL.slc (repL_ints is) lo hi) d⟩
  · split at d
    · rename_i xs ea
      obtain ⟨a, vs, rfl, e, q⟩ := asL_rep l p1 ea
      exact sl_list pins s σ H _ v vl vu lo hi sl Q I rx hs pl pu ⟨a, vs, rfl, .inl (.inl e), hk.lst l (q.slc lo hi) d⟩
    · exact d.elim
end
end VS
end
section
namespace VS
open PySem PySem.Spec PyProof.Rows L2
open VM (PV SO Store)
variable [Lams] [Wsh]
section
variable {X : Cx} {a b c e : Expr} {ta tb tc te : VM.TE} {t1 t2 : VM.TT} {pos p2 p : Pos} {es rest : List Expr} {tas : VM.TA} {x : Str}
def KonO (K : PySem.W.Frag) (G F : Hp) (μ : List Addr) (k : Option Int → Store → Prop) (Q : Option Int → Hp → Prop) : Prop := ∀ (o : Option Int) (H' F' : Hp) (μ' : List Addr) (st' : Store), Ext F μ F' μ' → Lay K G F' μ' st' H' → k o st' → Q o H'
abbrev VTO := VM.Env → Store → (Option Int → Store → Prop) → VM.KV → Prop
def partOf : Option VM.TE → VTO
  | none => fun ρ st k x => k none st
  | some e => fun ρ st k x => e ρ st (fun v st => match v with | .int i => k (some i) st | _ => False) x
def rO (K : PySem.W.Frag) (t : VTO) : TO := fun σ H Q => ∃ G F μ ρ st k, Lay K G F μ st H ∧ EnvR K F μ σ ρ ∧ t ρ st k nox ∧ KonO K G F μ k Q
theorem vo_none : PO X none (rO X.K (partOf none)) := ⟨fun pins s σ H Q I h => po_none.run pins s σ H Q I (by
  obtain ⟨G, F, μ, ρ, st, k, l, r, d, hk⟩ := h
  exact hk none H F μ st Ext.refl l d)⟩
theorem vo_some (h : VE X e te) : PO X (some e) (rO X.K (partOf (some te))) := ⟨fun pins s σ H Q I q => (po_some h).run pins s σ H Q I (by
  obtain ⟨G, F, μ, ρ, st, k, l, r, d, hk⟩ := q
  refine bind1 l r d fun x H1 F1 μ1 px st1 e1 l1 r1 p1 q1 => ?_
  split at q1
  · obtain rfl := rep_int.mp p1
    exact ⟨_, rfl, hk _ H1 F1 μ1 st1 e1 l1 q1⟩
  · exact q1.elim)⟩
theorem ve_sl {lo hi : Option Expr} {tl th : Option VM.TE} (he : VE X e te) (hl : PO X lo (rO X.K (partOf tl))) (hh : PO X hi (rO X.K (partOf th))) : VE X (.Subscript e (.Slice lo hi none p2) pos) (VM.eSl te tl th) := pe_imp (pe_slice sl_dyn he hl hh) fun σ H Q h => by
  obtain ⟨G, F, μ, ρ, st, k, l, r, d, hk⟩ := h
  refine bind1 l r d fun x H1 F1 μ1 px st1 e1 l1 r1 p1 q1 => ?_
  refine ⟨G, F1, μ1, ρ, st1, fun lo st2 => partOf th ρ st2 (fun hi st3 => VM.getSl px lo hi st3 k) nox, l1, r1, ?_, ?_⟩
  · cases tl <;> cases th <;> exact q1
  · intro lo' H2 F2 μ2 st2 e2 l2 q2
    refine ⟨G, F2, μ2, ρ, st2, _, l2, r1.mono e2, q2, ?_⟩
    intro hi' H3 F3 μ3 st3 e3 l3 q3
    exact ⟨G, F3, μ3, st3, px, k, l3, p1.mono (e2.trans e3), q3, hk.mono (e1.trans (e2.trans e3))⟩

theorem ve_b1 {id : String} {r : List V → Hp → VK → Prop} {f : PV → Store → VM.KV → Prop} (hc : CallR X (.builtin id) r)
    (hf : ∀ G F μ st H px v k Q, Lay X.K G F μ st H → Rep X.K F μ px v → f px st k → Kon X.K G F μ k Q → r [v] H Q)
    (ha : VE X a ta) (hg : Gl X x) (hm : X.mg x = none) (hv : bootBuiltins x = some (.builtin id)) (hn : x ≠ "__name__" := by decide) (hdb : (x == ("__debug__" : Str)) = false := by decide)
    (he : starEach [a] X.env = (false, eval a X.env) :: starEach [] X.env := by rfl) : VE X (.Call (.Name x p) [a] [] pos) (VM.eB1 f ta) :=
  pe_imp (pe_callB hc hg hm hv (pa_cons ha pa_nil he) hn hdb he rfl) fun σ H Q h => by
    obtain ⟨G, F, μ, ρ, st, k, l, r, d, hk⟩ := h
    exact bind1 l r d fun x H1 F1 μ1 px st1 e1 l1 r1 p1 q1 => hf G F1 μ1 st1 H1 px x k Q l1 p1 q1 (hk.mono e1)
theorem ve_t1 {T : String} {r : List V → Hp → VK → Prop} {f : PV → Store → VM.KV → Prop} (hc : CallR X (.type T) r)
    (hf : ∀ G F μ st H px v k Q, Lay X.K G F μ st H → Rep X.K F μ px v → f px st k → Kon X.K G F μ k Q → r [v] H Q)
    (ha : VE X a ta) (hg : Gl X x) (hm : X.mg x = none) (hv : bootBuiltins x = some (.type T)) (hn : x ≠ "__name__" := by decide) (hdb : (x == ("__debug__" : Str)) = false := by decide)
    (he : starEach [a] X.env = (false, eval a X.env) :: starEach [] X.env := by rfl) : VE X (.Call (.Name x p) [a] [] pos) (VM.eB1 f ta) :=
  pe_imp (pe_callTy hc hg hm hv (pa_cons ha pa_nil he) hn hdb he rfl) fun σ H Q h => by
    obtain ⟨G, F, μ, ρ, st, k, l, r, d, hk⟩ := h
    exact bind1 l r d fun x H1 F1 μ1 px st1 e1 l1 r1 p1 q1 => hf G F1 μ1 st1 H1 px x k Q l1 p1 q1 (hk.mono e1)
theorem seqOf_rep {K : PySem.W.Frag} {G F : Hp} {μ : List Addr} {H : Hp} {st : Store} {px : PV} {v : V} {xs : List PV} (l : Lay K G F μ st H) (r : Rep K F μ px v) (h : VM.seqOf st px = some xs) : ∃ a vs, v = .ref a ∧ RepL K F μ xs vs ∧ ((∃ ys, px = .tup ys ∧ SqT K F a vs) ∨ ((¬ ∃ ys, px = .tup ys) ∧ H a = some (.lst vs))) := by
  by_cases hx : ∃ ys, px = .tup ys
  · obtain ⟨ys, rfl⟩ := hx
    cases h
    obtain ⟨a, vs, rfl, e, q⟩ := rep_tup.mp r
    exact ⟨a, vs, rfl, q, .inl ⟨_, rfl, e⟩⟩
  · have h' : VM.asL st px = some xs := by
      unfold VM.seqOf at h
      split at h
      · exact absurd ⟨_, rfl⟩ hx
      · exact h
    obtain ⟨a, vs, rfl, e, q⟩ := asL_rep l r h'
    exact ⟨a, vs, rfl, q, .inr ⟨hx, e⟩⟩
theorem f_len {G F : Hp} {μ : List Addr} {st : Store} {H : Hp} {px : PV} {v : V} {k : VM.KV} {Q : VK} (l : Lay X.K G F μ st H) (r : Rep X.K F μ px v) (d : VM.fLen px st k) (hk : Kon X.K G F μ k Q) :
    (fun xs H Q => (∃ x n, xs = [x] ∧ LenV X.K x H n ∧ Q (.int n) H) ∨ (∃ a kvs, xs = [V.ref a] ∧ H a = some (.dK kvs) ∧ Q (.int kvs.length) H)) [v] H Q := by
  unfold VM.fLen at d
  split at d
  · rename_i n en
    have fin : ∀ {m : Nat}, m = n → Q (.int m) H := fun e => hk.same l (rep_int.mpr (by rw [e])) d
    cases px <;> simp only [VM.bLen, VM.asL] at en <;> try (cases en; done)
    case str s =>
      cases en
      obtain ⟨o, rfl⟩ := rep_str.mp r
      exact .inl ⟨_, _, rfl, ⟨by rw [sizeLine_eq]; simpa [Str.length] using o.1, rfl⟩, fin (by simp [Str.length])⟩
    case tup xs =>
      cases en
      obtain ⟨a, vs, rfl, e, q⟩ := rep_tup.mp r
      exact .inl ⟨_, _, rfl, .inr ⟨vs, l.same.seqT e, rfl⟩, fin q.length⟩
    case lst xs =>
      cases en
      obtain ⟨a, vs, rfl, e, q⟩ := rep_lst.mp r
      exact .inl ⟨_, _, rfl, .inl ⟨vs, .inl (.inl (l.same _ _ e)), rfl⟩, fin q.length⟩
    case dct ks xs =>
      cases en
      unfold Rep at r
      obtain ⟨a, kvs, rfl, e, rfl, _⟩ := r
      exact .inr ⟨a, kvs, rfl, l.same _ _ e, fin (by simp)⟩
    case dctT => unfold Rep at r; exact r.elim
    case ref i =>
      obtain ⟨a, h1, rfl⟩ := rep_ref.mp r
      cases eo : st[i]? with
      | none => simp [eo] at en
      | some o =>
        rw [eo] at en
        have ho := l.obj i a o h1 eo
        cases o with
        | lst xs =>
          cases en
          obtain ⟨_, vs, h2, q⟩ := ho
          exact .inl ⟨_, _, rfl, .inl ⟨vs, .inl (.inl h2), rfl⟩, fin q.length⟩
        | dct ks xs =>
          cases en
          obtain ⟨_, kvs, h2, rfl, q⟩ := ho
          exact .inr ⟨a, kvs, rfl, h2, fin (by simp)⟩
        | dctT => exact ho.elim
        | ins => simp at en
        | dead => simp at en
        | live => simp at en
  · exact d.elim
theorem ve_len (ha : VE X a ta) (hg : Gl X "len") (hm : X.mg "len" = none) (he : starEach [a] X.env = (false, eval a X.env) :: starEach [] X.env := by rfl) : VE X (.Call (.Name "len" p) [a] [] pos) (VM.eB1 VM.fLen ta) :=
  ve_b1 (call_len.or call_lenD) (fun G F μ st H px v k Q l r d hk => f_len l r d hk) ha hg hm PySem.boot_len (he := he)
theorem ve_int_ (ha : VE X a ta) (hg : Gl X "int") (hm : X.mg "int" = none) (he : starEach [a] X.env = (false, eval a X.env) :: starEach [] X.env := by rfl) : VE X (.Call (.Name "int" p) [a] [] pos) (VM.eB1 VM.fInt ta) :=
  ve_t1 call_int1 (fun G F μ st H px v k Q l r d hk => by
    unfold VM.fInt at d
    split at d
    · rename_i i
      obtain rfl := rep_int.mp r
      exact .inl ⟨i, rfl, hk.same l (rep_int.mpr rfl) d⟩
    · rename_i i
      obtain rfl := rep_bl.mp r
      exact .inr ⟨i, rfl, hk.same l (rep_int.mpr rfl) d⟩
    · exact d.elim) ha hg hm boot_int (he := he)
theorem ve_tuple (ha : VE X a ta) (hg : Gl X "tuple") (hm : X.mg "tuple" = none) (he : starEach [a] X.env = (false, eval a X.env) :: starEach [] X.env := by rfl) : VE X (.Call (.Name "tuple" p) [a] [] pos) (VM.eB1 VM.fTuple ta) :=
  ve_t1 call_tupleX (fun G F μ st H px v k Q l r d hk => by
    unfold VM.fTuple at d
    split at d
    · rename_i xs ex
      obtain ⟨a, vs, rfl, q, h⟩ := seqOf_rep l r ex
      rcases h with ⟨ys, rfl, h⟩ | ⟨_, h⟩
      · cases ex
        exact ⟨a, vs, rfl, .inr ⟨l.same.seqT h, hk.same l r d⟩⟩
      · exact ⟨a, vs, rfl, .inl ⟨.inl (.inl h), hk.tup l q d⟩⟩
    · exact d.elim) ha hg hm boot_tuple (he := he)
theorem allInt_rep {K : PySem.W.Frag} {F : Hp} {μ : List Addr} : ∀ {xs : List PV} {is : List Int} {vs : List V}, VM.allInt xs = some is → RepL K F μ xs vs → vs = is.map V.int
  | [], is, vs, h, r => by
    cases h
    rw [repL_nil.mp r]
    rfl
  | x :: xs, is, vs, h, r => by
    obtain ⟨v, w, rfl, r1, r2⟩ := repL_cons.mp r
    cases x <;> simp only [VM.allInt] at h <;> try (cases h; done)
    rename_i i
    rw [Option.map_eq_some_iff] at h
    obtain ⟨js, h1, rfl⟩ := h
    rw [rep_int.mp r1, allInt_rep h1 r2]
    rfl
theorem allBl_rep {K : PySem.W.Frag} {F : Hp} {μ : List Addr} : ∀ {xs : List PV} {is : List Bool} {vs : List V}, VM.allBl xs = some is → RepL K F μ xs vs → vs = is.map V.bl
  | [], is, vs, h, r => by
    cases h
    rw [repL_nil.mp r]
    rfl
  | x :: xs, is, vs, h, r => by
    obtain ⟨v, w, rfl, r1, r2⟩ := repL_cons.mp r
    cases x <;> simp only [VM.allBl] at h <;> try (cases h; done)
    rename_i i
    rw [Option.map_eq_some_iff] at h
    obtain ⟨js, h1, rfl⟩ := h
    rw [rep_bl.mp r1, allBl_rep h1 r2]
    rfl
theorem boot_sum' : bootBuiltins "sum" = some (.builtin "sum") := by decide +kernel
theorem boot_all' : bootBuiltins "all" = some (.builtin "all") := by decide +kernel
theorem ve_sum (hc : X.calm = true) (ha : VE X a ta) (hg : Gl X "sum") (hm : X.mg "sum" = none) (he : starEach [a] X.env = (false, eval a X.env) :: starEach [] X.env := by rfl) : VE X (.Call (.Name "sum" p) [a] [] pos) (VM.eB1 VM.fSum ta) :=
  ve_b1 (cr_sum hc) (fun G F μ st H px v k Q l r d hk => by
    unfold VM.fSum at d
    split at d
    · rename_i xs ex
      split at d
      · rename_i is ei
        obtain ⟨a, vs, rfl, e, q⟩ := asL_rep l r ex
        rw [allInt_rep ei q] at e
        exact ⟨a, is, rfl, .inl (.inl e), hk.same l (rep_int.mpr rfl) d⟩
      · exact d.elim
    · exact d.elim) ha hg hm boot_sum' (he := he)
theorem ve_all (hc : X.calm = true) (ha : VE X a ta) (hg : Gl X "all") (hm : X.mg "all" = none) (he : starEach [a] X.env = (false, eval a X.env) :: starEach [] X.env := by rfl) : VE X (.Call (.Name "all" p) [a] [] pos) (VM.eB1 VM.fAll ta) :=
  ve_b1 (cr_all hc) (fun G F μ st H px v k Q l r d hk => by
    unfold VM.fAll at d
    split at d
    · rename_i xs ex
      split at d
      · rename_i is ei
        obtain ⟨a, vs, rfl, e, q⟩ := asL_rep l r ex
        rw [allBl_rep ei q] at e
        exact ⟨a, is, rfl, .inl (.inl e), hk.same l (rep_bl.mpr rfl) d⟩
      · exact d.elim
    · exact d.elim) ha hg hm boot_all' (he := he)
def kdS : VM.Kd → String
  | .non => "NoneType" | .bool => "bool" | .int => "int" | .str => "str" | .list => "list" | .tuple => "tuple" | .dict => "dict" | .other => ""
def tyS : VM.Ty → String
  | .int => "int" | .bool => "bool" | .str => "str" | .list => "list" | .tuple => "tuple" | .dict => "dict"
theorem kit_all : ([.non, .bool, .int, .str, .list, .tuple, .dict] : List VM.Kd).all (fun k => ([.int, .bool, .str, .list, .tuple, .dict] : List VM.Ty).all fun t => decide (kitB (kdS k) (tyS t) = some (VM.kdIs k t))) = true := by decide +kernel
theorem kit_is {K : PySem.W.Frag} (k : VM.Kd) (t : VM.Ty) (h : k ≠ .other) : PySem.W.kitOne K (.type (kdS k)) (.type (tyS t)) = some (VM.kdIs k t) := by
  refine kit_ty ?_
  have q := kit_all
  rw [List.all_eq_true] at q
  have q1 := q k (by cases k <;> first | exact absurd rfl h | simp)
  rw [List.all_eq_true] at q1
  exact of_decide_eq_true (q1 t (by cases t <;> simp))
theorem kd_rep {K : PySem.W.Frag} {G F : Hp} {μ : List Addr} {H : Hp} {st : Store} {px : PV} {v : V} (l : Lay K G F μ st H) (r : Rep K F μ px v) (h : VM.kdOf st px ≠ .other) : TyX K H v (.type (kdS (VM.kdOf st px))) := by
  cases px <;> simp only [VM.kdOf] at h ⊢ <;> try (exact absurd rfl h)
  case non => rw [rep_non.mp r]; exact .base .non
  case bl => rw [rep_bl.mp r]; exact .base (.bl _)
  case int => rw [rep_int.mp r]; exact .base (.int _)
  case str => rw [(rep_str.mp r).2]; exact .base (.str _)
  case tup =>
    obtain ⟨a, vs, rfl, e, q⟩ := rep_tup.mp r
    rcases l.same.seqT e with (e | ⟨o, e⟩) | ⟨o, its, n, e, c, _⟩
    · exact .base (.tup e)
    · exact .fTuple e
    · exact .kTuple e c
  case lst =>
    obtain ⟨a, vs, rfl, e, q⟩ := rep_lst.mp r
    exact .base (.lst (l.same _ _ e))
  case dct =>
    unfold Rep at r
    obtain ⟨a, kvs, rfl, e, rfl, _⟩ := r
    exact .base (.dK (l.same _ _ e))
  case dctT => unfold Rep at r; exact r.elim
  case ref i =>
    obtain ⟨a, h1, rfl⟩ := rep_ref.mp r
    cases eo : st[i]? with
    | none => rw [eo] at h; exact absurd rfl h
    | some o =>
      rw [eo] at h
      have ho := l.obj i a o h1 eo
      cases o with
      | lst xs =>
        obtain ⟨_, vs, h2, q⟩ := ho
        exact .base (.lst h2)
      | dct ks xs =>
        obtain ⟨_, kvs, h2, rfl, q⟩ := ho
        exact .base (.dK h2)
      | dctT => exact ho.elim
      | ins => exact absurd rfl h
      | dead => exact absurd rfl h
      | live => exact absurd rfl h
theorem ve_ty {T : String} (hg : Gl X x) (hm : X.mg x = none) (hv : bootBuiltins x = some (.type T)) (hn : x ≠ "__name__" := by decide) (hd : (x == ("__debug__" : Str)) = false := by decide) : PE X (.Name x pos) (tC (.ty T)) := pe_bltn hg hm hv rfl hn hd
theorem ve_isi {T : VM.Ty} {cx : Expr} (ha : VE X a ta) (hc : PE X cx (tC (.ty (tyS T)))) (hg : Gl X "isinstance") (hm : X.mg "isinstance" = none)
    (he : starEach [a, cx] X.env = (false, eval a X.env) :: starEach [cx] X.env := by rfl) (he2 : starEach [cx] X.env = (false, eval cx X.env) :: starEach [] X.env := by rfl) (hpl : (backTo pos (starEach [cx] X.env)).any (·.1) = false := by rfl) :
    VE X (.Call (.Name "isinstance" p) [a, cx] [] pos) (VM.eB1 (VM.fIsi [T]) ta) :=
  pe_imp (pe_callB call_isi hg hm boot_isinstance (pa_cons ha (pa_cons hc pa_nil he2) he) (he := he) (hpl := hpl)) fun σ H Q h => by
    obtain ⟨G, F, μ, ρ, st, k, l, r, d, hk⟩ := h
    refine bind1 l r d fun v H1 F1 μ1 px st1 e1 l1 r1 p1 q1 => ?_
    obtain ⟨h1, q1⟩ := q1
    refine ⟨v, _, _, _, _, rfl, .ty _, kd_rep l1 p1 h1, kit_is _ _ h1, ?_⟩
    refine (hk.mono e1).same l1 (rep_bl.mpr rfl) ?_
    simpa using q1
inductive TyEs (X : Cx) : List Expr → List VM.Ty → Prop where
  | nil : TyEs X [] []
  | cons {c : Expr} {cs : List Expr} {T : VM.Ty} {Ts : List VM.Ty} (h : PE X c (tC (.ty (tyS T)))) (t : TyEs X cs Ts) (hs : starEach (c :: cs) X.env = (false, eval c X.env) :: starEach cs X.env) : TyEs X (c :: cs) (T :: Ts)
theorem TyEs.pa {cs : List Expr} {Ts : List VM.Ty} (h : TyEs X cs Ts) : PA X cs (fun _ H Q => Q (Ts.map fun T => V.ty (tyS T)) H) := by
  induction h with
  | nil => exact pa_imp pa_nil fun _ _ _ q => q
  | cons h t hs ih => exact pa_imp (pa_cons h ih hs) fun _ _ _ q => q
theorem kit_any {K : PySem.W.Frag} (k : VM.Kd) (h : k ≠ .other) : ∀ Ts : List VM.Ty, PySem.W.kitAny K (.type (kdS k)) (Ts.map fun T => Value.type (tyS T)) = some (Ts.any (VM.kdIs k))
  | [] => rfl
  | T :: Ts => kitAny_cons (kit_is k T h) (fun e => by rw [List.any_cons, e, Bool.false_or]; exact kit_any k h Ts) (fun e => by rw [List.any_cons, e, Bool.true_or])
theorem clsV_all : ∀ Ts : List VM.Ty, Paired ClsV (Ts.map fun T => V.ty (tyS T)) (Ts.map fun T => Value.type (tyS T))
  | [] => .nil
  | T :: Ts => .cons (.ty _) (clsV_all Ts)
theorem ve_isiT {Ts : List VM.Ty} {cs : List Expr} {kt : Nat} {pt : Pos} (ha : VE X a ta) (hc : TyEs X cs Ts) (hl : Ts.length ≤ 100) (hg : Gl X "isinstance") (hm : X.mg "isinstance" = none)
    (he : starEach [a, .Tuple cs kt pt] X.env = (false, eval a X.env) :: starEach [.Tuple cs kt pt] X.env := by rfl) :
    VE X (.Call (.Name "isinstance" p) [a, .Tuple cs kt pt] [] pos) (VM.eB1 (VM.fIsi Ts) ta) :=
  pe_imp (pe_callB call_isiT hg hm boot_isinstance (pa_cons ha (pa_cons (pe_tup hc.pa) pa_nil) he) (he := he) (hpl := rfl)) fun σ H Q h => by
    obtain ⟨G, F, μ, ρ, st, k, l, r, d, hk⟩ := h
    refine bind1 l r d fun v H1 F1 μ1 px st1 e1 l1 r1 p1 q1 => ?_
    obtain ⟨h1, q1⟩ := q1
    refine ⟨by rw [sizeLine_eq, List.length_map]; omega, fun q hq => ?_⟩
    have l2 := l1.new (p := q) (o := .tup (Ts.map fun T => V.ty (tyS T))) hq
    have e2 := ext_upd (o := .tup (Ts.map fun T => V.ty (tyS T))) l1 hq
    refine ⟨v, q, _, _, _, _, rfl, upd_same, clsV_all Ts, kd_rep l2 (p1.mono e2) h1, kit_any _ h1 Ts, ?_⟩
    exact (hk.mono (e1.trans e2)).same l2 (rep_bl.mpr rfl) q1
end
end VS
end
section
namespace VS
open PySem PySem.Spec PyProof.Rows L2
variable [Lams] [Wsh]
def SqB (b : Bool) (K : PySem.W.Frag) (H : Hp) (a : Addr) (xs : List V) : Prop := match b with
  | true => SqL K H a xs
  | false => SqT K H a xs
def ItB (b : Bool) (h : Heap) (it a : Addr) (i : Nat) : Prop := match b with
  | true => h.IsListIter it a i
  | false => h.IsTupleIter it a i
def StB (b : Bool) (its : Array Value) (it a : Addr) (i : Nat) (h : Heap) : Prop := match b with
  | true => h.IsListIter it a i ∧ h.IsList a its
  | false => h.IsTupleIter it a i ∧ h.IsTuple a its
theorem ItB.at {b : Bool} {h h' : Heap} {it a : Addr} {i : Nat} (x : ItB b h it a i) (k : ∀ o, h.get? it = some o → h'.get? it = some o) : ItB b h' it a i := by
  cases b with
  | true => exact Heap.IsListIter.at x k
  | false => exact Heap.IsTupleIter.at x k
theorem ItB.ob {b : Bool} {h : Heap} {it a : Addr} {i : Nat} (x : ItB b h it a i) : ∃ o, h.get? it = some o ∧ ∀ v, o.data ≠ .cell v := by
  cases b with
  | true =>
    obtain ⟨o, e, _, d⟩ := x
    exact ⟨o, e, fun v q => by rw [d] at q; cases q⟩
  | false =>
    obtain ⟨o, e, _, d⟩ := x
    exact ⟨o, e, fun v q => by rw [d] at q; cases q⟩
theorem drawsB (b : Bool) {prog : Program} {w : World} {A : Around} (hh : A.handled = none) (it a : Addr) (hne : a ≠ it) (its : Array Value) : Draws prog w A it [it, a] its.size (fun i v => its[i]? = some v) (StB b its it a) := by
  cases b with
  | true => exact Draws.list hh it a hne its
  | false => exact Draws.tuple hh it a hne its
def obB (b : Bool) (a : Addr) : Obj := match b with
  | true => { cls := .type "list_iterator", data := .fields #[.ref a, .int 0 0] }
  | false => { cls := .type "tuple_iterator", data := .fields #[.ref a, .int 0 0] }
def hpB (b : Bool) (a : Addr) (its : Array Value) (h : Heap) : Prop := match b with
  | true => h.IsList a its
  | false => h.IsTuple a its
theorem seqB {X : Cx} {pins : List (Addr × Obj)} {σ : L2.St} {H : Hp} {s : Shared} {b : Bool} {a : Addr} {xs : List V} (I : Inv X pins σ H s) (h : SqB b X.K H a xs) :
    ∃ its : List Value, Vals xs its ∧ (∀ it i, ItB b s.heap it a i → StB b its.toArray it a i s.heap) ∧ a < s.heap.objs.size ∧ hpB b a its.toArray s.heap := by
  cases b with
  | true =>
    obtain ⟨its, r, p, _⟩ := I.list h
    exact ⟨its, r, fun it i q => ⟨q, p.isList⟩, p.lt, p.isList⟩
  | false =>
    obtain ⟨its, r, p, _⟩ := I.tuple h
    exact ⟨its, r, fun it i q => ⟨q, p⟩, p.lt, p⟩
theorem seqB_inj {X : Cx} {pins : List (Addr × Obj)} {σ : L2.St} {H : Hp} {s : Shared} {b : Bool} {a : Addr} {xs ys : List V} (I : Inv X pins σ H s) (h : SqB b X.K H a xs) (h' : SqB b X.K H a ys) : xs = ys := by
  cases b with
  | true => exact I.list_inj h h'
  | false => exact I.tuple_inj h h'
theorem StB.it {b : Bool} {its : Array Value} {it a : Addr} {i : Nat} {h : Heap} (x : StB b its it a i h) : ItB b h it a i := by
  cases b with
  | true => exact x.1
  | false => exact x.1
def ItzB (b1 b2 : Bool) (K : PySem.W.Frag) (a b : Addr) : It :=
  ⟨fun i H => ∃ (xs ys : List V) (x y : V), SqB b1 K H a xs ∧ SqB b2 K H b ys ∧ xs[i]? = some x ∧ ys[i]? = some y,
    fun i H v H' => ∃ T x y o, v = .ref T ∧ H T = none ∧ Pl o ∧ H' = upd H T (.frz o (.tup [x, y])) ∧ (∀ xs, SqB b1 K H a xs → xs[i]? = some x) ∧ ∀ ys, SqB b2 K H b ys → ys[i]? = some y,
    fun i H => ∃ xs ys : List V, SqB b1 K H a xs ∧ SqB b2 K H b ys ∧ i = min xs.length ys.length⟩
theorem turn_zipB {P : Program} {w : World} {K : PySem.W.Frag} {elts : List Expr} {kk : Nat} {tpos : Pos} {b1 b2 : Bool} {a b z TI TO i1 i2 : Addr} (D : ZipSep2 z TI TO i1 i2 [i1, a] [i2, b]) (hfree : a ≠ i1) (hfree2 : b ≠ i2) :
    Turn P w K (.Tuple elts kk tpos) (ItzB b1 b2 K a b) [z, TI, TO, i1, i2] z (fun i h => IsZip h z TI TO .none ∧ IsTupOf2 h TI (.ref i1) (.ref i2) ∧ (∃ x y, IsTupOf2 h TO x y) ∧ ItB b1 h i1 a i ∧ ItB b2 h i2 b i) where
  mem := by simp
  obj := fun i h st c hc => by
    obtain ⟨hz, hTI, ⟨x, y, hTO⟩, h1, h2⟩ := st
    have e' : c = z ∨ c = TI ∨ c = TO ∨ c = i1 ∨ c = i2 := by simpa using hc
    rcases e' with q | q | q | q | q
    · rw [q]; exact ⟨_, hz, fun v q => nomatch q⟩
    · rw [q]; exact ⟨_, hTI, fun v q => nomatch q⟩
    · rw [q]; exact ⟨_, hTO, fun v q => nomatch q⟩
    · rw [q]; exact h1.ob
    · rw [q]; exact h2.ob
  keep := fun i h h' st k => by
    obtain ⟨hz, hTI, ⟨x, y, hTO⟩, h1, h2⟩ := st
    exact ⟨k z (by simp) _ hz, k TI (by simp) _ hTI, ⟨x, y, k TO (by simp) _ hTO⟩, h1.at fun o q => k i1 (by simp) o q, h2.at fun o q => k i2 (by simp) o q⟩
  item := by
    intro X hP hw hK hc i pins s σ H E I hf st hg
    subst hP hw hK
    obtain ⟨hz, hTI, ⟨x0, y0, hTO⟩, h1, h2⟩ := st
    obtain ⟨xs, ys, x, y, hqx, hqy, hx, hy⟩ := hg
    obtain ⟨its, rv, p, _⟩ := seqB I hqx
    obtain ⟨its2, rv2, p2, _⟩ := seqB I hqy
    obtain ⟨u, hu, ru⟩ := rv.get hx
    obtain ⟨u2, hu2, ru2⟩ := rv2.get hy
    have hzl : z < s.heap.objs.size := Heap.lt_size hz
    have hh : X.A.in1.handled = none := I.ok.hd hc
    have hi1 : i < its.toArray.size := by simpa using (List.getElem?_eq_some_iff.mp hu).1
    have hi2 : i < its2.toArray.size := by simpa using (List.getElem?_eq_some_iff.mp hu2).1
    refine wpAny_pyNext_zipD2_item D (drawsB b1 hh i1 a hfree its.toArray) (drawsB b2 hh i2 b hfree2 its2.toArray) hz hTI hTO (p i1 i h1) (p2 i2 i h2) hi1 hi2 fun w1 w2 h' tk y1 y2 z' TO' h1' h2' hT hsz hk => ?_
    obtain rfl : w1 = u := by
      have q : its[i]? = some w1 := by simpa using y1
      rw [hu] at q
      exact (Option.some.inj q).symm
    obtain rfl : w2 = u2 := by
      have q : its2[i]? = some w2 := by simpa using y2
      rw [hu2] at q
      exact (Option.some.inj q).symm
    refine ⟨_, rfl, wpAny_letOwnedTupleGo_zip (s := { s with heap := h', toks := tk }) z' fun h'' z'' sb => ?_⟩
    have hT2 : h''.get? s.heap.objs.size = some { cls := .type "tuple", data := .seq #[w1, w2] } := (sb.2 _ (Nat.ne_of_gt hzl)).trans hT
    have new : ObjOk X.prog X.w (upd H s.heap.objs.size (.frz { cls := .type "tuple", data := .seq #[w1, w2] } (.tup [x, y]))) h'' s.heap.objs.size (.frz { cls := .type "tuple", data := .seq #[w1, w2] } (.tup [x, y])) :=
      ⟨hT2, by show 2 ≤ sizeLine; decide, [w1, w2], .cons ru (.cons ru2 .nil), ⟨_, hT2, rfl, _, rfl⟩⟩
    have I1 : Inv X pins σ (upd H s.heap.objs.size (.frz { cls := .type "tuple", data := .seq #[w1, w2] } (.tup [x, y]))) { s with heap := h'', toks := tk } :=
      I.turnedNew (t' := tk) (ch := [z, TI, TO, i1, i2]) (fun c o hb q => (sb.2 c (fun q' => hb (by simp [q']))).trans (hk c o (fun q' => hb (by simp [q'])) (fun q' => hb (by simp [q'])) (fun q' => hb (by simp [q'])) (fun q' => hb (by simp [q'])) q)) hf (Nat.le_refl _) new
    refine ⟨.ref s.heap.objs.size, _, I1, rfl, ⟨_, x, y, _, rfl, I.hok.fresh (Nat.le_refl _), ⟨rfl, rfl⟩, rfl, fun l hl => by rw [seqB_inj I hl hqx]; exact hx, fun l hl => by rw [seqB_inj I hl hqy]; exact hy⟩, ⟨z'', ?_, ⟨w1, w2, ?_⟩, ?_, ?_⟩, fun c hcm => ?_⟩
    · exact (sb.2 _ D.TIz).trans (hk _ _ D.TIz D.TITO D.TIi1 D.TIi2 hTI)
    · exact (sb.2 _ D.TOz).trans TO'
    · exact h1'.it.at fun o q => (sb.2 _ (Ne.symm D.zi1)).trans q
    · exact h2'.it.at fun o q => (sb.2 _ (Ne.symm D.zi2)).trans q
    · have hlt : c < s.heap.objs.size := by
        have e' : c = z ∨ c = TI ∨ c = TO ∨ c = i1 ∨ c = i2 := by simpa using hcm
        rcases e' with q | q | q | q | q
        · rw [q]; exact hzl
        · rw [q]; exact Heap.lt_size hTI
        · rw [q]; exact Heap.lt_size hTO
        · rw [q]; obtain ⟨_, e1, _⟩ := h1.ob; exact Heap.lt_size e1
        · rw [q]; obtain ⟨_, e2, _⟩ := h2.ob; exact Heap.lt_size e2
      rw [upd_ne (Nat.ne_of_lt hlt)]
      exact (hf c hcm).1
  done := by
    intro X hP hw hK hc i pins s σ H E I hf st hg
    subst hP hw hK
    obtain ⟨hz, hTI, ⟨x0, y0, hTO⟩, h1, h2⟩ := st
    obtain ⟨xs, ys, hqx, hqy, hend⟩ := hg
    obtain ⟨its, rv, p, _⟩ := seqB I hqx
    obtain ⟨its2, rv2, p2, _⟩ := seqB I hqy
    have l1 := rv.length
    have l2 := rv2.length
    have hh : X.A.in1.handled = none := I.ok.hd hc
    exact wpAny_pyNext_zipD2_end D (drawsB b1 hh i1 a hfree its.toArray) (drawsB b2 hh i2 b hfree2 its2.toArray) hz hTI hTO (p i1 i h1) (p2 i2 i h2) (by simp; omega) (by simp; omega) (by simp; omega) fun h' tk hk => ⟨rfl, I.turnedL (t' := tk) (ch := [z, TI, TO, i1, i2]) (fun c o hb q =>
      hk c o (fun q' => hb (by simp [q'])) (fun q' => hb (by simp [q'])) (fun q' => hb (by simp [q'])) (fun q' => hb (by simp [q'])) q) hf⟩
  self := fun A i s Q E st h => wpAny_pyIter_zip st.1 h
theorem beginsB (b : Bool) (a : Addr) (its : Array Value) : Begins (.ref a) (obB b a) (hpB b a its) := by
  cases b with
  | true => exact begins_list a its
  | false => exact begins_tuple a its
theorem itB_of {b : Bool} {h : Heap} {it a : Addr} (e : h.get? it = some (obB b a)) : ItB b h it a 0 := by
  cases b with
  | true => exact ⟨_, e, rfl, rfl⟩
  | false => exact ⟨_, e, rfl, rfl⟩
def iZipB (K : PySem.W.Frag) (ta : TA) : TI := fun σ H R => ta σ H fun vs H1 => ∃ a b xs ys b1 b2, vs = [.ref a, .ref b] ∧ SqB b1 K H1 a xs ∧ SqB b2 K H1 b ys ∧ R (ItzB b1 b2 K a b) H1
theorem pi_zipB {X : Cx} {e e2 : Expr} {ta : TA} {p pos tpos : Pos} {elts : List Expr} {kk : Nat} (hg : Gl X "zip") (hm : X.mg "zip" = none) (ha : PA X [e, e2] ta)
    (hs : starEach [e, e2] X.env = (false, eval e X.env) :: starEach [e2] X.env := by rfl) (hpl : (backTo pos (starEach [e2] X.env)).any (·.1) = false := by rfl) :
    PI X (.Tuple elts kk tpos) (.Call (.Name "zip" p) [e, e2] [] pos) (iZipB X.K ta) := by
  refine ⟨fun pins s σ H R I h => ?_⟩
  refine Call_ (ld_blt I hg hm PyProof.Rows.boot_zip (PyProof.Rows.callWith_type1 (thn (ha.run pos pins s σ H _ I h) fun us s1 ⟨vs, H1, I1, r1, q1⟩ => ?_) hs hpl))
  obtain ⟨a, b, xs, ys, b1, b2, ex, hqx, hqy, q⟩ := q1
  subst ex
  cases r1 with
  | cons r rr =>
    cases rr with
    | cons r' rr =>
      cases rr
      cases r
      cases r'
      obtain ⟨its, rv, p1, la, g1⟩ := seqB I1 hqx
      obtain ⟨its2, rv2, p2, lb, g2⟩ := seqB I1 hqy
      refine zip_begins2 (beginsB b1 a its.toArray) (beginsB b2 b its2.toArray) g1 g2 fun h' hz hTI hTO h1 h2 hsz hk => wpAny_pyIter_zip hz ?_
      have I2 : Inv X pins σ H1 { s1 with heap := h' } := I1.kept (t' := s1.toks) hk
      have S := zip_sep2 (N := s1.heap.objs.size) (fp1 := [a]) (fp2 := [b]) (fun c hc => (List.mem_singleton.mp hc) ▸ la) (fun c hc => (List.mem_singleton.mp hc) ▸ lb)
      refine ⟨s1.heap.objs.size + 4, [s1.heap.objs.size + 4, s1.heap.objs.size + 2, s1.heap.objs.size + 3, s1.heap.objs.size, s1.heap.objs.size + 1], _, _, H1, rfl, I2, turn_zipB S (Nat.ne_of_lt la) (Nat.ne_of_lt (Nat.lt_succ_of_lt lb)), ⟨hz, hTI, ⟨_, _, hTO⟩, itB_of h1, itB_of h2⟩, fun c hcm => ?_, q⟩
      have e' : c = s1.heap.objs.size + 4 ∨ c = s1.heap.objs.size + 2 ∨ c = s1.heap.objs.size + 3 ∨ c = s1.heap.objs.size ∨ c = s1.heap.objs.size + 1 := by simpa using hcm
      have hle : s1.heap.objs.size ≤ c := by
        rcases e' with z | z | z | z | z
        · rw [z]; exact Nat.le_add_right _ _
        · rw [z]; exact Nat.le_add_right _ _
        · rw [z]; exact Nat.le_add_right _ _
        · rw [z]; exact Nat.le_refl _
        · rw [z]; exact Nat.le_add_right _ _
      exact I1.fpOk hle (I1.hok.fresh hle)
end VS
end
section
namespace VS
open PySem PySem.Spec PyProof.Rows L2
open VM (PV SO Store)
variable [Lams] [Wsh]
structure Wlk (K : PySem.W.Frag) (J : It) (F : Hp) (μ : List Addr) (xs : List PV) (stay : Store → Prop) : Prop where
  goes : ∀ (G H F' : Hp) (μ' : List Addr) (st : Store) (i : Nat), Ext F μ F' μ' → Lay K G F' μ' st H → stay st → i < xs.length → J.go i H
  stops : ∀ (G H F' : Hp) (μ' : List Addr) (st : Store), Ext F μ F' μ' → Lay K G F' μ' st H → stay st → J.stop xs.length H
  yields : ∀ (G H F' : Hp) (μ' : List Addr) (st : Store) (i : Nat) (x : PV) (v : V) (H2 : Hp), Ext F μ F' μ' → Lay K G F' μ' st H → stay st → xs[i]? = some x → J.yld i H v H2 →
    ∃ F2, Ext F' μ' F2 μ' ∧ Lay K G F2 μ' st H2 ∧ Rep K F2 μ' x v
theorem Wlk.ofNo {W : Wsh} {K : PySem.W.Frag} {J : It} {F : Hp} {μ : List Addr} {xs : List PV} {stay : Store → Prop} (w : @Wlk _ W.no K J F μ xs stay) : @Wlk _ W K J F μ xs stay := by
  obtain ⟨h1, h2, h3⟩ := w
  refine @Wlk.mk _ W _ _ _ _ _ _ (fun G H F' μ' st i x l => h1 G H F' μ' st i x l.no) (fun G H F' μ' st x l => h2 G H F' μ' st x l.no) fun G H F' μ' st i y v H2 x l a b c => ?_
  obtain ⟨F2, g1, g2, g3⟩ := h3 G H F' μ' st i y v H2 x l.no a b c
  exact ⟨F2, g1, g2.ofNo, g3⟩
def KonI (K : PySem.W.Frag) (G F : Hp) (μ : List Addr) (k : List PV → (Store → Prop) → Store → Prop) (R : It → Hp → Prop) : Prop :=
  ∀ (J : It) (H' F' : Hp) (μ' : List Addr) (xs : List PV) (stay : Store → Prop) (st' : Store), Ext F μ F' μ' → Lay K G F' μ' st' H' → Wlk K J F' μ' xs stay → k xs stay st' → R J H'
def rI (K : PySem.W.Frag) (t : VM.TI) : L2.TI := fun σ H R => ∃ G F μ ρ st k, Lay K G F μ st H ∧ EnvR K F μ σ ρ ∧ t ρ st k nox ∧ KonI K G F μ k R
abbrev VI (X : Cx) (tg e : Expr) (t : VM.TI) : Prop := PI X tg e (rI X.K t)
theorem pi_imp {X : Cx} {tg e : Expr} {t t' : L2.TI} (h : PI X tg e t) (hi : ∀ σ H Q, t' σ H Q → t σ H Q) : PI X tg e t' := ⟨fun pins s σ H Q I q => h.run pins s σ H Q I (hi σ H Q q)⟩
section
variable {K : PySem.W.Frag} {G F : Hp} {μ : List Addr} {H : Hp} {st : Store}
theorem stays_self (x : PV) (st : Store) : VM.stays st x st := by cases x <;> exact (by first | trivial | rfl)
theorem wlk_list {a : Addr} {vs : List V} {xs : List PV} (e : F a = some (.lst vs)) (q : RepL K F μ xs vs) : Wlk K (Itl K a) F μ xs (fun _ => True) where
  goes := fun G H F' μ' st i x l _ hi => ⟨vs, vs[i]'(by rw [q.length]; exact hi), .inl (.inl (l.same _ _ (x.same _ _ e))), by simp [q.length, hi]⟩
  stops := fun G H F' μ' st x l _ => ⟨vs, .inl (.inl (l.same _ _ (x.same _ _ e))), by rw [q.length]; exact Nat.le_refl _⟩
  yields := fun G H F' μ' st i y v H2 x l _ hy hv => by
    obtain ⟨rfl, h2⟩ := hv
    obtain ⟨w, h3, h4⟩ := q.get hy
    have h5 := h2 vs (.inl (.inl (l.same _ _ (x.same _ _ e))))
    rw [h3] at h5
    cases h5
    exact ⟨F', Ext.refl, l, h4.mono x⟩
theorem wlk_listM {i0 : Nat} {a : Addr} {xs : List PV} (e : μ[i0]? = some a) (hx : st[i0]? = some (.lst xs)) : Wlk K (Itl K a) F μ xs (VM.stays st (.ref i0)) where
  goes := fun G H F' μ' st' i x l hs hi => by
    have hs' : st'[i0]? = st[i0]? := hs
    obtain ⟨_, vs, h2, q⟩ := l.obj i0 a _ (x.get e) (hs'.trans hx)
    exact ⟨vs, vs[i]'(by rw [q.length]; exact hi), .inl (.inl h2), by simp [q.length, hi]⟩
  stops := fun G H F' μ' st' x l hs => by
    have hs' : st'[i0]? = st[i0]? := hs
    obtain ⟨_, vs, h2, q⟩ := l.obj i0 a _ (x.get e) (hs'.trans hx)
    exact ⟨vs, .inl (.inl h2), by rw [q.length]; exact Nat.le_refl _⟩
  yields := fun G H F' μ' st' i y v H2 x l hs hy hv => by
    have hs' : st'[i0]? = st[i0]? := hs
    obtain ⟨_, vs, h2, q⟩ := l.obj i0 a _ (x.get e) (hs'.trans hx)
    obtain ⟨rfl, h3⟩ := hv
    obtain ⟨w, h4, h5⟩ := q.get hy
    have h6 := h3 vs (.inl (.inl h2))
    rw [h4] at h6
    cases h6
    exact ⟨F', Ext.refl, l, h5⟩
theorem wlk_tup {a : Addr} {vs : List V} {xs : List PV} (e : SqT K F a vs) (q : RepL K F μ xs vs) : Wlk K (Itt K a) F μ xs (fun _ => True) where
  goes := fun G H F' μ' st i x l _ hi => ⟨vs, vs[i]'(by rw [q.length]; exact hi), l.same.seqT (x.same.seqT e), by simp [q.length, hi]⟩
  stops := fun G H F' μ' st x l _ => ⟨vs, l.same.seqT (x.same.seqT e), by rw [q.length]; exact Nat.le_refl _⟩
  yields := fun G H F' μ' st i y v H2 x l _ hy hv => by
    obtain ⟨rfl, h2⟩ := hv
    obtain ⟨w, h3, h4⟩ := q.get hy
    have h5 := h2 vs (l.same.seqT (x.same.seqT e))
    rw [h3] at h5
    cases h5
    exact ⟨F', Ext.refl, l, h4.mono x⟩
theorem Wlk.imp {J : It} {xs : List PV} {stay stay' : Store → Prop} (w : Wlk K J F μ xs stay) (h : ∀ st, stay' st → stay st) : Wlk K J F μ xs stay' where
  goes := fun G H F' μ' st i x l hs => w.goes G H F' μ' st i x l (h st hs)
  stops := fun G H F' μ' st x l hs => w.stops G H F' μ' st x l (h st hs)
  yields := fun G H F' μ' st i y v H2 x l hs => w.yields G H F' μ' st i y v H2 x l (h st hs)
theorem wlk_str {s : List Nat} (o : sOk s) : Wlk K (Its ⟨s.toArray⟩) F μ (VM.signs s) (fun _ => True) where
  goes := fun G H F' μ' st i x l _ hi => by
    show i < s.toArray.size
    simpa [VM.signs] using hi
  stops := fun G H F' μ' st x l _ => by
    show s.toArray.size ≤ _
    simp [VM.signs]
  yields := fun G H F' μ' st i y v H2 x l _ hy hv => by
    obtain ⟨rfl, c, h1, rfl⟩ := hv
    have h2 : s[i]? = some c := by simpa using h1
    have h3 : y = .str [c] := by
      unfold VM.signs at hy
      rw [List.getElem?_map, h2] at hy
      exact (Option.some.inj hy).symm
    subst h3
    exact ⟨F', Ext.refl, l, rep_str.mpr ⟨⟨by simp, fun c' hc => by
      have e : c' = c := by simpa using hc
      rw [e]
      exact o.2 c (List.mem_of_getElem? h2)⟩, rfl⟩⟩
theorem wlk_range {lo : Int} {n : Nat} : Wlk K (Itr lo n) F μ ((List.range n).map fun (i : Nat) => .int (lo + (i : Int))) (fun _ => True) where
  goes := fun G H F' μ' st i x l _ hi => by
    show i < n
    simpa using hi
  stops := fun G H F' μ' st x l _ => by
    show n ≤ _
    simp
  yields := fun G H F' μ' st i y v H2 x l _ hy hv => by
    obtain ⟨rfl, rfl⟩ := hv
    have h3 : y = .int (lo + (i : Int)) := by
      rw [List.getElem?_map] at hy
      cases e : (List.range n)[i]? with
      | none => rw [e] at hy; cases hy
      | some j =>
        rw [e] at hy
        have hj : j = i := by
          rw [List.getElem?_eq_some_iff] at e
          obtain ⟨_, e⟩ := e
          simpa using e.symm
        subst hj
        exact (Option.some.inj hy).symm
    subst h3
    exact ⟨F', Ext.refl, l, rep_int.mpr rfl⟩
theorem items_cases {px : PV} {v : V} {xs : List PV} (l : Lay K G F μ st H) (r : Rep K F μ px v) (h : VM.items st px = some xs) :
    (∃ a vs, v = .ref a ∧ SqL K H a vs ∧ Wlk K (Itl K a) F μ xs (VM.stays st px)) ∨ (∃ a vs, v = .ref a ∧ SqT K H a vs ∧ Wlk K (Itt K a) F μ xs (VM.stays st px)) ∨ (∃ z, v = .str z ∧ Wlk K (Its z) F μ xs (VM.stays st px)) ∨ (∃ ks ys, px = .dct ks ys) ∨ (∃ ks ys, px = .dctT ks ys) ∨ (∃ i ks ys, px = .ref i ∧ (st[i]? = some (.dct ks ys) ∨ st[i]? = some (.dctT ks ys))) := by
  cases px <;> simp only [VM.items] at h <;> try (cases h; done)
  case str s =>
    cases h
    obtain ⟨o, rfl⟩ := rep_str.mp r
    exact .inr (.inr (.inl ⟨_, rfl, (wlk_str o).imp fun _ _ => trivial⟩))
  case tup =>
    cases h
    obtain ⟨a, vs, rfl, e, q⟩ := rep_tup.mp r
    exact .inr (.inl ⟨a, vs, rfl, l.same.seqT e, (wlk_tup e q).imp fun _ _ => trivial⟩)
  case lst =>
    cases h
    obtain ⟨a, vs, rfl, e, q⟩ := rep_lst.mp r
    exact .inl ⟨a, vs, rfl, .inl (.inl (l.same _ _ e)), (wlk_list e q).imp fun _ _ => trivial⟩
  case dct => exact .inr (.inr (.inr (.inl ⟨_, _, rfl⟩)))
  case dctT => exact .inr (.inr (.inr (.inr (.inl ⟨_, _, rfl⟩))))
  case ref i =>
    obtain ⟨a, h1, rfl⟩ := rep_ref.mp r
    split at h
    · rename_i ys e
      cases h
      obtain ⟨_, vs, h2, q⟩ := l.obj i a _ h1 e
      exact .inl ⟨a, vs, rfl, .inl (.inl h2), wlk_listM h1 e⟩
    · rename_i e
      exact .inr (.inr (.inr (.inr (.inr ⟨_, _, _, rfl, .inl e⟩))))
    · rename_i e
      exact .inr (.inr (.inr (.inr (.inr ⟨_, _, _, rfl, .inr e⟩))))
    · cases h
end
section
variable {X : Cx} {a b c e : Expr} {ta tb tc te : VM.TE} {t1 t2 : VM.TT} {pos p2 p : Pos} {es rest : List Expr} {tas : VM.TA} {x : Str} {tg : Expr}
theorem pi_any {tl : L2.TE} (hl : PE X e tl) : PI X tg e (fun σ H R => tl σ H fun x H1 => (∃ a xs, x = .ref a ∧ SqL X.K H1 a xs ∧ R (Itl X.K a) H1) ∨ (∃ a xs, x = .ref a ∧ SqT X.K H1 a xs ∧ R (Itt X.K a) H1) ∨ (∃ z, x = .str z ∧ R (Its z) H1)) := by
  refine ⟨fun pins s σ H R I h => ?_⟩
  refine thn (hl.run pins s σ H _ I h) fun v s1 ⟨x, H1, I1, r1, q1⟩ => ?_
  rcases q1 with ⟨a, xs, rfl, hq, q⟩ | ⟨a, xs, rfl, hq, q⟩ | ⟨z, rfl, q⟩
  · cases r1
    obtain ⟨its, rv, p, hz⟩ := I1.list hq
    refine wpAny_pyIter_list p.isList ?_
    refine ⟨s1.heap.objs.size, [s1.heap.objs.size], _, _, H1, rfl, I1.kept (t' := s1.toks) fun b o e => Heap.get?_push_of_some _ e, turn_list a _, ⟨_, Heap.get?_push_size _ rfl, rfl, rfl⟩, fun b hb => ?_, q⟩
    have e : b = s1.heap.objs.size := by simpa using hb
    subst e
    exact I1.fpOk (Nat.le_refl _) (I1.hok.fresh (Nat.le_refl _))
  · cases r1
    obtain ⟨its, rv, p, hz⟩ := I1.tuple hq
    refine wpAny_pyIter_tuple (show s1.heap.IsTuple a its.toArray from p) ?_
    refine ⟨s1.heap.objs.size, [s1.heap.objs.size], _, _, H1, rfl, I1.kept (t' := s1.toks) fun b o e => Heap.get?_push_of_some _ e, turn_tuple a _, ⟨_, Heap.get?_push_size _ rfl, rfl, rfl⟩, fun b hb => ?_, q⟩
    have e : b = s1.heap.objs.size := by simpa using hb
    subst e
    exact I1.fpOk (Nat.le_refl _) (I1.hok.fresh (Nat.le_refl _))
  · obtain ⟨t, rfl⟩ := r1
    cases ha : z.cps.all (· < 128)
    · exact wpAny_pyIter_wide ha (pi_one (tk := s1.toks) I1 _ (turn_str _ z t "str_iterator" (.inr rfl)) ⟨_, Heap.get?_push_size _ rfl, rfl, rfl⟩ q)
    · exact wpAny_pyIter_ascii ha (pi_one (tk := s1.toks) I1 _ (turn_str _ z t "str_ascii_iterator" (.inl rfl)) ⟨_, Heap.get?_push_size _ rfl, rfl, rfl⟩ q)
theorem vi_e (ha : VE X a ta) : VI X tg a (VM.iE ta) := pi_imp (pi_any ha) fun σ H R h => by
  obtain ⟨G, F, μ, ρ, st, k, l, r, d, hk⟩ := h
  refine bind1 l r d fun x H1 F1 μ1 px st1 e1 l1 r1 p1 q1 => ?_
  split at q1
  · rename_i xs ex
    obtain ⟨q1, q2⟩ := q1
    rcases items_cases l1 p1 ex with ⟨a, vs, rfl, h1, w⟩ | ⟨a, vs, rfl, h1, w⟩ | ⟨z, rfl, w⟩ | ⟨ks, ys, rfl⟩ | ⟨ks, ys, rfl⟩ | ⟨i, ks, ys, rfl, h1 | h1⟩
    · exact .inl ⟨a, vs, rfl, h1, hk _ H1 F1 μ1 xs _ st1 e1 l1 w q2⟩
    · exact .inr (.inl ⟨a, vs, rfl, h1, hk _ H1 F1 μ1 xs _ st1 e1 l1 w q2⟩)
    · exact .inr (.inr ⟨z, rfl, hk _ H1 F1 μ1 xs _ st1 e1 l1 w q2⟩)
    · exact (show False by simpa [VM.isSeq] using q1).elim
    · exact (show False by simpa [VM.isSeq] using q1).elim
    · exact (show False by simpa [VM.isSeq, h1] using q1).elim
    · exact (show False by simpa [VM.isSeq, h1] using q1).elim
  · exact q1.elim
theorem vi_range1 (hg : Gl X "range") (hm : X.mg "range" = none) (ha : VE X a ta) (hs : starEach [a] X.env = [(false, eval a X.env)] := by rfl) : VI X tg (.Call (.Name "range" p) [a] [] pos) (VM.iRange1 ta) :=
  pi_imp (pi_range1 hg hm (pa_cons ha pa_nil hs) hs) fun σ H R h => by
    obtain ⟨G, F, μ, ρ, st, k, l, r, d, hk⟩ := h
    refine bind1 l r d fun x H1 F1 μ1 px st1 e1 l1 r1 p1 q1 => ?_
    split at q1
    · rename_i n
      obtain rfl := rep_int.mp p1
      obtain ⟨h1, q1⟩ := q1
      refine ⟨n, rfl, h1.1, h1.2, hk _ H1 F1 μ1 _ _ st1 e1 l1 ?_ q1⟩
      have w := wlk_range (K := X.K) (F := F1) (μ := μ1) (lo := 0) (n := n.toNat)
      simpa using w
    · exact q1.elim
def rG (K : PySem.W.Frag) (g : VM.TG) (sl : List Nat) : L2.TG := fun v σ H Q => ∃ G F μ ρ st k px, Lay K G F μ st H ∧ EnvR K F μ σ ρ ∧ Rep K F μ px v ∧ g px ρ st k ∧
  ∀ σ' ρ' st', Lay K G F μ st' H → EnvR K F μ σ' ρ' → σ'.length = σ.length → (∀ j, j ∉ sl → σ'[j]? = σ[j]?) → k ρ' st' → Q σ' H
abbrev VG (X : Cx) (tg : Expr) (g : VM.TG) (sl : List Nat) : Prop := PG X tg (rG X.K g sl)
def rGs (K : PySem.W.Frag) (g : List PV → VM.Env → Store → (VM.Env → Store → Prop) → Prop) (sl : List Nat) : L2.TGs := fun vs σ H Q => ∃ G F μ ρ st k pxs, Lay K G F μ st H ∧ EnvR K F μ σ ρ ∧ RepL K F μ pxs vs ∧ g pxs ρ st k ∧
  ∀ σ' ρ' st', Lay K G F μ st' H → EnvR K F μ σ' ρ' → σ'.length = σ.length → (∀ j, j ∉ sl → σ'[j]? = σ[j]?) → k ρ' st' → Q σ' H
theorem pg_imp {tg : Expr} {t t' : L2.TG} (h : PG X tg t) (hi : ∀ v σ H Q, t' v σ H Q → t v σ H Q) : PG X tg t' := ⟨fun pins s σ H v u Q I r q => h.run pins s σ H v u Q I r (hi v σ H Q q)⟩
theorem pgs_imp {ts : List Expr} {t t' : L2.TGs} (h : PGs X ts t) (hi : ∀ v σ H Q, t' v σ H Q → t v σ H Q) : PGs X ts t' := ⟨fun pins s σ H v u Q I r q => h.run pins s σ H v u Q I r (hi v σ H Q q)⟩
theorem vg_name {i : Nat} {x : Str} (hN : X.N.Nodup) (hi : X.N[i]? = some x) (hx : Loc X.env.scope x) (hf : X.fn x = true ∨ X.env.scope.names.lookup x = some .local) : VG X (.Name x pos) (VM.gName i) [i] := pg_imp (pg_name hN hi hx hf) fun v σ H Q h => by
  obtain ⟨G, F, μ, ρ, st, k, px, l, r, p, d, hk⟩ := h
  exact hk _ _ st l (r.set i p) (by simp) (fun j hj => List.getElem?_set_ne (fun z => hj (by simp [z]))) d
theorem vgs_nil : PGs X [] (rGs X.K (VM.gEach []) []) := pgs_imp pgs_nil fun vs σ H Q h => by
  obtain ⟨G, F, μ, ρ, st, k, pxs, l, r, p, d, hk⟩ := h
  cases pxs with
  | nil => exact ⟨repL_nil.mp p, hk σ ρ st l r rfl (fun _ _ => rfl) d⟩
  | cons => exact d.elim
theorem vgs_cons {es : List Expr} {g : VM.TG} {gs : List VM.TG} {sl sls : List Nat} (h1 : VG X e g sl) (h2 : PGs X es (rGs X.K (VM.gEach gs) sls)) (hs : (assignEach (e :: es) X.env).map (·.2) = assign e X.env :: (assignEach es X.env).map (·.2) := by rfl) :
    PGs X (e :: es) (rGs X.K (VM.gEach (g :: gs)) (sl ++ sls)) := pgs_imp (pgs_cons h1 h2 hs) fun vs σ H Q h => by
  obtain ⟨G, F, μ, ρ, st, k, pxs, l, r, p, d, hk⟩ := h
  cases pxs with
  | nil => exact d.elim
  | cons px pxs =>
    obtain ⟨v, w, rfl, p1, p2⟩ := repL_cons.mp p
    refine ⟨v, w, rfl, G, F, μ, ρ, st, _, px, l, r, p1, d, fun σ1 ρ1 st1 l1 r1 hl1 ho1 q1 => ?_⟩
    refine ⟨G, F, μ, ρ1, st1, k, pxs, l1, r1, p2, q1, fun σ2 ρ2 st2 l2 r2 hl2 ho2 q2 => ?_⟩
    exact hk σ2 ρ2 st2 l2 r2 (hl2.trans hl1) (fun j hj => (ho2 j fun z => hj (List.mem_append_right _ z)).trans (ho1 j fun z => hj (List.mem_append_left _ z))) q2
theorem vg_tup {es : List Expr} {gs : List VM.TG} {sl : List Nat} {kt : Nat} (hc : X.calm = true) (h : PGs X es (rGs X.K (VM.gEach gs) sl)) (hn : (assignEach es X.env).length = gs.length := by rfl) (hst : (assignEach es X.env).findIdx? (·.1) = none := by rfl) : VG X (.Tuple es kt pos) (VM.gTup gs) sl :=
  pg_imp (pg_tup hc h hn hst) fun v σ H Q h => by
    obtain ⟨G, F, μ, ρ, st, k, px, l, r, p, d, hk⟩ := h
    unfold VM.gTup at d
    split at d
    · rename_i xs
      obtain ⟨a, vs, rfl, e, q⟩ := rep_tup.mp p
      exact ⟨a, vs, rfl, l.same.seqT e, by rw [q.length]; exact d.1, G, F, μ, ρ, st, k, xs, l, r, q, d.2, hk⟩
    · exact d.elim
end
end VS
end
section
namespace VS
open PySem PySem.Spec PyProof.Rows L2
open VM (PV SO Store)
variable [Lams] [Wsh]
section
variable {K : PySem.W.Frag} {G F : Hp} {μ : List Addr} {H : Hp} {st : Store}
theorem sq_rep {px : PV} {v : V} {xs : List PV} (l : Lay K G F μ st H) (r : Rep K F μ px v) (h : VM.sq st px = some xs) :
    ∃ b a, v = .ref a ∧ ∀ (G' H' F' : Hp) (μ' : List Addr) (st' : Store), Ext F μ F' μ' → Lay K G' F' μ' st' H' → VM.stays st px st' → ∃ vs, SqB b K H' a vs ∧ RepL K F' μ' xs vs := by
  by_cases ht : ∃ ys, px = .tup ys
  · obtain ⟨ys, rfl⟩ := ht
    cases h
    obtain ⟨a, vs, rfl, e, q⟩ := rep_tup.mp r
    exact ⟨false, a, rfl, fun G' H' F' μ' st' x l' _ => ⟨vs, l'.same.seqT (x.same.seqT e), q.mono x⟩⟩
  · have h2 : VM.asL st px = some xs := by
      cases px <;> first | exact h | exact (ht ⟨_, rfl⟩).elim
    obtain ⟨a, vs, rfl, _, _⟩ := asL_rep l r h2
    refine ⟨true, a, rfl, fun G' H' F' μ' st' x l' hs => ?_⟩
    have h3 : VM.asL st' px = some xs := by
      cases px <;> simp only [VM.asL] at h2 ⊢ <;> try exact h2
      rename_i i
      have hs' : st'[i]? = st[i]? := hs
      rw [hs']
      exact h2
    obtain ⟨a', ws, e1, e2, e3⟩ := asL_rep l' (r.mono x) h3
    cases e1
    exact ⟨ws, .inl (.inl e2), e3⟩
theorem upd_exO {G : Hp} {D : Addr} {o : HO} (hn : G D = none) (c : Addr) (u : Obj) (h : G c = some (ExO c u)) : upd G D o c = some (ExO c u) := by
  rw [upd_ne (ne_of_none h hn)]
  exact h
theorem exO_upd {G : Hp} {D : Addr} {o : HO} (ho : ∀ c u, o ≠ ExO c u) (c : Addr) (u : Obj) (h : upd G D o c = some (ExO c u)) : G c = some (ExO c u) := by
  by_cases q : c = D
  · subst q
    rw [upd_same] at h
    cases h
    exact (ho _ _ rfl).elim
  · rw [upd_ne q] at h
    exact h
theorem exO_noL {xs : List V} (c : Addr) (u : Obj) : HO.lst xs ≠ ExO c u := fun z => exO_lst z.symm
theorem Lay.guard (l : Lay K G F μ st H) {D : Addr} {o : HO} (h : H D = none) (ho : ∀ c u, o ≠ ExO c u := by first | exact exO_noL | (intro c u z; have z' : _ = HO.ext _ := z; cases z')) : Lay K (upd G D o) F μ st (upd H D o) where
  gd := fun a u e => by
    by_cases q : a = D
    · subst q
      rw [upd_same] at e ⊢
      exact ⟨e, l.free h, l.notin h⟩
    · rw [upd_ne q] at e ⊢
      exact l.gd a u e
  same := fun b v e => by rw [upd_ne (ne_of_none (l.same b v e) h)]; exact l.same b v e
  len := l.len
  nd := l.nd
  there := fun a ha => by
    by_cases q : a = D
    · exact ⟨o, by rw [q]; exact upd_same⟩
    · rw [upd_ne q]
      exact l.there a ha
  obj := fun i a u h1 h2 => by
    have q : a ≠ D := fun z => l.notin h (z ▸ List.mem_of_getElem? h1)
    exact (l.obj i a u h1 h2).mono Ext.refl rfl (upd_ne q) (upd_exO (l.gfree h))
  tab := l.tab.mono Ext.refl fun q hq => ⟨upd_ne (l.tab.ne h q hq), rfl, upd_ne (l.tab.ne h q hq), (l.tab q hq).2.2.1⟩
  gw := fun a u e => by
    have z := l.gw a u e
    rw [upd_ne (ne_of_none z (l.gfree h))]
    exact z
  gx := fun a u e => l.gx a u (exO_upd ho a u e)
  we := l.we
  wk := l.wk
theorem Lay.gset {D : Addr} {o o' : HO} (l : Lay K (upd G D o) F μ st H) (hW : Wsh.G D = none) (ho : ∀ c u, o ≠ ExO c u := by first | exact exO_noL | (intro c u z; have z' : _ = HO.ext _ := z; cases z')) (ho' : ∀ c u, o' ≠ ExO c u := by first | exact exO_noL | (intro c u z; have z' : _ = HO.ext _ := z; cases z')) : Lay K (upd G D o') F μ st (upd H D o') := by
  obtain ⟨h1, h2, h3⟩ := l.gd D o upd_same
  exact {
    gd := fun a u e => by
      by_cases q : a = D
      · subst q
        rw [upd_same] at e ⊢
        exact ⟨e, h2, h3⟩
      · rw [upd_ne q] at e ⊢
        exact l.gd a u (by rw [upd_ne q]; exact e)
    same := fun b v e => by rw [upd_ne (ne_of_none e h2)]; exact l.same b v e
    len := l.len
    nd := l.nd
    there := fun a ha => by
      by_cases q : a = D
      · exact ⟨o', by rw [q]; exact upd_same⟩
      · rw [upd_ne q]
        exact l.there a ha
    obj := fun i a u e1 e2 => by
      have q : a ≠ D := fun z => h3 (z ▸ List.mem_of_getElem? e1)
      exact (l.obj i a u e1 e2).mono Ext.refl rfl (upd_ne q) fun c v z => by
        have z' := exO_upd ho c v z
        have hc : c ≠ D := fun w => by
          rw [w, upd_same] at z
          exact ho _ _ (Option.some.inj z)
        rw [upd_ne hc]
        exact z'
    tab := l.tab.mono Ext.refl fun q hq => by
      have n := l.tab.neG (a := D) upd_same q hq
      exact ⟨by rw [upd_ne n, upd_ne n], rfl, upd_ne n, (l.tab q hq).2.2.1⟩
    gw := fun a u e => by
      have z := l.gw a u e
      rw [upd_ne (ne_of_none e hW)] at z ⊢
      exact z
    gx := fun a u e => by
      have z := exO_upd ho' a u e
      refine l.gx a u ?_
      by_cases q : a = D
      · rw [q, upd_same] at e
        exact (ho' _ _ (Option.some.inj e)).elim
      · rw [upd_ne q]
        exact z
    we := l.we
    wk := l.wk }
theorem Lay.unguard {D : Addr} {o : HO} (l : Lay K (upd G D o) F μ st H) (hG : G D = none) (hW : Wsh.G D = none) (ho : ∀ c u, o ≠ ExO c u := by first | exact exO_noL | (intro c u z; have z' : _ = HO.ext _ := z; cases z')) : Ext F μ (upd F D o) μ ∧ Lay K G (upd F D o) μ st H := by
  obtain ⟨h1, h2, h3⟩ := l.gd D o upd_same
  have x : Ext F μ (upd F D o) μ := ⟨fun a u e => by rw [upd_ne (ne_of_none e h2)]; exact e, [], by simp⟩
  exact ⟨x, {
    gd := fun a u e => by
      have q : a ≠ D := ne_of_none e hG
      obtain ⟨k1, k2, k3⟩ := l.gd a u (by rw [upd_ne q]; exact e)
      exact ⟨k1, by rw [upd_ne q]; exact k2, k3⟩
    same := fun a u e => by
      by_cases q : a = D
      · subst q
        rw [upd_same] at e
        cases e
        exact h1
      · rw [upd_ne q] at e
        exact l.same a u e
    len := l.len
    nd := l.nd
    there := l.there
    obj := fun i a u e1 e2 => by
      have q : a ≠ D := fun z => h3 (z ▸ List.mem_of_getElem? e1)
      exact (l.obj i a u e1 e2).mono x (upd_ne q) rfl (exO_upd ho)
    tab := l.tab.mono x fun q hq => by
      have n := l.tab.neG (a := D) upd_same q hq
      exact ⟨by rw [upd_ne n], upd_ne n, rfl, (l.tab q hq).2.2.1⟩
    gw := fun a u e => by
      have z := l.gw a u e
      rw [upd_ne (ne_of_none e hW)] at z
      exact z
    gx := fun a u e => l.gx a u (upd_exO hG a u e)
    we := l.we.trans x
    wk := l.wk }⟩
theorem wipe_at : ∀ {vs : List Nat} {σ : L2.St} {j : Nat}, j ∈ vs → (L2.wipe σ vs)[j]? = if j < σ.length then some none else none
  | [], _, _, h => by cases h
  | v :: vs, σ, j, h => by
    unfold L2.wipe
    by_cases e : v = j
    · subst e
      by_cases hj : v < σ.length
      · rw [if_pos hj, List.getElem?_set_self (by rw [L2.wipe_length]; exact hj)]
      · rw [if_neg hj, List.getElem?_eq_none (by rw [List.length_set, L2.wipe_length]; omega)]
    · rw [List.getElem?_set_ne e]
      exact wipe_at ((List.mem_cons.mp h).resolve_left (fun z => e z.symm))
theorem wipe_eq {vs : List Nat} {σ τ : L2.St} (hl : τ.length = σ.length) (h : ∀ j, j ∉ vs → τ[j]? = (L2.wipe σ vs)[j]?) : L2.wipe τ vs = L2.wipe σ vs := by
  apply List.ext_getElem?
  intro j
  by_cases hj : j ∈ vs
  · rw [wipe_at hj, wipe_at hj, hl]
  · rw [L2.wipe_out hj, h j hj]
end
section
variable {X : Cx} {a b c e : Expr} {ta tb tc te : VM.TE} {t1 t2 : VM.TT} {pos p2 p : Pos} {es rest : List Expr} {tas : VM.TA} {x : Str} {tg : Expr}
theorem vi_zip {elts : List Expr} {kk : Nat} {tpos : Pos} (hg : Gl X "zip") (hm : X.mg "zip" = none) (ha : VE X a ta) (hb : VE X b tb) (hs : starEach [a, b] X.env = (false, eval a X.env) :: starEach [b] X.env := by rfl) (hs2 : starEach [b] X.env = (false, eval b X.env) :: starEach [] X.env := by rfl) (hpl : (backTo pos (starEach [b] X.env)).any (·.1) = false := by rfl) :
    VI X (.Tuple elts kk tpos) (.Call (.Name "zip" p) [a, b] [] pos) (VM.iZip ta tb) :=
  pi_imp (pi_zipB hg hm (pa_cons ha (pa_cons hb pa_nil hs2) hs) hs hpl) fun σ H R h => by
    obtain ⟨G, F, μ, ρ, st, k, l, r, d, hk⟩ := h
    refine bind1 l r d fun x H1 F1 μ1 px st1 e1 l1 r1 p1 q1 => bind1 l1 r1 q1 fun y H2 F2 μ2 py st2 e2 l2 r2 p2 q2 => ?_
    split at q2
    · rename_i xs ys hx hy
      obtain ⟨b1, a, rfl, f1⟩ := sq_rep l2 (p1.mono e2) hx
      obtain ⟨b2, b, rfl, f2⟩ := sq_rep l2 p2 hy
      obtain ⟨vs, s1, g1⟩ := f1 G H2 F2 μ2 st2 Ext.refl l2 (stays_self _ _)
      obtain ⟨ws, s2, g2⟩ := f2 G H2 F2 μ2 st2 Ext.refl l2 (stays_self _ _)
      refine ⟨a, b, vs, ws, b1, b2, rfl, s1, s2, hk _ H2 F2 μ2 _ _ st2 (e1.trans e2) l2 ?_ q2⟩
      exact {
        goes := fun G H F' μ' st i x l hs hi => by
          obtain ⟨vs, s1, g1⟩ := f1 G H F' μ' st x l hs.1
          obtain ⟨ws, s2, g2⟩ := f2 G H F' μ' st x l hs.2
          rw [List.length_zipWith] at hi
          have l1 := g1.length
          have l2 := g2.length
          exact ⟨vs, ws, vs[i]'(by omega), ws[i]'(by omega), s1, s2, by simp [show i < vs.length by omega], by simp [show i < ws.length by omega]⟩
        stops := fun G H F' μ' st x l hs => by
          obtain ⟨vs, s1, g1⟩ := f1 G H F' μ' st x l hs.1
          obtain ⟨ws, s2, g2⟩ := f2 G H F' μ' st x l hs.2
          exact ⟨vs, ws, s1, s2, by rw [List.length_zipWith, g1.length, g2.length]⟩
        yields := fun G H F' μ' st i y v H2 x l hs hy hv => by
          obtain ⟨vs, s1, g1⟩ := f1 G H F' μ' st x l hs.1
          obtain ⟨ws, s2, g2⟩ := f2 G H F' μ' st x l hs.2
          obtain ⟨T, u, w, oT, rfl, nT, pT, rfl, k1, k2⟩ := hv
          rw [List.getElem?_zipWith] at hy
          cases ex : xs[i]? with
          | none => rw [ex] at hy; cases hy
          | some p =>
            cases ey : ys[i]? with
            | none => rw [ex, ey] at hy; cases hy
            | some q =>
              rw [ex, ey] at hy
              cases hy
              obtain ⟨u', m1, m2⟩ := g1.get ex
              obtain ⟨w', m3, m4⟩ := g2.get ey
              have n1 := k1 vs s1
              have n2 := k2 ws s2
              rw [m1] at n1
              rw [m3] at n2
              cases n1
              cases n2
              refine ⟨upd F' T (.frz oT (.tup [u, w])), ext_upd l nT, l.new nT, rep_tup.mpr ⟨T, [u, w], rfl, .inl ⟨oT, upd_same, pT⟩, ?_⟩⟩
              exact repL_cons.mpr ⟨u, [w], rfl, m2.mono (ext_upd l nT), repL_cons.mpr ⟨w, [], rfl, m4.mono (ext_upd l nT), repL_nil.mpr rfl⟩⟩ }
    · exact q2.elim

abbrev rGn [W : Wsh] (K : PySem.W.Frag) (g : VM.TG) (sl : List Nat) : L2.TG := @rG _ W.no K g sl
abbrev rTn [W : Wsh] (K : PySem.W.Frag) (t : VM.TT) : L2.TT := @rT _ W.no K t
abbrev rEn [W : Wsh] (K : PySem.W.Frag) (t : VM.TE) : L2.TE := @rE _ W.no K t
abbrev rIn [W : Wsh] (K : PySem.W.Frag) (i : VM.TI) : L2.TI := @rI _ W.no K i
theorem lc_gen {wi : L2.TI} {i : VM.TI} {g : VM.TG} {t : VM.TT} {te : VM.TE} {vs sl : List Nat} (hsl : ∀ j ∈ sl, j ∈ vs) {K : PySem.W.Frag} {σ : L2.St} {H : Hp} {Q : VK} (h : ∃ G F μ ρ st, ∃ k : List PV → Store → Prop, Lay K G F μ st H ∧ EnvR K F μ σ ρ ∧ i ρ st (fun xs stay st => VM.compGo g t te vs stay xs [] (VM.wipe ρ vs) st k) nox ∧ ∀ (D : Addr) (H' F' : Hp) (μ' : List Addr) (acc : List PV) (ws : List V) (st' : Store), Ext F μ F' μ' → G D = none → Wsh.G D = none → Lay K (upd G D (.lst ws)) F' μ' st' H' → RepL K F' μ' acc ws → k acc st' → Q (.ref D) H') :
    tLc (VS.rI K i) (rGn K g sl) (rTn K t) (rEn K te) vs σ H Q := by
  obtain ⟨G, F, μ, ρ, st, k, l, r, d, hk⟩ := h
  refine ⟨G, F, μ, ρ, st, _, l, r, d, fun J H1 F1 μ1 xs stay st1 e1 l1 w q => ?_⟩
  intro D hD
  have hG : G D = none := by
    cases ge : G D with
    | none => rfl
    | some o =>
      have := (l1.gd D o ge).1
      rw [hD] at this
      cases this
  have hW := l1.wn hD
  refine ⟨fun i m H => m = xs.length - i ∧ i ≤ xs.length ∧ ∃ F' μ' acc ws st', Ext F1 μ1 F' μ' ∧ Lay K (upd G D (.lst ws)) F' μ' st' H ∧ RepL K F' μ' acc ws ∧ VM.compGo g t te vs stay (xs.drop i) acc (VM.wipe ρ vs) st' k,
    ⟨xs.length, by simp, Nat.zero_le _, F1, μ1, [], [], st1, Ext.refl, l1.guard hD, repL_nil.mpr rfl, q⟩, ?_⟩
  rintro i m H ⟨rfl, hi, F', μ', acc, ws, st', e2, l2, ra, q2⟩
  have rr : ∀ {F2 : Hp} {μ2 : List Addr}, Ext F μ F2 μ2 → EnvR K F2 μ2 (L2.wipe σ vs) (VM.wipe ρ vs) := fun x => (r.mono x).wipe vs
  by_cases hlt : i < xs.length
  · rw [List.drop_eq_getElem_cons hlt] at q2
    obtain ⟨hstay, q2⟩ := q2
    refine .inr ⟨w.goes _ H F' μ' st' i e2 l2 hstay hlt, fun H' => xs.length - (i + 1) = xs.length - (i + 1) ∧ i + 1 ≤ xs.length ∧ ∃ F' μ' acc ws st', Ext F1 μ1 F' μ' ∧ Lay K (upd G D (.lst ws)) F' μ' st' H' ∧ RepL K F' μ' acc ws ∧ VM.compGo g t te vs stay (xs.drop (i + 1)) acc (VM.wipe ρ vs) st' k, fun H' p' => ⟨xs.length - (i + 1), by omega, p'⟩, fun x H' hy => ?_⟩
    obtain ⟨F3, e3, l3, rx⟩ := w.yields _ H F' μ' st' i xs[i] x H' e2 l2 hstay (by simp [hlt]) hy
    refine ⟨_, F3, μ', _, st', _, xs[i], l3.no, rr ((e1.trans e2).trans e3), rx, q2, fun σ4 ρ4 st4 l4 r4 len4 out4 q4 => ?_⟩
    refine ⟨wipe_eq (len4.trans (L2.wipe_length _ _)) fun j hj => out4 j fun z => hj (hsl j z), ?_⟩
    refine @bindT _ (Wsh.no _) _ _ _ _ _ _ _ _ _ _ _ l4 r4 q4 fun b H5 F5 μ5 st5 e5 l5 r5 q5 => ?_
    cases b with
    | true =>
      rw [if_pos rfl] at q5 ⊢
      refine @bind1 _ (Wsh.no _) _ _ _ _ _ _ _ _ _ _ _ l5 r5 q5 fun y H6 F6 μ6 py st6 e6 l6 r6 p6 q6 => ?_
      obtain ⟨hz, q6⟩ := q6
      have ra' := ((ra.mono e3).mono e5).mono e6
      refine ⟨ws, (l6.gd D _ upd_same).1, by rw [ra.length, sizeLine_eq]; exact hz, rfl, by omega, F6, μ6, acc ++ [py], ws ++ [y], st6, ((e2.trans e3).trans e5).trans e6, ?_, ra'.append (repL_cons.mpr ⟨y, [], rfl, p6, repL_nil.mpr rfl⟩), q6⟩
      exact l6.ofNo.gset hW
    | false =>
      rw [if_neg Bool.false_ne_true] at q5 ⊢
      exact ⟨rfl, by omega, F5, μ5, acc, ws, st5, (e2.trans e3).trans e5, l5.ofNo, (ra.mono e3).mono e5, q5⟩
  · have e : i = xs.length := by omega
    subst e
    rw [List.drop_length] at q2
    refine .inl ⟨w.stops _ H F' μ' st' e2 l2 q2.1, ?_⟩
    exact hk D H F' μ' acc ws st' (e1.trans e2) hG hW l2 ra q2.2
theorem lc_imp {wi : L2.TI} {i : VM.TI} {g : VM.TG} {t : VM.TT} {te : VM.TE} {vs sl : List Nat} (hsl : ∀ j ∈ sl, j ∈ vs) {K : PySem.W.Frag} {σ : L2.St} {H : Hp} {Q : VK} (h : rE K (VM.eComp i g t te vs) σ H Q) :
    tLc (VS.rI K i) (rGn K g sl) (rTn K t) (rEn K te) vs σ H Q := by
  obtain ⟨G, F, μ, ρ, st, k, l, r, d, hk⟩ := h
  refine lc_gen (wi := fun _ _ _ => True) hsl ⟨G, F, μ, ρ, st, _, l, r, d, fun D H' F' μ' acc ws st' e hG hW l2 ra q => ?_⟩
  obtain ⟨e3, l3⟩ := l2.unguard hG hW
  exact hk (.ref D) H' _ μ' (.lst acc) st' (e.trans e3) l3 (rep_lst.mpr ⟨D, ws, rfl, upd_same, ra.mono e3⟩) q
theorem tkx_no [W : Wsh] (X : Cx) : @TkX _ W.no X := @TkX.mk _ W.no X takes_none5
abbrev BX (X : Cx) (scope : Scope) : Shared → Hp → Addr → List (Str × Addr) → List Addr → Cx := fun s H C cl fp => X.blk s H scope (compEnvC scope cl C X.env) fp
theorem ve_comp {elt iter : Expr} {ifs : List Expr} {scope : Scope} {own : List (Str × Nat)} {i : VM.TI} {g : VM.TG} {t : VM.TT} {sl : List Nat} (hc : X.calm = true) (hN : X.N.Nodup) (ok : BlkOk X.N X.env.scope scope own) (hi : VI X tg iter i) (hsl : ∀ j ∈ sl, j ∈ own.map (·.2))
    (hg : ∀ [Wsh] s H C cl fp [TkX (BX X scope s H C cl fp)], VG (BX X scope s H C cl fp) tg g sl) (ht : ∀ [Wsh] s H C cl fp [TkX (BX X scope s H C cl fp)], PTs (BX X scope s H C cl fp) ifs (rT X.K t)) (he : ∀ [Wsh] s H C cl fp [TkX (BX X scope s H C cl fp)], VE (BX X scope s H C cl fp) elt te) (hs : ∀ x, foldedSetIterable iter X.env x = pure x := by intro _; rfl) :
    VE X (.ListComp elt [⟨tg, iter, ifs, 0⟩] scope pos) (VM.eComp i g t te (own.map (·.2))) := pe_imp (pe_lc hc hN hi ok (fun s H C cl fp => @hg (Wsh.no _) s H C cl fp (tkx_no _)) (fun s H C cl fp => @ht (Wsh.no _) s H C cl fp (tkx_no _)) (fun s H C cl fp => @he (Wsh.no _) s H C cl fp (tkx_no _)) hs) fun σ H Q h => lc_imp (wi := fun _ _ _ => True) hsl h
theorem vts_nil : PTs X [] (rT X.K VM.tYes) := by
  refine ⟨fun pins s σ H Q I h => ?_⟩
  obtain ⟨G, F, μ, ρ, st, k, l, r, d, hk⟩ := h
  exact pts_nil.run pins s σ H Q I (hk true H F μ st Ext.refl l d)
theorem vts_one (h : VT X c t1) : PTs X [c] (rT X.K t1) := pts_one h
def KonR (K : PySem.W.Frag) (G F : Hp) (μ : List Addr) (k : VM.Env → Store → Prop) (Q : L2.St → Hp → Prop) : Prop := ∀ (σ' : L2.St) (H' F' : Hp) (μ' : List Addr) (ρ' : VM.Env) (st' : Store), Ext F μ F' μ' → Lay K G F' μ' st' H' → EnvR K F' μ' σ' ρ' → k ρ' st' → Q σ' H'
theorem KonR.mono {K : PySem.W.Frag} {G F F' : Hp} {μ μ' : List Addr} {k : VM.Env → Store → Prop} {Q : L2.St → Hp → Prop} (h : KonR K G F μ k Q) (e : Ext F μ F' μ') : KonR K G F' μ' k Q := fun σ' H' F2 μ2 ρ' st' e2 => h σ' H' F2 μ2 ρ' st' (e.trans e2)
structure KonS (K : PySem.W.Frag) (G F : Hp) (μ : List Addr) (DV : VM.Ends) (D : L2.Ends) : Prop where
  nx : KonR K G F μ DV.nx D.nx
  rt : Kon K G F μ DV.rt D.rt
  bk : KonR K G F μ DV.bk D.bk
  ct : KonR K G F μ DV.ct D.ct
  xk : DV.xk = nox
theorem KonS.mono {K : PySem.W.Frag} {G F F' : Hp} {μ μ' : List Addr} {DV : VM.Ends} {D : L2.Ends} (h : KonS K G F μ DV D) (e : Ext F μ F' μ') : KonS K G F' μ' DV D := ⟨h.nx.mono e, h.rt.mono e, h.bk.mono e, h.ct.mono e, h.xk⟩
def rS (K : PySem.W.Frag) (t : VM.TS) : L2.TS := fun D σ H => ∃ G F μ ρ st DV, Lay K G F μ st H ∧ EnvR K F μ σ ρ ∧ t DV ρ st ∧ KonS K G F μ DV D
abbrev VSt (X : Cx) (s : Stmt) (t : VM.TS) : Prop := PS X s (rS X.K t)
abbrev VB (X : Cx) (s : List Stmt) (t : VM.TS) : Prop := PSs X s (rS X.K t)
theorem ps_imp {s : Stmt} {t t' : L2.TS} (h : PS X s t) (hi : ∀ D σ H, t' D σ H → t D σ H) : PS X s t' := ⟨fun pins s σ H D I q => h.run pins s σ H D I (hi D σ H q)⟩
theorem pss_imp {s : List Stmt} {t t' : L2.TS} (h : PSs X s t) (hi : ∀ D σ H, t' D σ H → t D σ H) : PSs X s t' := ⟨fun pins s σ H D I q => h.run pins s σ H D I (hi D σ H q)⟩
variable {s1 : Stmt} {ss ss2 : List Stmt} {u u2 : VM.TS}
theorem vb_nil : VB X [] VM.sNil := pss_imp pss_nil fun D σ H h => by
  obtain ⟨G, F, μ, ρ, st, DV, l, r, d, hk⟩ := h
  exact hk.nx σ H F μ ρ st Ext.refl l r d
theorem vb_cons (h1 : VSt X s1 u) (h2 : VB X ss u2) : VB X (s1 :: ss) (VM.sCons u u2) := pss_imp (pss_cons h1 h2) fun D σ H h => by
  obtain ⟨G, F, μ, ρ, st, DV, l, r, d, hk⟩ := h
  exact ⟨G, F, μ, ρ, st, _, l, r, d, ⟨fun σ' H' F' μ' ρ' st' e l' r' q => ⟨G, F', μ', ρ', st', DV, l', r', q, hk.mono e⟩, hk.rt, hk.bk, hk.ct, hk.xk⟩⟩
theorem vb_one (h1 : VSt X s1 u) : VB X [s1] u := pss_one h1
theorem vs_expr (he : VE X e te) (hs : swapsWith e none pos.line X.env = pure false := by rfl) : VSt X (.Expr e pos) (VM.sExpr te) := ps_imp (ps_expr he hs) fun D σ H h => by
  obtain ⟨G, F, μ, ρ, st, DV, l, r, d, hk⟩ := h
  unfold VM.sExpr at d
  rw [hk.xk] at d
  exact bind1 l r d fun x H1 F1 μ1 px st1 e1 l1 r1 p1 q1 => hk.nx σ H1 F1 μ1 ρ st1 e1 l1 r1 q1
theorem vs_ret (he : VE X e te) : VSt X (.Return (some e) pos) (VM.sRet te) := ps_imp (ps_ret he) fun D σ H h => by
  obtain ⟨G, F, μ, ρ, st, DV, l, r, d, hk⟩ := h
  unfold VM.sRet at d
  rw [hk.xk] at d
  exact bind1 l r d fun x H1 F1 μ1 px st1 e1 l1 r1 p1 q1 => hk.rt x H1 F1 μ1 px st1 e1 l1 p1 q1
theorem vs_if (hc : VT X c t1) (ha : VB X ss u) (hb : VB X ss2 u2) : VSt X (.If c ss ss2 pos) (VM.sIf t1 u u2) := ps_imp (ps_if hc ha hb) fun D σ H h => by
  obtain ⟨G, F, μ, ρ, st, DV, l, r, d, hk⟩ := h
  unfold VM.sIf at d
  rw [hk.xk] at d
  refine bindT l r d fun b H1 F1 μ1 st1 e1 l1 r1 q1 => ?_
  cases b with
  | true =>
    rw [if_pos rfl] at q1 ⊢
    exact ⟨G, F1, μ1, ρ, st1, DV, l1, r1, q1, hk.mono e1⟩
  | false =>
    rw [if_neg Bool.false_ne_true] at q1 ⊢
    exact ⟨G, F1, μ1, ρ, st1, DV, l1, r1, q1, hk.mono e1⟩
theorem asg_imp {g : VM.TG} {sl : List Nat} {K : PySem.W.Frag} {D : L2.Ends} {σ : L2.St} {H : Hp} (h : rS K (VM.sSet g te) D σ H) : tAsg (rE K te) (rG K g sl) D σ H := by
  obtain ⟨G, F, μ, ρ, st, DV, l, r, d, hk⟩ := h
  unfold VM.sSet at d
  rw [hk.xk] at d
  exact bind1 l r d fun x H1 F1 μ1 px st1 e1 l1 r1 p1 q1 => ⟨G, F1, μ1, ρ, st1, _, px, l1, r1, p1, q1, fun σ' ρ' st' l' r' _ _ q => hk.nx σ' H1 F1 μ1 ρ' st' e1 l' r' q⟩
theorem vs_asg {g : VM.TG} {sl : List Nat} (he : VE X e te) (hg : VG X tg g sl) (hs : swapsWithSole [tg] e pos.line X.env = pure false := by rfl) (hw : swappedStores [tg] e X.env = pure none := by rfl)
    (h1 : (assignEach [tg] X.env).map (·.2) = [assign tg X.env] := by rfl) : VSt X (.Assign [tg] e pos) (VM.sSet g te) := ps_imp (ps_asg he hg hs hw h1) fun D σ H h => asg_imp h
theorem set_imp {i : Nat} {K : PySem.W.Frag} {D : L2.Ends} {σ : L2.St} {H : Hp} (h : rS K (VM.sSet (VM.gName i) te) D σ H) : tAsg (rE K te) (gName i) D σ H := by
  obtain ⟨G, F, μ, ρ, st, DV, l, r, d, hk⟩ := h
  unfold VM.sSet at d
  rw [hk.xk] at d
  exact bind1 l r d fun x H1 F1 μ1 px st1 e1 l1 r1 p1 q1 => hk.nx _ H1 F1 μ1 _ st1 e1 l1 (r1.set i p1) q1
theorem vs_set {i : Nat} {y : Str} {pos' : Pos} (hN : X.N.Nodup) (hi : X.N[i]? = some y) (hx : Loc X.env.scope y) (he : VE X e te) (hs : swapsWith e (some (.Name y pos')) pos.line X.env = pure false := by rfl) (hf : X.fn y = true ∨ X.env.scope.names.lookup y = some .local := by first | exact .inl rfl | exact .inr rfl | assumption) :
    VSt X (.Assign [.Name y pos'] e pos) (VM.sSet (VM.gName i) te) := ps_imp (ps_set hN hi hx he hs hf) fun D σ H h => set_imp h
theorem vs_setc {i0 : Nat} {y : Str} {py : Pos} {elt iter : Expr} {ifs : List Expr} {scope : Scope} {own : List (Str × Nat)} {spos : Pos} {i : VM.TI} {g : VM.TG} {t : VM.TT} {sl : List Nat} (hc : X.calm = true) (hN : X.N.Nodup) (hy : X.N[i0]? = some y) (hyl : X.env.scope.names.lookup y = some .local)
    (hsw : swapsWith (.ListComp elt [⟨tg, iter, ifs, 0⟩] scope pos) (some (.Name y py)) spos.line X.env = pure true) (ok : BlkOk X.N X.env.scope scope own) (hi : VI X tg iter i) (hsl : ∀ j ∈ sl, j ∈ own.map (·.2))
    (hg : ∀ [Wsh] s H C cl fp [TkX (BX X scope s H C cl fp)], VG (BX X scope s H C cl fp) tg g sl) (ht : ∀ [Wsh] s H C cl fp [TkX (BX X scope s H C cl fp)], PTs (BX X scope s H C cl fp) ifs (rT X.K t)) (he : ∀ [Wsh] s H C cl fp [TkX (BX X scope s H C cl fp)], VE (BX X scope s H C cl fp) elt te) (hs : ∀ x, foldedSetIterable iter X.env x = pure x := by intro _; rfl) :
    VSt X (.Assign [.Name y py] (.ListComp elt [⟨tg, iter, ifs, 0⟩] scope pos) spos) (VM.sSet (VM.gName i0) (VM.eComp i g t te (own.map (·.2)))) := ps_imp (ps_setLc hc hN hy hyl hsw hi ok (fun s H C cl fp => @hg (Wsh.no _) s H C cl fp (tkx_no _)) (fun s H C cl fp => @ht (Wsh.no _) s H C cl fp (tkx_no _)) (fun s H C cl fp => @he (Wsh.no _) s H C cl fp (tkx_no _)) hs) fun D σ H h =>
  lc_imp (wi := fun _ _ _ => True) hsl (show rE X.K _ σ H (fun x H1 => gName i0 x σ H1 D.nx) from set_imp h)
theorem ixN_of {n : Nat} {i : Int} {j : Nat} (h : VM.ix n i = some j) : ixN n i = some j := by
  unfold VM.ix at h
  unfold ixN
  split at h <;> rename_i h0
  · split at h <;> rename_i h1
    · cases h
      first
        | (rw [if_pos h0, if_pos h1])
        | (simp only [h0, h1, if_true]; omega)
        | (simp [h0, h1])
    · cases h
  · split at h <;> rename_i h1
    · cases h
      first
        | (rw [if_neg h0, if_pos h1])
        | (simp [h0, h1])
    · cases h
theorem vs_setix {o i : Expr} {p3 : Pos} (he : VE X e te) (ho : VE X o ta) (hi : VE X i tb)
    (ha : ∀ v, assign (.Subscript o i p3) X.env v = (do
      let ov ← holding [v] (eval o X.env)
      let iv ← holding [v, ov] (eval i X.env)
      standAt p3
      holding [v, ov, iv] (setItem ov iv v)
      release [v, ov, iv] []) := by intro _; rfl)
    (hs : swapsWithSole [.Subscript o i p3] e pos.line X.env = pure false := by rfl) (hw : swappedStores [.Subscript o i p3] e X.env = pure none := by rfl)
    (h1 : (assignEach [.Subscript o i p3] X.env).map (·.2) = [assign (.Subscript o i p3) X.env] := by rfl) : VSt X (.Assign [.Subscript o i p3] e pos) (VM.sSetIx ta tb te) :=
  ps_imp (ps_asg he (pg_sub ho hi set_list ha) hs hw h1) fun D σ H h => by
    obtain ⟨G, F, μ, ρ, st, DV, l, r, d, hk⟩ := h
    unfold VM.sSetIx at d
    rw [hk.xk] at d
    refine bind1 l r d fun w H1 F1 μ1 pw st1 e1 l1 r1 p1 q1 => bind1 l1 r1 q1 fun o H2 F2 μ2 po st2 e2 l2 r2 p2 q2 => bind1 l2 r2 q2 fun i H3 F3 μ3 pi st3 e3 l3 r3 p3 q3 => ?_
    unfold VM.setIx at q3
    split at q3
    · rename_i j z
      obtain rfl := rep_int.mp p3
      obtain ⟨a, ea, rfl⟩ := rep_ref.mp (p2.mono e3)
      split at q3
      · rename_i xs ex
        split at q3
        · rename_i n en
          obtain ⟨hf, vs, hh, rl⟩ := l3.obj j a _ ea ex
          refine ⟨a, vs, z, n, rfl, rfl, hh, ixN_of (by rw [rl.length]; exact en), hk.nx σ _ F3 μ3 ρ _ ((e1.trans e2).trans e3) (l3.put ea ?_ hf) r3 q3⟩
          exact ⟨hf, _, upd_same, rl.set n ((p1.mono e2).mono e3)⟩
        · exact q3.elim
      · exact q3.elim
    · exact q3.elim
theorem vs_for {iter : Expr} {body : List Stmt} {i : VM.TI} {g : VM.TG} {b : VM.TS} {sl : List Nat} (hp : PassesOwn (model X.prog X.w) X.A X.env X.xe) (hc : X.calm = true) (hi : VI X tg iter i) (hg : VG X tg g sl) (hb : VB X body b)
    (hs : ∀ x, foldedSetIterable iter X.env x = pure x := by intro _; rfl) : VSt X (.For tg iter body [] pos) (VM.sFor i g b) := ps_imp (ps_for hp hc hi hg hb hs) fun D σ H h => by
  obtain ⟨G, F, μ, ρ, st, DV, l, r, d, hk⟩ := h
  unfold VM.sFor at d
  rw [hk.xk] at d
  refine ⟨G, F, μ, ρ, st, _, l, r, d, fun J H1 F1 μ1 xs stay st1 e1 l1 w q => ?_⟩
  refine ⟨fun i m σ H => m = xs.length - i ∧ i ≤ xs.length ∧ ∃ F' μ' ρ' st', Ext F1 μ1 F' μ' ∧ Lay X.K G F' μ' st' H ∧ EnvR X.K F' μ' σ ρ' ∧ VM.forGo g b stay (xs.drop i) DV ρ' st',
    ⟨xs.length, by simp, Nat.zero_le _, F1, μ1, ρ, st1, Ext.refl, l1, r.mono e1, q⟩, ?_⟩
  rintro i m σ H ⟨rfl, hi, F', μ', ρ', st', e2, l2, r2, q2⟩
  by_cases hlt : i < xs.length
  · rw [List.drop_eq_getElem_cons hlt] at q2
    obtain ⟨hstay, q2⟩ := q2
    refine .inr ⟨w.goes _ H F' μ' st' i e2 l2 hstay hlt, fun σ' H' => xs.length - (i + 1) = xs.length - (i + 1) ∧ i + 1 ≤ xs.length ∧ ∃ F' μ' ρ' st', Ext F1 μ1 F' μ' ∧ Lay X.K G F' μ' st' H' ∧ EnvR X.K F' μ' σ' ρ' ∧ VM.forGo g b stay (xs.drop (i + 1)) DV ρ' st', fun σ' H' p' => ⟨xs.length - (i + 1), by omega, p'⟩, fun x H' hy => ?_⟩
    obtain ⟨F3, e3, l3, rx⟩ := w.yields _ H F' μ' st' i xs[i] x H' e2 l2 hstay (by simp [hlt]) hy
    refine ⟨G, F3, μ', ρ', st', _, xs[i], l3, r2.mono e3, rx, q2, fun σ4 ρ4 st4 l4 r4 _ _ q4 => ?_⟩
    have hk' := hk.mono ((e1.trans e2).trans e3)
    have again : ∀ (σ' : L2.St) (H' F5 : Hp) (μ5 : List Addr) (ρ5 : VM.Env) (st5 : Store), Ext F3 μ' F5 μ5 → Lay X.K G F5 μ5 st5 H' → EnvR X.K F5 μ5 σ' ρ5 → VM.forGo g b stay (xs.drop (i + 1)) DV ρ5 st5 → (xs.length - (i + 1) = xs.length - (i + 1) ∧ i + 1 ≤ xs.length ∧ ∃ F' μ' ρ' st', Ext F1 μ1 F' μ' ∧ Lay X.K G F' μ' st' H' ∧ EnvR X.K F' μ' σ' ρ' ∧ VM.forGo g b stay (xs.drop (i + 1)) DV ρ' st') :=
      fun σ' H' F5 μ5 ρ5 st5 e5 l5 r5 q5 => ⟨rfl, by omega, F5, μ5, ρ5, st5, (e2.trans e3).trans e5, l5, r5, q5⟩
    exact ⟨G, F3, μ', ρ4, st4, _, l4, r4, q4, ⟨again, hk'.rt, hk'.nx, again, hk'.xk⟩⟩
  · have e : i = xs.length := by omega
    subst e
    rw [List.drop_length] at q2
    exact .inl ⟨w.stops _ H F' μ' st' e2 l2 q2.1, hk.nx σ H F' μ' ρ' st' (e1.trans e2) l2 r2 q2.2⟩
end
end VS
end
section
namespace VS
open PySem PySem.Spec PyProof.Rows L2
open VM (PV SO Store)
variable [Lams] [Wsh]
def Kon0 (K : PySem.W.Frag) (G F : Hp) (μ : List Addr) (k : VM.KV) (Q : VK) : Prop := ∀ (v : V) (H' F' : Hp) (μ' : List Addr) (x : PV) (st' : Store), Ext F μ F' μ' → LayB K G F' μ' st' H' → Rep K F' μ' x v → k x st' → Q v H'
def KonX (K : PySem.W.Frag) (G F : Hp) (μ : List Addr) (x : VM.KV) (E : XK) : Prop := ∀ (cls : Value) (d : Option Addr) (H' F' : Hp) (μ' : List Addr) (px : PV) (st' : Store), Ext F μ F' μ' → LayB K G F' μ' st' H' → RepX K F' μ' px cls d → x px st' → E cls d H'
def spOf (K : PySem.W.Frag) (cs : VM.CS) (f np : Nat) : Sp := fun vs H Q E => vs.length = np ∧ ∃ G F μ st pxs k x, LayB K G F μ st H ∧ RepL K F μ pxs vs ∧ cs f pxs st k x ∧ Kon0 K G F μ k Q ∧ KonX K G F μ x E
section
variable {K : PySem.W.Frag} {G F F' : Hp} {μ μ' : List Addr} {st st' : Store} {H H' : Hp} {k : VM.KV} {Q : VK}
theorem Lay.back (l : Lay K G F μ st H) (e : Ext F μ F' μ') (b : LayB K G F' μ' st' H') : Lay K G F' μ' st' H' := { b with gw := l.gw, gx := l.gx, we := l.we.trans e, wk := l.wk }
theorem Kon.kon0 (l : Lay K G F μ st H) (h : Kon K G F μ k Q) : Kon0 K G F μ k Q := fun v H' F' μ' x st' e b r q => h v H' F' μ' x st' e (l.back e b) r q
theorem LayB.less (b : LayB K G F μ st H) {G' : Hp} (h1 : ∀ a o, G' a = some o → G a = some o) (h2 : ∀ a o, G a = some (ExO a o) → G' a = some (ExO a o)) : LayB K G' F μ st H where
  gd := fun a o e => b.gd a o (h1 a o e)
  same := b.same
  len := b.len
  nd := b.nd
  there := b.there
  obj := fun i a o e1 e2 => (b.obj i a o e1 e2).mono Ext.refl rfl rfl h2
  tab := fun p hp => by
    obtain ⟨a1, a2⟩ := b.tab p hp
    refine ⟨?_, a2⟩
    cases e : G' p.1 with
    | none => rfl
    | some o =>
      rw [h1 _ _ e] at a1
      cases a1
theorem Lay.konX (l : Lay K G F μ st H) : KonX K G F μ nox Wsh.E := fun cls d H' F' μ' px st' e b r q => by
  have hk := l.wk
  subst hk
  exact Wsh.ok cls d H' F' μ' px st' (l.we.trans e) (b.less l.gw l.gx) r q
theorem sp_of {cs : VM.CS} {f np : Nat} {pxs : List PV} {vs : List V} (hn : pxs.length = np) (l : Lay K G F μ st H) (r : RepL K F μ pxs vs) (h : cs f pxs st k nox) (hk : Kon K G F μ k Q) : spOf K cs f np vs H Q Wsh.E :=
  ⟨r.length.trans hn, G, F, μ, st, pxs, k, nox, l.toLayB, r, h, hk.kon0 l, l.konX⟩
theorem Kon0.mono (h : Kon0 K G F μ k Q) (e : Ext F μ F' μ') : Kon0 K G F' μ' k Q := fun v H2 F2 μ2 y st2 e2 => h v H2 F2 μ2 y st2 (e.trans e2)
theorem KonX.mono {x : VM.KV} {E : XK} (h : KonX K G F μ x E) (e : Ext F μ F' μ') : KonX K G F' μ' x E := fun c d H2 F2 μ2 y st2 e2 => h c d H2 F2 μ2 y st2 (e.trans e2)
@[reducible] def wshOf (K : PySem.W.Frag) (G F : Hp) (μ : List Addr) (x : VM.KV) (E : XK) (h : KonX K G F μ x E) : Wsh := ⟨K, G, F, μ, x, E, h⟩
theorem LayB.lay {x : VM.KV} {E : XK} {h : KonX K G F μ x E} (b : LayB K G F μ st H) : @Lay _ (wshOf K G F μ x E h) K G F μ st H := @Lay.mk _ (wshOf K G F μ x E h) _ _ _ _ _ _ b (fun _ _ z => z) (fun _ _ z => z) Ext.refl rfl
@[reducible] def wshN (K : PySem.W.Frag) (G F : Hp) (μ : List Addr) : Wsh := ⟨K, G, F, μ, fun _ _ => False, fun _ _ _ => False, fun _ _ _ _ _ _ _ _ _ _ h => h⟩
theorem Kon0.kon {W : Wsh} (h : Kon0 K G F μ k Q) : @Kon _ W K G F μ k Q := fun v H' F' μ' x st' e l r q => h v H' F' μ' x st' e (@Lay.toLayB _ W _ _ _ _ _ _ l) r q
end
section
variable {X : Cx} {a b c e o : Expr} {ta tb tc te : VM.TE} {t1 t2 : VM.TT} {pos p2 p : Pos} {es rest : List Expr} {tas : VM.TA} {x : Str} {tg : Expr} {k : Nat} {f : Addr} {fd : FuncData} {ps : List Str} {cs : VM.CS} {i : Nat}
theorem ve_call [TkX X] (F : FnOk X.prog X.w X.K X.mg X.base (L2.CX X.prog X.w) k f fd ps (spOf X.K cs i ps.length)) (hr : Room k X.A) (hm : X.mg x = some (.ref f)) (hk : PySem.W.keepIn X.K (.ref f) = true) (hb : Binds X.K fd ps []) (hn : ∀ us st k x, cs i us st k x → us.length = ps.length) (hg : Gl X x) (ha : VA X (e :: es) tas)
    (hdb : (x == ("__debug__" : Str)) = false := by decide) (he : starEach (e :: es) X.env = (false, eval e X.env) :: starEach es X.env := by rfl) (hpl : (backTo pos (starEach es X.env)).any (·.1) = false := by rfl) :
    VE X (.Call (.Name x p) (e :: es) [] pos) (VM.eCall cs i tas) := pe_imp (pe_call (E := Wsh.E) F hr hg hm hk hb .nil TkX.pass ha hdb he hpl) fun σ H Q h => by
  obtain ⟨G, F, μ, ρ, st, k, l, r, d, hk⟩ := h
  refine bindA l r d fun vs H1 F1 μ1 pvs st1 e1 l1 r1 p1 q1 => ?_
  rw [List.append_nil]
  exact sp_of (hn _ _ _ _ q1) l1 p1 q1 (hk.mono e1)
def LkF (K : PySem.W.Frag) (f : Addr) (fd : FuncData) : Prop := ∃ (oc : Value) (od : Option Addr) (osl : Array (Option Value)), K.lookup f = some ⟨oc, od, .func fd, osl⟩
structure Callee (P : Program) (w : World) (K : PySem.W.Frag) (mg : Str → Option Value) (base : Heap) (x : Str) (cs : VM.CS) (k i : Nat) (ps : List Str) : Prop where
  ok : ∃ f fd, FnOk P w K mg base (L2.CX P w) k f fd ps (spOf K cs i ps.length) ∧ mg x = some (.ref f) ∧ PySem.W.keepIn K (.ref f) = true ∧ Binds K fd ps [] ∧ LkF K f fd
  len : ∀ us st k x, cs i us st k x → us.length = ps.length
theorem ve_calle [TkX X] (C : Callee X.prog X.w X.K X.mg X.base x cs k i ps) (hr : Room k X.A) (hg : Gl X x) (ha : VA X (e :: es) tas)
    (hdb : (x == ("__debug__" : Str)) = false := by decide) (he : starEach (e :: es) X.env = (false, eval e X.env) :: starEach es X.env := by rfl) (hpl : (backTo pos (starEach es X.env)).any (·.1) = false := by rfl) :
    VE X (.Call (.Name x p) (e :: es) [] pos) (VM.eCall cs i tas) := by
  obtain ⟨f, fd, F, hm, hk, hb, _⟩ := C.ok
  exact ve_call F hr hm hk hb C.len hg ha hdb he hpl
theorem ve_insert {i : Expr} {ti : VM.TE} {apos cpos : Pos} (ho : VE X o ta) (hi : VE X i ti) (he : VE X e te)
    (hbase : attributeBase o "insert" X.env (eval o X.env) = eval o X.env := by rfl)
    (hfew : ((backTo cpos (starEach [i, e] X.env)).all (fun x => !x.1) && (backToKw cpos (keywordEach [] X.env)).all (fun x => x.1.isSome)
      && decide ([i, e].length + ([] : List Keyword).length + (if ([] : List Keyword).isEmpty then 0 else 1) < 30)) = true := by rfl)
    (hline : (apos.endLine == cpos.line) = true := by rfl) (hs : starEach [i, e] X.env = (false, eval i X.env) :: starEach [e] X.env := by rfl) (hs2 : starEach [e] X.env = (false, eval e X.env) :: starEach [] X.env := by rfl) (hplain : (backTo cpos (starEach [e] X.env)).any (·.1) = false := by rfl) :
    VE X (.Call (.Attribute o "insert" apos) [i, e] [] cpos) (VM.eInsert ta ti te) := pe_imp (pe_bm PySem.F.plainAttrs_list PySem.F.slot_list_insert PySem.F.type_list_insert mt_insert ho (pa_cons hi (pa_cons he pa_nil hs2) hs) hbase hfew hline hs hplain) fun σ H Q h => by
  obtain ⟨G, F, μ, ρ, st, k, l, r, d, hk⟩ := h
  refine bind1 l r d fun x H1 F1 μ1 px st1 e1 l1 r1 p1 q1 => ?_
  obtain ⟨hl, q1⟩ := q1
  refine ⟨?_, ?_⟩
  · obtain ⟨xs, hx⟩ := Option.isSome_iff_exists.mp hl
    obtain ⟨a, vs, rfl, h1, _⟩ := asL_rep l1 p1 hx
    exact .inl ⟨rfl, vs, .inl (.inl h1)⟩
  · refine bind1 l1 r1 q1 fun z H2 F2 μ2 pz st2 e2 l2 r2 p2 q2 => bind1 l2 r2 q2 fun y H3 F3 μ3 py st3 e3 l3 r3 p3 q3 => ?_
    split at q3
    · rename_i j n
      obtain rfl := rep_int.mp p2
      obtain ⟨a, ea, rfl⟩ := rep_ref.mp ((p1.mono e2).mono e3)
      split at q3
      · rename_i xs ex
        obtain ⟨h0, h1, h2, q3⟩ := q3
        obtain ⟨hf, vs, hh, rl⟩ := l3.obj j a _ ea ex
        refine ⟨a, vs, n, y, rfl, rfl, hh, by rw [rl.length, sizeLine_eq]; exact h2, h0, by omega, (hk.mono ((e1.trans e2).trans e3)) .non _ F3 μ3 .non _ Ext.refl (l3.put ea ?_ hf) (rep_non.mpr rfl) q3⟩
        exact ⟨hf, _, upd_same, ((rl.take n.toNat).append (repL_cons.mpr ⟨y, [], rfl, p3, repL_nil.mpr rfl⟩)).append (rl.drop n.toNat)⟩
      · exact q3.elim
    · exact q3.elim
end
theorem envR_start {K : PySem.W.Frag} {F : Hp} {μ : List Addr} {N : List Str} {Fd : VM.FD} {pxs : List PV} {vs : List V} (r : RepL K F μ pxs vs) (hn : pxs.length = Fd.np) (hs : Fd.ns = N.length) : EnvR K F μ (L2.start N vs) (VM.start Fd pxs) := by
  have hl := r.length
  refine ⟨by simp [L2.start, VM.start, hl, hs, hn], fun i x q => ?_⟩
  unfold VM.start at q
  unfold L2.start
  by_cases hi : i < pxs.length
  · rw [List.getElem?_append_left (by simpa using hi), List.getElem?_map] at q
    cases e : pxs[i]? with
    | none => rw [e] at q; cases q
    | some y =>
      rw [e] at q
      cases q
      obtain ⟨v, h1, h2⟩ := r.get e
      exact ⟨v, by rw [List.getElem?_append_left (by simp [hl]; exact hi), List.getElem?_map, h1]; rfl, h2⟩
  · rw [List.getElem?_append_right (by simpa using hi)] at q
    have := List.mem_of_getElem? q
    simp at this
theorem fn_zero {P : Program} {w : World} {K : PySem.W.Frag} {mg : Str → Option Value} {base : Heap} {FT : Nat → Option VM.FD} {k i : Nat} {f : Addr} {fd : FuncData} {ps : List Str} : FnOk P w K mg base (L2.CX P w) k f fd ps (spOf K (VM.callN FT 0) i ps.length) :=
  ⟨fun _ _ _ _ h => h.1, fun A outer s H args us vs Q E hr e0 hb hv h => by
    obtain ⟨_, G, F, μ, st, pxs, k, x, _, _, d, _⟩ := h
    exact d.elim⟩
theorem callN_len {FT : Nat → Option VM.FD} {n i : Nat} {Fd : VM.FD} {m : Nat} (hF : FT i = some Fd) (hm : Fd.np = m) {us : List PV} {st : Store} {k x : VM.KV} (h : VM.callN FT n i us st k x) : us.length = m := by
  cases n with
  | zero => exact h.elim
  | succ n =>
    unfold VM.callN at h
    rw [hF] at h
    exact h.1.trans hm
theorem body_of {P : Program} {w : World} {K : PySem.W.Frag} {mg : Str → Option Value} {base : Heap} {FT : Nat → Option VM.FD} {n k i m : Nat} {qual : Str} {body : List Stmt} {scope : Scope} {f : Addr} {N : List Str} {Fd : VM.FD} (hF : FT i = some Fd) (hs : Fd.ns = N.length)
    (hb : ∀ [Wsh] (cdv : Value) (A : Around) (outer : List Env) (s : Shared) (H : Hp) [TkX (cxOf (L2.CX P w) P w K mg base N qual scope f cdv A outer s H Wsh.E)], Room k (A.deeper (envOfC qual scope s.heap.objs.size f cdv)) → VB (cxOf (L2.CX P w) P w K mg base N qual scope f cdv A outer s H Wsh.E) body (Fd.body (VM.callN FT n)))
    {cdv : Value} {A : Around} {outer : List Env} {s : Shared} {H : Hp} {vs : List V} {Q : VK} {E : XK} (hr : Room k (A.deeper (envOfC qual scope s.heap.objs.size f cdv))) (h : spOf K (VM.callN FT (n + 1)) i m vs H Q E) :
    ∃ t, PSs (cxOf (L2.CX P w) P w K mg base N qual scope f cdv A outer s H E) body t ∧ t { nx := fun _ H' => Q .non H', rt := Q } (L2.start N vs) H := by
  obtain ⟨_, G, F, μ, st, pxs, k, x, l, r, d, hk, hx⟩ := h
  unfold VM.callN at d
  rw [hF] at d
  obtain ⟨hl, d⟩ := d
  refine ⟨_, @hb (wshOf K G F μ x E hx) cdv A outer s H (@TkX.mk _ (wshOf K G F μ x E hx) _ (takes_of rfl rfl rfl rfl)) hr, ?_⟩
  exact ⟨G, F, μ, _, st, _, l.lay, envR_start r hl hs, d, @KonS.mk _ (wshOf K G F μ x E hx) _ _ _ _ _ _ (fun σ' H' F' μ' ρ' st' e l' r' q => hk .non H' F' μ' .non st' e (@Lay.toLayB _ (wshOf K G F μ x E hx) _ _ _ _ _ _ l') (rep_non.mpr rfl) q) hk.kon (fun _ _ _ _ _ _ _ _ _ q => q.elim) (fun _ _ _ _ _ _ _ _ _ q => q.elim) rfl⟩
theorem fn_succ {P : Program} {w : World} {K : PySem.W.Frag} {mg : Str → Option Value} {base : Heap} {FT : Nat → Option VM.FD} {n k i : Nat} {x qual : Str} {params : Arguments} {body : List Stmt} {scope : Scope} {f : Addr} {fd : FuncData} {N ps : List Str} {Fd : VM.FD}
    {dvs : List V} {kws : List (Str × V)} (F : FunD K x qual params body scope dvs kws f fd) (S : FnScope N ps scope) (hF : FT i = some Fd) (hp : Fd.np = ps.length) (hs : Fd.ns = N.length)
    (hb : ∀ [Wsh] (cdv : Value) (A : Around) (outer : List Env) (s : Shared) (H : Hp) [TkX (cxOf (L2.CX P w) P w K mg base N qual scope f cdv A outer s H Wsh.E)], Room k (A.deeper (envOfC qual scope s.heap.objs.size f cdv)) → VB (cxOf (L2.CX P w) P w K mg base N qual scope f cdv A outer s H Wsh.E) body (Fd.body (VM.callN FT n))) :
    FnOk P w K mg base (L2.CX P w) (k + 1) f fd ps (spOf K (VM.callN FT (n + 1)) i ps.length) := by
  exact F.ok S (fun vs H Q E h => h.1) fun cdv A outer s H vs Q E hr h => body_of hF hs hb hr h
theorem lk_of {K : PySem.W.Frag} {x qual : Str} {params : Arguments} {body : List Stmt} {scope : Scope} {dvs : List V} {kws : List (Str × V)} {f : Addr} {fd : FuncData} (F : FunD K x qual params body scope dvs kws f fd) : LkF K f fd := by
  obtain ⟨oc, od, dV, kV, doc, pm, an, cdv, ct, osl, rfl, lk, _⟩ := F.ex
  exact ⟨oc, od, osl, lk⟩
theorem lk_inj {K : PySem.W.Frag} {f : Addr} {fd fd' : FuncData} (a : LkF K f fd) (b : LkF K f fd') : fd = fd' := by
  obtain ⟨oc, od, osl, e⟩ := a
  obtain ⟨oc', od', osl', e'⟩ := b
  rw [e] at e'
  injection e' with e'
  injection e' with _ _ e' _
  injection e'
omit [Wsh] in
theorem layB_start {K : PySem.W.Frag} {F H : Hp} (hF : SameD F H) (hT : ∀ p ∈ lamT K, F p.1 = none ∧ H p.1 = some (.tbl #[])) : LayB K (fun _ => none) F [] [] H where
  gd := fun _ _ e => by cases e
  same := hF
  len := rfl
  nd := List.nodup_nil
  there := fun _ h => (List.not_mem_nil h).elim
  obj := fun _ _ _ h => by cases h
  tab := fun p hp => ⟨rfl, (hT p hp).1, List.not_mem_nil, #[], (hT p hp).2, True.intro, fun pos cv e => by
    have z : codeAmong pos [] = some cv := e
    simp [codeAmong] at z⟩
@[reducible] def W0 [Lams] (K : PySem.W.Frag) : Wsh := ⟨K, fun _ => none, fun _ => none, [], fun _ _ => False, fun _ _ _ => False, fun _ _ _ _ _ _ _ _ _ _ h => h⟩
omit [Wsh] in
theorem sp_law {K : PySem.W.Frag} {cs : VM.CS} {f : Nat} {H : Hp} {a : Addr} {is : List Int} {E : XK} (hT : ∀ p ∈ lamT K, H p.1 = some (.tbl #[])) (hS : SqL K H a (is.map V.int)) (h : cs f [.scr is] [] (fun v _ => v = .bl true) fun _ _ => False) : spOf K cs f 1 [.ref a] H (fun v _ => v = .bl true) E := by
  letI : Wsh := W0 K
  have fin : ∀ F : Hp, SameD F H → (∀ p ∈ lamT K, F p.1 = none) → SqL K F a (is.map V.int) → spOf K cs f 1 [.ref a] H (fun v _ => v = .bl true) E := fun F h1 h2 h3 =>
    ⟨rfl, fun _ => none, F, [], [], [.scr is], _, _, layB_start h1 fun p hp => ⟨h2 p hp, hT p hp⟩, repL_cons.mpr ⟨.ref a, [], rfl, rep_scr.mpr ⟨a, rfl, h3⟩, repL_nil.mpr rfl⟩, h, fun v H' F' μ' x st' e l r q => by
      subst q
      exact rep_bl.mp r, fun _ _ _ _ _ _ _ _ _ _ q => q.elim⟩
  have at_ : ∀ o, H a = some o → (∀ ps, o ≠ .tbl ps) → SqL K (fun b => if b = a then H b else none) a (is.map V.int) → spOf K cs f 1 [.ref a] H (fun v _ => v = .bl true) E := fun o e hn s => by
    refine fin _ (fun b o' e' => ?_) (fun p hp => ?_) s
    · by_cases hb : b = a
      · rw [if_pos hb] at e'
        exact e'
      · rw [if_neg hb] at e'
        cases e'
    · by_cases hb : p.1 = a
      · have z := hT p hp
        rw [hb, e] at z
        exact (hn _ (Option.some.inj z)).elim
      · exact if_neg hb
  rcases hS with (h1 | ⟨o, h1⟩) | h1
  · exact at_ _ h1 (fun _ z => by cases z) (.inl (.inl (by simpa using h1)))
  · exact at_ _ h1 (fun _ z => by cases z) (.inl (.inr ⟨o, by simpa using h1⟩))
  · exact fin (fun _ => none) (fun _ _ e => by cases e) (fun _ _ => rfl) (.inr h1)
end VS
end
section
namespace VO
open PySem PySem.W PySem.Calls PyProof.Rows
section
variable {prog : Program} {w : World} {A : Around} {E : Value → Shared → Prop} {s : Shared} {K : Frag} {x y C f : Addr} {ox oy : Obj} {od od' : Option Obj}
def Plain (y : Addr) (s : Shared) : Prop := ∃ C dx, s.heap.get? y = some (instObj C dx)
end
end VO
end
section
namespace VS
open PySem PySem.Spec PyProof.Rows L2
open VM (PV SO Store)
variable [Lams] [Wsh]
structure FC (P : Program) (w : World) (K : PySem.W.Frag) (mg : Str → Option Value) (base : Heap) (cs : VM.CS) (k i : Nat) (f : Addr) : Prop where
  ex : ∃ fd ps, FnOk P w K mg base (L2.CX P w) k f fd ps (spOf K cs i ps.length) ∧ Binds K fd ps [] ∧ ∀ us st k x, cs i us st k x → us.length = ps.length
structure CI (K : PySem.W.Frag) (c : Nat) : Prop where
  cls : Cls K (cA K c)
  ha : PySem.W.findIn K (.ref (cA K c)) "__class__" = some (some (.builtin "object.__class__"))
  hn : PySem.W.specialIn K (.builtin "object.__class__") "__get__" = some (some (.builtin "getset_descriptor.__get__"))
  htk : PySem.W.takesIn K (.builtin "object.__class__") = some true
  hm : PySem.W.mroIn K (cA K c) (.type "object") = some true
  sf : PySem.W.selfFirst K (cA K c) = true
section
variable (P : Program) (w : World) (K : PySem.W.Frag) (mg : Str → Option Value) (base : Heap) (cs : VM.CS) (k : Nat)
end
section
variable {X : Cx} {a b c e o : Expr} {ta tb tc te : VM.TE} {t1 t2 : VM.TT} {pos p2 p apos : Pos} {es rest : List Expr} {tas : VM.TA} {x m : Str} {k : Nat} {f : Addr} {cs : VM.CS} {i n : Nat} [TkX X]
end
end VS
end
section
namespace VS
open PySem PySem.Spec PyProof.Rows L2
open VM (PV SO Store)
variable [Lams] [Wsh]
section
variable {K : PySem.W.Frag} {G F F' : Hp} {μ μ' : List Addr} {H : Hp} {st : Store}
end
structure FCD (P : Program) (w : World) (K : PySem.W.Frag) (mg : Str → Option Value) (base : Heap) (cs : VM.CS) (k i : Nat) (f : Addr) (dvs : List V) : Prop where
  ex : ∃ fd ps ds, FnOk P w K mg base (L2.CX P w) k f fd ps (spOf K cs i ps.length) ∧ Binds K fd ps ds ∧ Vals dvs ds ∧ ∀ us st k x, cs i us st k x → us.length = ps.length
theorem FC.d {P : Program} {w : World} {K : PySem.W.Frag} {mg : Str → Option Value} {base : Heap} {cs : VM.CS} {k i : Nat} {f : Addr} (C : FC P w K mg base cs k i f) : FCD P w K mg base cs k i f [] := by
  obtain ⟨fd, ps, h1, h2, h3⟩ := C.ex
  exact ⟨fd, ps, [], h1, h2, .nil, h3⟩
section
variable {X : Cx} {a b c e o : Expr} {ta tb tc te : VM.TE} {t1 t2 : VM.TT} {pos p2 p apos : Pos} {es rest : List Expr} {tas : VM.TA} {x m : Str} {k : Nat} {f : Addr} {cs : VM.CS} {i n : Nat} [TkX X]
end
end VS
end
section
namespace VS
open PySem PySem.Spec PyProof.Rows L2
open VM (PV SO Store)
variable [Lams] [Wsh]
structure IntOp (op : Operator) : Prop where
  fill : fillsNumberSlot (.type "int") op.info.2 = pure true
  ex : ∃ id B, Slot "int" (PySem.dunder op.info.2) id ∧ entryFor table id = some B ∧ ∀ (i : Int) (tk : Tok) (y : Addr), argsOk id ⟨[.int i tk, .ref y], []⟩ ∧ GivesAt (VO.Plain y) (B ⟨[.int i tk, .ref y], []⟩) (.val .notImplemented)
section
variable (P : Program) (w : World) (K : PySem.W.Frag) (mg : Str → Option Value) (base : Heap) (cs : VM.CS) (k : Nat)
end
section
variable {X : Cx} {a b c e o : Expr} {ta tb tc te : VM.TE} {t1 t2 : VM.TT} {pos p2 p apos : Pos} {es rest : List Expr} {tas : VM.TA} {x m : Str} {k : Nat} {f : Addr} {cs : VM.CS} {i n : Nat} [TkX X]
end
end VS
end
section
namespace VS
open PySem PySem.Spec PyProof.Rows L2
open VM (PV SO Store)
variable [Lams] [Wsh]
section
variable {X : Cx} {a b c e o : Expr} {ta tb tc te : VM.TE} {t1 t2 : VM.TT} {pos p2 p apos : Pos} {es rest : List Expr} {tas : VM.TA} {x m : Str} {k : Nat} {f : Addr} {cs : VM.CS} {i n : Nat} [TkX X]
end
end VS
end
section
namespace VS
open PySem PySem.Spec PyProof.Rows L2
variable [Lams] [Wsh]
theorem dv_fn {base : Heap} {P : Program} {N ps : List Str} {qual : Str} {scope : Scope} {L f : Addr} {cdv : Value} {outer : List PySem.Env} {A : Around} {n : Nat} (hS : base.NoSeer) (hT : P.given.tree = none) (S : FnScope N ps scope) (hr : Room (n + 40) (A.deeper (envOfC qual scope L f cdv))) :
    Dv base P (envOfC qual scope L f cdv :: outer) (A.deeper (envOfC qual scope L f cdv)) :=
  ⟨hS, hT, ⟨_, _, rfl, S.gen, S.co, rfl, rfl⟩, by have := hr.dp; unfold Builtin.pylongFrames; omega⟩
def LeK (K K' : PySem.W.Frag) : Prop := ∀ a o, K.lookup a = some o → K'.lookup a = some o
theorem FunD.le {K K' : PySem.W.Frag} {x qual : Str} {params : Arguments} {body : List Stmt} {scope : Scope} {f : Addr} {fd : FuncData} (F : FunD K x qual params body scope [] [] f fd) (h : LeK K K') : FunD K' x qual params body scope [] [] f fd := by
  obtain ⟨⟨oc, od, dV, kV, doc, pm, an, cdv, ct, osl, e, lk, hcd, hD, hK⟩, kp⟩ := F
  refine ⟨⟨oc, od, dV, kV, doc, pm, an, cdv, ct, osl, e, h _ _ lk, ?_, ?_, .inl rfl⟩, ?_⟩
  · unfold PySem.W.codeIn at hcd ⊢
    split at hcd
    · split at hcd
      · rename_i q
        rw [h _ _ q]
        exact hcd
      · cases hcd
    · cases hcd
  · rcases hD with hD | ⟨hD, _⟩
    · exact .inl hD
    · exact (hD rfl).elim
  · unfold PySem.W.keepIn
    show (match K'.lookup f with | some ⟨_, _, .func _, _⟩ => true | some ⟨_, _, .cls _, _⟩ => PySem.W.specialIn K' (.ref f) "__call__" == some (some (.builtin "type.__call__")) | _ => false) = true
    rw [h _ _ lk]
end VS
end
section
namespace VS
open PySem PySem.Spec PyProof.Rows L2
variable [Lams] [Wsh]
def asV (g : Addr → Option Obj) (n : Nat) : List Addr := He.asD g n ++ [cStatics, sysModules, builtinsNs]
def seerB (K : PySem.W.Frag) : Bool := (K.lookup cStatics).isSome && ((K.lookup sysModules).isSome && ((K.lookup builtinsNs).isSome && ((K.lookup mainGlobals).isSome && ((K.lookup (He.ga K "__builtins__")).isSome && (He.Fa.glo "__builtins__").ok K))))
theorem in_same {K : PySem.W.Frag} {h base : Heap} {a : Addr} {o : Obj} (X : K.In h) (B : K.In base) (hk : (K.lookup a).isSome = true) (e : h.get? a = some o) : base.get? a = some o := by
  obtain ⟨o', e'⟩ := Option.isSome_iff_exists.mp hk
  have := X _ _ e'
  rw [e] at this
  cases this
  exact B _ _ e'
theorem seer_of {K : PySem.W.Frag} {h : Heap} (X : K.In h) (S : h.NoSeer) (hs : seerB K = true) : ∀ base : Heap, K.In base → base.NoSeer := by
  unfold seerB at hs
  simp only [Bool.and_eq_true] at hs
  obtain ⟨k1, k2, k3, k4, k5, k6⟩ := hs
  obtain ⟨⟨mc, ⟨o1, es1, ep1, g1, d1⟩, c1, c2⟩, ⟨mm, ⟨o2, es2, ep2, g2, d2⟩, m1⟩, ⟨mb, ⟨o3, es3, ep3, g3, d3⟩, b1⟩, ⟨mg, bm, ob, ⟨o4, es4, ep4, g4, d4⟩, w1, w2, w3, w4⟩⟩ := S
  have hb := He.glo_ok X ⟨o4, es4, ep4, g4, d4⟩ k6
  rw [w1] at hb
  have ebm : bm = He.ga K "__builtins__" := by
    injection hb with hb
    injection hb
  intro base B
  exact ⟨⟨mc, ⟨o1, es1, ep1, in_same X B k1 g1, d1⟩, c1, c2⟩, ⟨mm, ⟨o2, es2, ep2, in_same X B k2 g2, d2⟩, m1⟩, ⟨mb, ⟨o3, es3, ep3, in_same X B k3 g3, d3⟩, b1⟩, ⟨mg, bm, ob, ⟨o4, es4, ep4, in_same X B k4 g4, d4⟩, w1, in_same X B (by rw [ebm]; exact k5) w2, w3, w4⟩⟩
def mA (K : PySem.W.Frag) (c : Nat) (m : Str) : Addr := He.ma K (cA K c) m
structure DefV where
  adr : PySem.W.Frag → Addr
  name : Str
  qual : Str
  params : Arguments
  body : List Stmt
  scope : Scope
  dfl : List He.Dv := []
def fnV (K : PySem.W.Frag) (a : Addr) : He.FnW := match K.lookup a with
  | some ⟨_, _, .func fd, _⟩ => some (fd.name, fd.qualname, fd.params, fd.body, fd.scope, fd.globals, fd.closure, fd.builtins)
  | _ => none
def DefV.val (d : DefV) : He.FnW := some (d.name, d.qual, d.params, .stmts d.body, d.scope, mainGlobals, [], builtinsNs)
def DefV.dvs (K : PySem.W.Frag) (d : DefV) : List V := d.dfl.map (He.Dv.v K)
def DefV.ok (K : PySem.W.Frag) (d : DefV) : Bool := (match K.lookup (d.adr K) with
  | some ⟨_, _, .func fd, _⟩ => PySem.W.codeIn K fd.code d.qual && (He.dflB K fd.defaults (d.dvs K) && He.kwdB K fd.kwdefaults [])
  | _ => false) && PySem.W.keepIn K (.ref (d.adr K))
theorem DefV.funD {K : PySem.W.Frag} {d : DefV} (hv : fnV K (d.adr K) = d.val) (ho : d.ok K = true) : ∃ fd, FunD K d.name d.qual d.params d.body d.scope (d.dvs K) [] (d.adr K) fd := by
  unfold DefV.ok at ho
  rw [Bool.and_eq_true] at ho
  obtain ⟨o1, kp⟩ := ho
  unfold fnV at hv
  cases lk : K.lookup (d.adr K) with
  | none => rw [lk] at o1; cases o1
  | some ob =>
    obtain ⟨oc, od, dt, osl⟩ := ob
    rw [lk] at o1 hv
    cases dt with
    | func fd =>
      obtain ⟨m1, m2, m3, m4, m5, m6, m7, m8, m9, m10, m11, m12, m13, m14, m15⟩ := fd
      have ev : (some (m1, m2, m3, m4, m5, m6, m7, m15) : He.FnW) = some (d.name, d.qual, d.params, .stmts d.body, d.scope, mainGlobals, [], builtinsNs) := hv
      simp only [Option.some.injEq, Prod.mk.injEq] at ev
      obtain ⟨q1, q2, q3, q4, q5, q6, q7, q8⟩ := ev
      subst q1 q2 q3 q4 q5 q6 q7 q8
      have oo : (PySem.W.codeIn K m13 d.qual && (He.dflB K m8 (d.dvs K) && He.kwdB K m9 [])) = true := o1
      simp only [Bool.and_eq_true] at oo
      exact ⟨_, ⟨oc, od, m8, m9, m10, m11, m12, m13, m14, osl, rfl, lk, oo.1, He.dflB_ok oo.2.1, He.kwdB_ok oo.2.2⟩, kp⟩
    | _ => cases o1
abbrev AlV : Type := Bool × List He.FnW
def obsV (fa : List He.Fa) (fn : List DefV) (ex : PySem.W.Frag → Bool) (K : PySem.W.Frag) : AlV := ((fa.all fun f => f.ok K) && ((fn.all fun d => d.ok K) && (ex K && seerB K)), fn.map fun d => fnV K (d.adr K))
def valV (fn : List DefV) : AlV := (true, fn.map DefV.val)
def SaysV (fa : List He.Fa) (fn : List DefV) (ex : PySem.W.Frag → Bool) (K : PySem.W.Frag) : Prop := obsV fa fn ex K = valV fn
section
variable {fa : List He.Fa} {fn : List DefV} {ex : PySem.W.Frag → Bool} {K : PySem.W.Frag}
theorem SaysV.b (c : SaysV fa fn ex K) : (fa.all fun f => f.ok K) = true ∧ (fn.all fun d => d.ok K) = true ∧ ex K = true ∧ seerB K = true := by
  have h : ((fa.all fun f => f.ok K) && ((fn.all fun d => d.ok K) && (ex K && seerB K))) = true := congrArg (fun z : AlV => z.1) c
  simp only [Bool.and_eq_true] at h
  exact ⟨h.1, h.2.1, h.2.2.1, h.2.2.2⟩
theorem SaysV.fact (c : SaysV fa fn ex K) (i : Nat) {f : He.Fa} (h : fa[i]? = some f := by rfl) : f.ok K = true := List.all_eq_true.mp c.b.1 f (List.mem_of_getElem? h)
theorem SaysV.def_ (c : SaysV fa fn ex K) (i : Nat) {d : DefV} (h : fn[i]? = some d := by rfl) : ∃ fd, FunD K d.name d.qual d.params d.body d.scope (d.dvs K) [] (d.adr K) fd := by
  have e : fn.map (fun d => fnV K (d.adr K)) = fn.map DefV.val := congrArg (fun z : AlV => z.2) c
  have e2 : (fn.map fun d => fnV K (d.adr K))[i]? = (fn.map DefV.val)[i]? := by rw [e]
  rw [List.getElem?_map, List.getElem?_map, h] at e2
  exact DefV.funD (Option.some.inj e2) (List.all_eq_true.mp c.b.2.1 d (List.mem_of_getElem? h))
end
def eqV (a b : Option (Option Value)) : Bool := decide (a = b)
section
variable {P : Program} {w : World} {K : PySem.W.Frag} {mg : Str → Option Value} {base : Heap} {cs : VM.CS} {k : Nat}
end
end VS
end
section
namespace VM
def asStrs : List PV → Option (List (List Nat))
  | [] => some []
  | .str s :: xs => match asStrs xs with | some ss => some (s :: ss) | none => none
  | _ :: _ => none
def joinS (s : List Nat) : List (List Nat) → List Nat
  | [] => []
  | [x] => x
  | x :: y :: r => x ++ s ++ joinS s (y :: r)
def isStr : PV → Bool
  | .str _ => true
  | _ => false
def eJoin (a b : TE) : TE := fun ρ st k x => a ρ st (fun u st => isStr u = true ∧ b ρ st (fun v st => match u, seqOf st v with
  | .str s, some xs => match asStrs xs with
    | some ss => (ss.map List.length).sum + ss.length * s.length ≤ SZ ∧ k (.str (joinS s ss)) st
    | none => False
  | _, _ => False) x) x
end VM
end
section
namespace VS
open PySem PySem.Spec PyProof.Rows L2
open VM (PV SO Store)
variable [Lams] [Wsh]
def dn (ys : List Str) : Nat → Nat
  | 0 => 0
  | i + 1 => if (ys.take i).any (· == ys.getD i Str.empty) then dn ys i else dn ys i + 1
section
variable {prog : Program} {w : World} {A : Around} {R : Result → Shared → Prop} {it : Addr} {fp wr : List Addr} {G : Array GenState → Array GenState → Prop} {n : Nat} {P : Nat → Value → Prop} {St : Nat → Shared → Prop}
end
section
variable {prog : Program} {w : World} {A : Around} {E : Value → Shared → Prop} {s : Shared}
def Full (prog : Program) (w : World) (s : Shared) (ys : List Str) (v : Value) (s2 : Shared) : Prop := v = .none ∧ ∃ h2 tk, s2 = { s with heap := h2, toks := tk } ∧ h2.SetOf (PySem.strKind prog w) s.heap.objs.size (fun z => (ys.take ys.length).any (· == z)) (dn ys ys.length) ∧ ∀ b o, b < s.heap.objs.size → s.heap.get? b = some o → h2.get? b = some o
end
end VS
end
section
namespace VS
open PySem PySem.Spec PyProof.Rows L2
open VM (PV SO Store)
variable [Lams] [Wsh]
section
variable {X : Cx} {a : Expr} {ta : VM.TE} {p p2 q pos : Pos}
def toS (s : List Nat) : Str := ⟨s.toArray⟩
theorem toS_inj {s t : List Nat} : toS s = toS t ↔ s = t := by
  unfold toS
  constructor
  · intro h
    have := congrArg (fun z : Str => z.cps.toList) h
    simpa using this
  · rintro rfl
    rfl
theorem strs_rep {K : PySem.W.Frag} {F : Hp} {μ : List Addr} : ∀ {xs : List PV} {ss : List (List Nat)} {vs : List V}, VM.asStrs xs = some ss → RepL K F μ xs vs → vs = (ss.map toS).map V.str ∧ ∀ s ∈ ss, sOk s
  | [], ss, vs, h, r => by
    unfold VM.asStrs at h
    cases h
    obtain rfl := repL_nil.mp r
    exact ⟨rfl, fun _ m => nomatch m⟩
  | x :: xs, ss, vs, h, r => by
    unfold VM.asStrs at h
    split at h
    · rename_i e
      cases e
    · rename_i s xs' e
      cases e
      split at h
      · rename_i ss' e2
        cases h
        obtain ⟨v, vs', rfl, rv, rr⟩ := repL_cons.mp r
        obtain ⟨ok, rfl⟩ := rep_str.mp rv
        obtain ⟨e3, oks⟩ := strs_rep e2 rr
        refine ⟨by rw [e3]; rfl, fun t m => ?_⟩
        rcases List.mem_cons.mp m with rfl | m
        · exact ok
        · exact oks t m
      · cases h
    · cases h
theorem join_toS (s : List Nat) : ∀ ss : List (List Nat), Str.join (toS s) (ss.map toS) = toS (VM.joinS s ss)
  | [] => rfl
  | [x] => rfl
  | x :: y :: r => by
    show toS x ++ toS s ++ Str.join (toS s) ((y :: r).map toS) = toS (x ++ s ++ VM.joinS s (y :: r))
    rw [join_toS s (y :: r)]
    unfold toS
    show Str.append (Str.append _ _) _ = _
    simp [Str.append]
omit [Lams] [Wsh] in
theorem join_bound (s : List Nat) : ∀ ss : List (List Nat), (VM.joinS s ss).length ≤ (ss.map List.length).sum + ss.length * s.length
  | [] => Nat.zero_le _
  | [x] => by simp [VM.joinS]
  | x :: y :: r => by
    have h := join_bound s (y :: r)
    have e : VM.joinS s (x :: y :: r) = x ++ s ++ VM.joinS s (y :: r) := rfl
    rw [e, List.length_append, List.length_append, List.map_cons, List.sum_cons, List.length_cons, Nat.add_mul, Nat.one_mul]
    omega
omit [Lams] [Wsh] in
theorem join_mem (s : List Nat) {c : Nat} : ∀ ss : List (List Nat), c ∈ VM.joinS s ss → c ∈ s ∨ ∃ x ∈ ss, c ∈ x
  | [], h => nomatch h
  | [x], h => .inr ⟨x, by simp, h⟩
  | x :: y :: r, h => by
    have e : VM.joinS s (x :: y :: r) = x ++ s ++ VM.joinS s (y :: r) := rfl
    rw [e] at h
    rcases List.mem_append.mp h with h | h
    · rcases List.mem_append.mp h with h | h
      · exact .inr ⟨x, by simp, h⟩
      · exact .inl h
    · rcases join_mem s (y :: r) h with h | ⟨z, m, h⟩
      · exact .inl h
      · exact .inr ⟨z, List.mem_cons_of_mem _ m, h⟩
theorem sum_map (ss : List (List Nat)) : ((ss.map toS).map (·.length)).sum = (ss.map List.length).sum := by
  rw [List.map_map]
  congr 1
variable {o e : Expr} {tb : VM.TE} {apos : Pos}
theorem seq_rep {K : PySem.W.Frag} {G F : Hp} {μ : List Addr} {H : Hp} {st : Store} {px : PV} {x : V} {xs : List PV} (l : Lay K G F μ st H) (r : Rep K F μ px x) (h : VM.seqOf st px = some xs) : ∃ a vs, x = .ref a ∧ (SqL K H a vs ∨ SqT K H a vs) ∧ RepL K F μ xs vs := by
  unfold VM.seqOf at h
  split at h
  · cases h
    obtain ⟨a, vs, rfl, h1, h2⟩ := rep_tup.mp r
    exact ⟨a, vs, rfl, .inr (SameD.seqT l.same h1), h2⟩
  · obtain ⟨a, vs, rfl, h1, h2⟩ := asL_rep l r h
    exact ⟨a, vs, rfl, .inl (.inl (.inl h1)), h2⟩
theorem ve_join (ho : VE X o ta) (he : VE X e tb) (hs : starEach [e] X.env = [(false, eval e X.env)] := by rfl) (hbase : attributeBase o "join" X.env (eval o X.env) = eval o X.env := by rfl) (hline : (apos.endLine == pos.line) = true := by rfl) :
    VE X (.Call (.Attribute o "join" apos) [e] [] pos) (VM.eJoin ta tb) := pe_imp (pe_join ho he hs hbase hline) fun σ H Q h => by
  obtain ⟨G, F, μ, ρ, st, k, l, r, d, hk⟩ := h
  unfold VM.eJoin at d
  refine bind1 l r d fun v H1 F1 μ1 px st1 e1 l1 r1 p1 q1 => ?_
  obtain ⟨iS, q1⟩ := q1
  cases px with
  | str s =>
    obtain ⟨ok, rfl⟩ := rep_str.mp p1
    refine ⟨⟨_, rfl⟩, bind1 l1 r1 q1 fun u H2 F2 μ2 py st2 e2 l2 r2 p2 q2 => ?_⟩
    split at q2
    · rename_i s' xs es ex
      cases es
      split at q2
      · rename_i ss e3
        obtain ⟨b, vs, rfl, hb, rl⟩ := seq_rep l2 p2 ex
        obtain ⟨rfl, oks⟩ := strs_rep e3 rl
        refine ⟨toS s, b, ss.map toS, rfl, rfl, hb, ?_, ?_⟩
        · rw [sum_map, List.length_map]
          exact q2.1
        · have ej : Txt.join (toS s) (ss.map toS) = toS (VM.joinS s ss) := by
            rw [← join_toS]
            exact StrLaws.glued_eq_join _ _
          rw [ej]
          refine hk _ _ _ _ _ _ (e1.trans e2) l2 (rep_str.mpr ⟨⟨Nat.le_trans (join_bound s ss) q2.1, fun c hc => ?_⟩, rfl⟩) q2.2
          rcases join_mem s ss hc with hc | ⟨x, m, hc⟩
          · exact ok.2 c hc
          · exact (oks x m).2 c hc
      · exact q2.elim
    · exact q2.elim
  | _ => cases iS
end
end VS
end
section
namespace VS
open PySem PySem.Spec PyProof.Rows L2
open VM (PV SO Store)
variable [Lams] [Wsh]
def keyS (e : Int × Value) : Str := match e.2 with | .str k _ => k | _ => Str.empty
def GoodS (P : Program) (w : World) (e : Int × Value) : Prop := ∃ k tk, e.2 = Value.str k tk ∧ e.1 = (PySem.strKind P w).hash k
def SetS (P : Program) (w : World) (h : Heap) (a : Addr) (S : Str → Bool) (n : Nat) : Prop :=
  ∃ o es ep t, h.get? a = some o ∧ o.ExactSet ∧ o.data = .set es ep t ∧ (∀ e ∈ es.toList, GoodS P w e) ∧ (es.toList.map keyS).Nodup ∧ (∀ k, S k = true ↔ k ∈ es.toList.map keyS) ∧
    es.size < scanBound ∧ t.fits es.size = true ∧ es.size = n ∧ Ris t.place.toList ∧ (w.params.followText "set-order" = true ∨ t.led = true)
section
variable {P : Program} {w : World} {h h' : Heap} {a : Addr} {S : Str → Bool} {n : Nat}
theorem SetS.at (R : SetS P w h a S n) (k : ∀ o, h.get? a = some o → h'.get? a = some o) : SetS P w h' a S n := by
  obtain ⟨o, es, ep, t, ho, r⟩ := R
  exact ⟨o, es, ep, t, k o ho, r⟩
theorem SetS.congr {S' : Str → Bool} {n' : Nat} (R : SetS P w h a S n) (e : ∀ k, S' k = S k) (en : n' = n) : SetS P w h a S' n' := by
  have q : S' = S := funext e
  rw [q, en]; exact R
end
section
variable {P : Program} {w : World} {A : Around} {E : Value → Shared → Prop} {s : Shared} {a : Addr} {S : Str → Bool} {n : Nat}
end
section
variable {prog : Program} {w : World} {A : Around} {R : Result → Shared → Prop} {it : Addr} {fp wr : List Addr} {G : Array GenState → Array GenState → Prop} {n : Nat} {P : Nat → Value → Prop} {St : Nat → Shared → Prop}
end
section
variable {prog : Program} {w : World} {A : Around} {E : Value → Shared → Prop} {s : Shared}
end
end VS
end
section
namespace VM
def pre (S l : List Nat) : Bool := l.take S.length == S
def par (S : List Nat) : List Nat → List Nat → Option (List Nat × List Nat)
  | _, [] => none
  | acc, c :: r => if pre S (c :: r) = true then some (acc, (c :: r).drop S.length) else par S (acc ++ [c]) r
def plain (s : List Nat) : Bool := !s.isEmpty && s.all fun c => Nat.blt c 256
end VM
end
section
namespace VM
def ltS : List Nat → List Nat → Bool
  | [], y :: ys => true
  | _, [] => false
  | x :: xs, y :: ys => if x < y then true else if x = y then ltS xs ys else false
def insS (x : List Nat) : List (List Nat) → List (List Nat)
  | [] => [x]
  | y :: ys => if ltS y x then y :: insS x ys else x :: y :: ys
def sortS : List (List Nat) → List (List Nat)
  | [] => []
  | x :: xs => insS x (sortS xs)
def keyEq : PV → PV → Bool
  | .int i, y => match y with | .int j => i == j | _ => false
  | .str a, y => match y with | .str b => a == b | _ => false
  | _, _ => false
def isKey : PV → Bool
  | .int _ => true
  | .str _ => true
  | _ => false
def dfind : List PV → List PV → PV → Option PV
  | k :: ks, v :: vs, y => if keyEq k y then some v else dfind ks vs y
  | _, _, _ => none
def asD (st : Store) : PV → Option (List PV × List PV)
  | .dct ks vs => some (ks, vs)
  | .ref i => match st[i]? with | some (.dct ks vs) => some (ks, vs) | _ => none
  | _ => none
def eDGet (a b : TE) : TE := fun ρ st k x => a ρ st (fun u st => b ρ st (fun v st => match asD st u with
  | some (ks, vs) => isKey v = true ∧ (match dfind ks vs v with | some y => k y st | none => False)
  | none => False) x) x
def tDIn (neg : Bool) (a b : TE) : TT := fun ρ st k x => a ρ st (fun v st => b ρ st (fun u st => match asD st u with
  | some (ks, vs) => isKey v = true ∧ k ((dfind ks vs v).isSome != neg) st
  | none => False) x) x
end VM
end
section
namespace VS
open PySem PySem.Spec PyProof.Rows L2
open VM (PV SO Store)
variable [Lams] [Wsh]
theorem ltS_iff : ∀ a b : List Nat, VM.ltS a b = true ↔ a < b
  | [], [] => by simp [VM.ltS]
  | [], y :: ys => by simp [VM.ltS]
  | x :: xs, [] => by simp [VM.ltS]
  | x :: xs, y :: ys => by
    unfold VM.ltS
    rw [List.cons_lt_cons_iff]
    by_cases h : x < y
    · simp [h]
    · by_cases e : x = y
      · subst e
        simp [ltS_iff xs ys]
      · simp [h, e]
def asc (l : List (List Nat)) : Prop := l.Pairwise fun a b => VM.ltS b a = false
theorem ltS_irrefl (a : List Nat) : VM.ltS a a = false := by
  cases h : VM.ltS a a with
  | false => rfl
  | true => exact absurd ((ltS_iff a a).mp h) (List.lt_irrefl a)
theorem ltS_trans {a b c : List Nat} (h : VM.ltS a b = true) (h' : VM.ltS b c = true) : VM.ltS a c = true := (ltS_iff a c).mpr (List.lt_trans ((ltS_iff a b).mp h) ((ltS_iff b c).mp h'))
theorem ltS_tri {a b : List Nat} (h : VM.ltS a b = false) (h' : VM.ltS b a = false) : a = b := by
  have h1 : ¬ a < b := fun z => by rw [(ltS_iff a b).mpr z] at h; cases h
  have h2 : ¬ b < a := fun z => by rw [(ltS_iff b a).mpr z] at h'; cases h'
  exact List.le_antisymm (List.not_lt.mp h2) (List.not_lt.mp h1)
theorem ltS_asym {a b : List Nat} (h : VM.ltS a b = true) : VM.ltS b a = false := by
  cases q : VM.ltS b a with
  | false => rfl
  | true => exact absurd (ltS_trans h q) (by rw [ltS_irrefl]; decide)
theorem le_trans' {a b c : List Nat} (h : VM.ltS b a = false) (h' : VM.ltS c b = false) : VM.ltS c a = false := by
  cases q : VM.ltS c a with
  | false => rfl
  | true =>
    by_cases e : VM.ltS a b = true
    · rw [ltS_trans q e] at h'
      cases h'
    · have e : VM.ltS a b = false := by simpa using e
      have := ltS_tri h e
      subst this
      rw [q] at h'
      cases h'
theorem insS_perm (x : List Nat) : ∀ l, (VM.insS x l).Perm (x :: l)
  | [] => List.Perm.refl _
  | y :: ys => by
    unfold VM.insS
    split
    · exact ((insS_perm x ys).cons y).trans (List.Perm.swap x y ys)
    · exact List.Perm.refl _
theorem sortS_perm : ∀ l, (VM.sortS l).Perm l
  | [] => List.Perm.refl _
  | x :: xs => by
    unfold VM.sortS
    exact (insS_perm x _).trans ((sortS_perm xs).cons x)
theorem insS_asc (x : List Nat) : ∀ l, asc l → asc (VM.insS x l)
  | [], _ => List.pairwise_singleton _ _
  | y :: ys, h => by
    obtain ⟨h1, h2⟩ := List.pairwise_cons.mp h
    unfold VM.insS
    split
    · rename_i q
      refine List.pairwise_cons.mpr ⟨fun z hz => ?_, insS_asc x ys h2⟩
      rcases List.mem_cons.mp ((insS_perm x ys).mem_iff.mp hz) with rfl | hz
      · exact ltS_asym q
      · exact h1 z hz
    · rename_i q
      have q : VM.ltS y x = false := by simpa using q
      refine List.pairwise_cons.mpr ⟨fun z hz => ?_, h⟩
      rcases List.mem_cons.mp hz with rfl | hz
      · exact q
      · exact le_trans' q (h1 z hz)
theorem sortS_asc : ∀ l, asc (VM.sortS l)
  | [] => List.Pairwise.nil
  | x :: xs => insS_asc x _ (sortS_asc xs)
theorem asc_uniq : ∀ {l l' : List (List Nat)}, asc l → asc l' → l.Perm l' → l = l'
  | [], l', _, _, p => p.nil_eq
  | x :: xs, l', h, h', p => by
    cases l' with
    | nil => exact absurd p.length_eq (by simp)
    | cons y ys =>
      obtain ⟨h1, h2⟩ := List.pairwise_cons.mp h
      obtain ⟨h3, h4⟩ := List.pairwise_cons.mp h'
      have e : x = y := by
        rcases List.mem_cons.mp (p.mem_iff.mp (List.mem_cons_self ..)) with e | m
        · exact e
        · rcases List.mem_cons.mp (p.symm.mem_iff.mp (List.mem_cons_self ..)) with e | m'
          · exact e.symm
          · exact ltS_tri (h3 x m) (h1 y m') |>.symm ▸ rfl
      subst e
      rw [asc_uniq h2 h4 (List.Perm.cons_inv p)]
theorem toS_toList (s : List Nat) : (toS s).cps.toList = s := by simp [toS]
theorem rising_asc : ∀ (p : List Nat) (l : List (List Nat)), risingS (toS p) (l.map toS) = true → asc (p :: l)
  | p, [], _ => List.pairwise_singleton _ _
  | p, x :: r, h => by
    have h : (!ltCps (toS x).cps.toList (toS p).cps.toList && risingS (toS x) (r.map toS)) = true := h
    rw [Bool.and_eq_true, toS_toList, toS_toList] at h
    obtain ⟨h1, h2⟩ := h
    have a := rising_asc x r h2
    have q : VM.ltS x p = false := by
      cases e : VM.ltS x p with
      | false => rfl
      | true =>
        have : ltCps x p = true := by rw [ltCps_eq]; exact decide_eq_true ((ltS_iff x p).mp e)
        rw [this] at h1
        cases h1
    refine List.pairwise_cons.mpr ⟨fun z hz => ?_, a⟩
    rcases List.mem_cons.mp hz with rfl | hz
    · exact q
    · exact le_trans' q ((List.pairwise_cons.mp a).1 z hz)
theorem sortedS_asc : ∀ (l : List (List Nat)), sortedS (l.map toS) = true → asc l
  | [], _ => List.Pairwise.nil
  | x :: r, h => rising_asc x r h
theorem perm_toS {ys : List Str} {ss : List (List Nat)} (h : ys.Perm (ss.map toS)) : ∃ zs : List (List Nat), ys = zs.map toS ∧ zs.Perm ss := by
  refine ⟨ys.map fun y => y.cps.toList, ?_, ?_⟩
  · rw [List.map_map]
    have : ∀ y ∈ ys, (toS ∘ fun y : Str => y.cps.toList) y = y := fun y hy => by
      obtain ⟨s, _, rfl⟩ := List.mem_map.mp (h.mem_iff.mp hy)
      show toS (toS s).cps.toList = toS s
      rw [toS_toList]
    conv => lhs; rw [← List.map_id ys]
    exact (List.map_congr_left fun y hy => (this y hy)).symm
  · have := h.map fun y : Str => y.cps.toList
    rw [List.map_map] at this
    have e : ss.map ((fun y : Str => y.cps.toList) ∘ toS) = ss := by
      conv => rhs; rw [← List.map_id ss]
      exact List.map_congr_left fun s _ => toS_toList s
    rw [e] at this
    exact this
theorem sorted_same {ys : List Str} {ss : List (List Nat)} (p : ys.Perm (ss.map toS)) (h : sortedS ys = true) : ys = (VM.sortS ss).map toS := by
  obtain ⟨zs, rfl, pz⟩ := perm_toS p
  rw [asc_uniq (sortedS_asc zs h) (sortS_asc ss) (pz.trans (sortS_perm ss).symm)]
theorem repL_strs {K : PySem.W.Frag} {F : Hp} {μ : List Addr} : ∀ {ss : List (List Nat)}, (∀ s ∈ ss, sOk s) → RepL K F μ (ss.map PV.str) ((ss.map toS).map V.str)
  | [], _ => repL_nil.mpr rfl
  | s :: ss, h => repL_cons.mpr ⟨_, _, rfl, rep_str.mpr ⟨h s (List.mem_cons_self ..), rfl⟩, repL_strs fun t m => h t (List.mem_cons_of_mem _ m)⟩
section
variable {X : Cx} {a b c e : Expr} {ta tb te : VM.TE} {p p2 q pos : Pos}
end
section
variable {X : Cx} {a b c e : Expr} {ta tb te : VM.TE} {p p2 q pos : Pos} {tg tg1 : Expr}
end
theorem key_rep {K : PySem.W.Frag} {F : Hp} {μ : List Addr} {px : PV} {v : V} (r : Rep K F μ px v) (h : VM.isKey px = true) : ∃ k : Key, v = kV k ∧ px = kP k := by
  cases px with
  | int i => exact ⟨.inl i, rep_int.mp r, rfl⟩
  | str s =>
    obtain ⟨_, rfl⟩ := rep_str.mp r
    exact ⟨.inr ⟨s.toArray⟩, rfl, by simp [kP]⟩
  | _ => cases h
theorem keyEq_kP (a b : Key) : VM.keyEq (kP a) (kP b) = decide (a = b) := by
  cases a with
  | inl i =>
    cases b with
    | inl j =>
      show (i == j) = _
      by_cases h : i = j
      · subst h; simp
      · simp [h]
    | inr y => simp [kP, VM.keyEq]
  | inr x =>
    cases b with
    | inl j => simp [kP, VM.keyEq]
    | inr y =>
      show (x.cps.toList == y.cps.toList) = _
      by_cases h : x = y
      · subst h; simp
      · have : x.cps.toList ≠ y.cps.toList := fun z => h (by
          cases x; cases y
          simp only at z
          rw [Array.toList_inj.mp z])
        have d1 : decide ((Sum.inr x : Key) = Sum.inr y) = false := decide_eq_false fun z => h (Sum.inr.inj z)
        rw [d1]
        simpa using this
theorem dfind_rep {K : PySem.W.Frag} {F : Hp} {μ : List Addr} {k : Key} : ∀ {kvs : List (Key × V)} {xs : List PV}, RepL K F μ xs (kvs.map (·.2)) → (VM.dfind (kvs.map fun q => kP q.1) xs (kP k) = none ∧ L2.valV kvs k = none) ∨ ∃ y v, VM.dfind (kvs.map fun q => kP q.1) xs (kP k) = some y ∧ L2.valV kvs k = some v ∧ Rep K F μ y v
  | [], xs, r => .inl ⟨by cases xs <;> rfl, rfl⟩
  | q :: kvs, [], r => by
    rw [List.map_cons] at r
    exact absurd (repL_nil.mp r) (by simp)
  | q :: kvs, x :: xs, r => by
    obtain ⟨v, vs, e, r1, r2⟩ := repL_cons.mp r
    rw [List.map_cons] at e
    injection e with e1 e2
    subst e1 e2
    rw [List.map_cons]
    unfold VM.dfind
    rw [keyEq_kP]
    by_cases h : q.1 = k
    · rw [if_pos (by simpa using h), L2.valV_pos h]
      exact .inr ⟨x, q.2, rfl, rfl, r1⟩
    · rw [if_neg (by simpa using h), L2.valV_neg h]
      exact dfind_rep r2
theorem asD_rep {K : PySem.W.Frag} {G F : Hp} {μ : List Addr} {H : Hp} {st : Store} {px : PV} {x : V} {ks xs : List PV} (l : Lay K G F μ st H) (r : Rep K F μ px x) (h : VM.asD st px = some (ks, xs)) : ∃ a kvs, x = .ref a ∧ H a = some (.dK kvs) ∧ ks = kvs.map (fun q => kP q.1) ∧ RepL K F μ xs (kvs.map (·.2)) := by
  unfold VM.asD at h
  split at h
  · cases h
    unfold Rep at r
    obtain ⟨a, kvs, h1, h2, h3, h4⟩ := r
    exact ⟨a, kvs, h1, l.same a _ h2, h3, h4⟩
  · rename_i i
    split at h
    · rename_i k1 v1 e
      cases h
      obtain ⟨a, h1, h2⟩ := rep_ref.mp r
      obtain ⟨_, kvs, h3, h4, h5⟩ := l.obj i a _ h1 e
      exact ⟨a, kvs, h2, h3, h4, h5⟩
    · cases h
  · cases h
section
variable {X : Cx} {a b c e o i : Expr} {ta tb te : VM.TE} {p p2 p3 q pos : Pos}
theorem ve_dget (hu : X.A.units + 1 < cLine) (ho : VE X o ta) (hi : VE X i tb) (hs : NoSl i) : VE X (.Subscript o i pos) (VM.eDGet ta tb) := pe_imp (pe_dget hu ho hi hs) fun σ H Q h => by
  obtain ⟨G, F, μ, ρ, st, k, l, r, d, hk⟩ := h
  refine bind1 l r d fun x H1 F1 μ1 px st1 e1 l1 r1 p1 q1 => bind1 l1 r1 q1 fun y H2 F2 μ2 py st2 e2 l2 r2 p2 q2 => ?_
  split at q2
  · rename_i ks vs ed
    obtain ⟨hkey, q2⟩ := q2
    obtain ⟨kk, rfl, rfl⟩ := key_rep p2 hkey
    obtain ⟨a, kvs, rfl, hH, rfl, rl⟩ := asD_rep l2 (p1.mono e2) ed
    rcases dfind_rep (k := kk) rl with ⟨h1, _⟩ | ⟨z, v, h1, h2, h3⟩
    · rw [h1] at q2
      exact q2.elim
    · rw [h1] at q2
      refine ⟨a, v, rfl, ?_, (hk.mono (e1.trans e2)).same l2 h3 q2⟩
      rw [← h2]
      exact DGet.k hH
  · exact q2.elim
theorem tDIn_imp {K : PySem.W.Frag} {neg : Bool} {σ : L2.St} {H : Hp} {Q : Bool → Hp → Prop} {W : V → V → Hp → Prop} (h : rT K (VM.tDIn neg ta tb) σ H Q)
    (hW : ∀ a y o H', DGet H' a y o → Q (o.isSome != neg) H' → W y (.ref a) H') : rE K ta σ H fun y H1 => rE K tb σ H1 fun x H2 => W y x H2 := by
  obtain ⟨G, F, μ, ρ, st, k, l, r, d, hk⟩ := h
  refine bind1 l r d fun x H1 F1 μ1 px st1 e1 l1 r1 p1 q1 => bind1 l1 r1 q1 fun y H2 F2 μ2 py st2 e2 l2 r2 p2 q2 => ?_
  split at q2
  · rename_i ks vs ed
    obtain ⟨hkey, q2⟩ := q2
    obtain ⟨kk, rfl, rfl⟩ := key_rep (p1.mono e2) hkey
    obtain ⟨a, kvs, rfl, hH, rfl, rl⟩ := asD_rep l2 p2 ed
    refine hW a _ (L2.valV kvs kk) H2 (DGet.k hH) ?_
    rcases dfind_rep (k := kk) rl with ⟨h1, h2⟩ | ⟨z, v, h1, h2, h3⟩
    · rw [h1] at q2
      rw [h2]
      exact (hk.mono (e1.trans e2)).same l2 q2
    · rw [h1] at q2
      rw [h2]
      exact (hk.mono (e1.trans e2)).same l2 q2
  · exact q2.elim
theorem vt_dnotin (hu : X.A.units + 1 < cLine) (hi : VE X i ta) (ho : VE X o tb) (hm : behindInMarks .NotIn o = false := by rfl) : VT X (.Compare i [.NotIn] [o] pos) (VM.tDIn true ta tb) := pt_imp (pt_cmp (pc_dnotin hu hi ho) hm) fun σ H Q h =>
  tDIn_imp (W := fun y x H2 => ∃ a ov, x = .ref a ∧ DGet H2 a y ov ∧ ∃ c, V.bl (!ov.isSome) = .bl c ∧ Q c H2) h fun a y ov H' g q => ⟨a, ov, rfl, g, _, rfl, by simpa using q⟩
end
section
variable {X : Cx} {a b c e o i : Expr} {ta tb te : VM.TE} {p p2 p3 q pos : Pos}
end
end VS
end
section
namespace VS
open PySem PySem.Spec PyProof.Rows L2
open VM (PV SO Store)
variable [Lams] [Wsh]
section
variable {prog : Program} {w : World} {A : Around} {E : Value → Shared → Prop} {s : Shared}
end
section
variable {X : Cx} {a : Expr} {ta : VM.TE} {p p2 q pos : Pos}
end

theorem _root_.L2.Room.units1 {k : Nat} {A : Around} (r : L2.Room k A) : A.units + 1 < cLine := by have := r.un; omega
end VS
end
section
namespace VM
end VM
end
section
namespace VS
open PySem PySem.Spec PyProof.Rows L2
open VM (PV SO Store)
variable [Lams] [Wsh]
section
variable {X : Cx} {a b c e : Expr} {ta tb tc te : VM.TE} {pos p2 p q : Pos} {tg : Expr}
end
section
variable {X : Cx} {a b c e : Expr} {ta tb tc te : VM.TE} {pos p2 p q : Pos} {tg : Expr}
end
section
variable {prog : Program} {w : World} {A : Around} {E : Value → Shared → Prop} {s : Shared}
theorem collect_tuple {l : Addr} {vs : List Value} {Q : List Value → Shared → Prop} (hl : s.heap.IsTuple l vs.toArray)
    (h : Q vs { s with heap := (s.heap.push (seqObj "list" #[] 0)).update s.heap.objs.size (Obj.mapSeq (· ++ vs.toArray)) }) (hsz : vs.length ≤ sizeLine) :
    wpAny (model prog w) A (collect (.ref l)) Q E s := by
  obtain ⟨o, ho, hc, n, hd⟩ := id hl
  unfold collect
  refine wpAny_bind (wpAny_runValue (codeAny_builtin entry_proto_collect' ?_))
  show wpAny _ _ (do again (.builtin "list.__iadd__" ⟨[← newList [], .ref l], []⟩)) _ _ s
  refine wpAny_bind (wpAny_newList (wpAny_pure ⟨Code.quiet_builtin _ (by decide +kernel), codeAny_builtin F.entry_list_iadd ?_⟩))
  show wpAny _ _ (Builtin.List.listExtendWith (.ref s.heap.objs.size) (.ref l) (.ref s.heap.objs.size)) _ _ { s with heap := s.heap.push (seqObj "list" #[] 0) }
  unfold Builtin.List.listExtendWith
  have ho' : (s.heap.push (seqObj "list" #[] 0)).get? l = some o := Heap.get?_push_of_some _ ho
  refine wpAny_bind (wpAny_typeOf (T := "tuple") ⟨o, ho', hc⟩ ?_)
  have ht : (Value.type "tuple" == Value.type "tuple") = true := by rfl
  rw [if_pos (by rw [ht]; simp)]
  refine wpAny_bind (listItems_at ho' hd ?_)
  refine wpAny_bind (listItems_at (xs := #[]) (n := 0) (Heap.get?_push_size _ rfl) rfl ?_)
  rw [if_neg (by simp)]
  refine wpAny_bind (listUpdate_at (xs := #[]) (n := 0) (Heap.get?_push_size _ rfl) rfl ?_ (Nat.zero_le _) (by show (#[] ++ vs.toArray).size ≤ sizeLine + 1; simp only [Array.size_append, List.size_toArray, List.length_nil]; omega))
  refine wpAny_pure ?_
  show wpAny (model prog w) A (do
      let o ← load s.heap.objs.size
      match o.data with
      | .seq xs _ => pure xs.toList
      | _ => unsupported "internal:collect") Q E { s with heap := (s.heap.push (seqObj "list" #[] 0)).update s.heap.objs.size (Obj.mapSeq (· ++ vs.toArray)) }
  refine wpAny_bind (wpAny_load (get?_update_seq (Heap.get?_push_size _ rfl) _) ?_)
  show wpAny _ _ (pure ((#[] : Array Value) ++ vs.toArray).toList) Q E _
  rw [show ((#[] : Array Value) ++ vs.toArray).toList = vs by simp]
  exact wpAny_pure h
theorem sorted_tup {l : Addr} {vs : List Value} {ss : List Str} {Q : Value → Shared → Prop} (hl : s.heap.IsTuple l vs.toArray) (hS : StrsAre vs ss) (h64 : vs.length < 64)
    (h : ∀ (out : Array Value) (ss' : List Str), StrsAre out.toList ss' → ss'.Perm ss → sortedS ss' = true → Q (.ref (s.heap.objs.size + 1)) { s with heap := sortedAll s.heap vs out }) :
    wpAny (model prog w) A (call (.builtin "sorted") [.ref l]) Q E s := by
  refine Calls.call_function_entry kind_sorted plain_sorted entry_sorted (args_sorted1 _) ?_
  unfold Builtin.«sorted»
  refine wpAny_bind (m := checkCount "sorted" 1 1 _) (wpAny_pure ?_)
  refine wpAny_bind (collect_tuple hl ?_ (by rw [sizeLine_eq]; omega))
  refine wpAny_bind (wpAny_newList ?_ (by rw [sizeLine_eq]; omega))
  have hsz : ((s.heap.push (seqObj "list" #[] 0)).update s.heap.objs.size (Obj.mapSeq (· ++ vs.toArray))).objs.size = s.heap.objs.size + 1 := by
    rw [Heap.size_update, size_push']
  have hoL : (((s.heap.push (seqObj "list" #[] 0)).update s.heap.objs.size (Obj.mapSeq (· ++ vs.toArray))).push (seqObj "list" vs.toArray 0)).get? (s.heap.objs.size + 1) = some (seqObj "list" vs.toArray 0) := by
    rw [← hsz]; exact Heap.get?_push_size _ rfl
  show wpAny _ _ _ _ _ { s with heap := ((s.heap.push (seqObj "list" #[] 0)).update s.heap.objs.size (Obj.mapSeq (· ++ vs.toArray))).push (seqObj "list" vs.toArray 0) }
  rw [hsz]
  refine wpAny_bind (wpAny_holding (wpAny_call_entry slot_list_sort ⟨_, hoL, rfl⟩ entry_list_sort (list_sort_treeK strKind_oneLt hoL hS.keysOf (fun v₁ v₂ rest e => keyKind_strs (by rw [← e]; exact hS)) h64 fun st' a1 a2 => ⟨_, rfl, ?_⟩) (args_list_sort _)))
  obtain ⟨ss', h1, h2, h3⟩ := sorted_out_str hS a1 a2
  exact wpAny_pure ⟨_, rfl, h _ ss' h1 h2 h3⟩
end
def rSortedT0 (K : PySem.W.Frag) : List V → Hp → VK → Prop := fun vs H Q => ∃ (a : Addr) (xs : List Str), vs = [V.ref a] ∧ SqT K H a (xs.map V.str) ∧ xs.length < 64 ∧ ∀ (ys : List Str) (p : Addr), ys.Perm xs → sortedS ys = true → H p = none → Q (.ref p) (upd H p (.lst (ys.map V.str)))
section
variable {X : Cx} {a b c e : Expr} {ta tb tc te : VM.TE} {pos p2 p q : Pos} {tg : Expr}
theorem cr_sortedT0 : CallR X (.builtin "sorted") (rSortedT0 X.K) := by
  intro pins s σ H vs us Q I r h
  obtain ⟨a, xs, rfl, hs, h64, q⟩ := h
  obtain ⟨its, rv, hl, _⟩ := I.tuple hs
  rw [Vals.ref1 r]
  have hlen0 := rv.length
  rw [List.length_map] at hlen0
  refine sorted_tup hl rv.strs (by rw [← hlen0]; exact h64) fun out ys h1 h2 h3 => ?_
  obtain ⟨ep, he'⟩ := PyProof.Rows.sortedAll_at s.heap its out
  have hlen : (ys.map V.str).length ≤ sizeLine := by rw [List.length_map, h2.length_eq, sizeLine_eq]; omega
  exact ⟨.ref _, upd H (s.heap.objs.size + 1) (.lst (ys.map V.str)), I.laid (t' := s.toks) (fun _ _ => PyProof.Rows.sortedAll_old) (Nat.le_succ _) ⟨hlen, out.toList, ep, vals_of_strs h1, he'⟩, rfl, q ys _ h2 h3 (I.hok.fresh (Nat.le_succ _))⟩
end
end VS
end
section
namespace VM
def pairsV : List PV → Option (List PV × List PV)
  | [] => some ([], [])
  | .tup [a, b] :: r => match pairsV r with | some (ks, vs) => some (a :: ks, b :: vs) | none => none
  | _ :: _ => none
def eDictP (a : TE) : TE := fun ρ st k x => a ρ st (fun u st => match asL st u with
  | some xs => (match pairsV xs with
    | some (ks, vs) => (match asStrs ks with | some ss => ss.Nodup ∧ ss.length < 4000 ∧ k (.dct ks vs) st | none => False)
    | none => False)
  | none => False) x
def eSortedS (a : TE) : TE := fun ρ st k x => a ρ st (fun v st => match seqOf st v with
  | some xs => match asStrs xs with
    | some ss => ss.length < 64 ∧ k (.lst ((sortS ss).map .str)) st
    | none => False
  | none => False) x
end VM
end
section
namespace VS
open PySem PySem.Spec PyProof.Rows L2
open VM (PV SO Store)
variable [Lams] [Wsh]
theorem mergeK_app : ∀ (kvs acc : List (Key × V)), (acc.map (·.1) ++ kvs.map (·.1)).Nodup → mergeK acc kvs = acc ++ kvs
  | [], acc, _ => by simp [mergeK]
  | kv :: kvs, acc, h => by
    have e : mergeK acc (kv :: kvs) = mergeK (putK acc kv.1 kv.2) kvs := rfl
    have hn : (acc.any fun q => decide (q.1 = kv.1)) = false := by
      rw [List.any_eq_false]
      intro q hq hc
      have hc := of_decide_eq_true hc
      exact (List.nodup_append.mp h).2.2 q.1 (List.mem_map.mpr ⟨q, hq, rfl⟩) kv.1 (by simp) hc
    have ep : putK acc kv.1 kv.2 = acc ++ [kv] := by
      unfold putK
      rw [hn] <;> rfl
    rw [e, ep, mergeK_app kvs (acc ++ [kv]) (by
      rw [List.map_append, List.append_assoc]
      exact h), List.append_assoc]
    rfl
theorem pairs_rep {K : PySem.W.Frag} {F : Hp} {μ : List Addr} : ∀ {xs ks ys : List PV} {ss : List (List Nat)} {vs : List V}, VM.pairsV xs = some (ks, ys) → VM.asStrs ks = some ss → RepL K F μ xs vs →
    ∃ (ps : List Addr) (kvs : List (Key × V)), vs = ps.map V.ref ∧ Paired (fun p kv => SqT K F p [kV kv.1, kv.2]) ps kvs ∧ kvs.map (·.1) = ss.map (fun s => Sum.inr (toS s)) ∧ RepL K F μ ys (kvs.map (·.2))
  | [], ks, ys, ss, vs, h, hs, r => by
    cases h
    cases hs
    rw [repL_nil.mp r]
    exact ⟨[], [], rfl, .nil, rfl, repL_nil.mpr rfl⟩
  | x :: xs, ks, ys, ss, vs, h, hs, r => by
    obtain ⟨v, vr, rfl, r1, r2⟩ := repL_cons.mp r
    unfold VM.pairsV at h
    split at h
    · cases ‹_ :: _ = []›
    · rename_i a b r' e
      cases e
      split at h
      · rename_i ks' ys' e'
        cases h
        unfold VM.asStrs at hs
        split at hs
        · cases ‹_ :: _ = []›
        · rename_i s xs' e2
          cases e2
          split at hs
          · rename_i ss' es
            cases hs
            obtain ⟨ps, kvs, rfl, h1, h2, h3⟩ := pairs_rep e' es r2
            obtain ⟨p, ws, rfl, hp, rp⟩ := rep_tup.mp r1
            obtain ⟨u1, w1, rfl, q1, rp⟩ := repL_cons.mp rp
            obtain ⟨u2, w2, rfl, q2, rp⟩ := repL_cons.mp rp
            obtain rfl := repL_nil.mp rp
            obtain ⟨_, rfl⟩ := rep_str.mp q1
            exact ⟨p :: ps, (.inr (toS s), u2) :: kvs, rfl, .cons hp h1, by rw [List.map_cons, List.map_cons, h2], repL_cons.mpr ⟨u2, _, rfl, q2, h3⟩⟩
          · cases hs
        · cases hs
      · cases h
    · cases h
theorem paired_same {K : PySem.W.Frag} {F H : Hp} (e : SameD F H) : ∀ {ps : List Addr} {kvs : List (Key × V)}, Paired (fun p (kv : Key × V) => SqT K F p [kV kv.1, kv.2]) ps kvs → Paired (fun p (kv : Key × V) => SqT K H p [kV kv.1, kv.2]) ps kvs
  | _, _, .nil => .nil
  | _, _, .cons h t => .cons (e.seqT h) (paired_same e t)
theorem keys_nd {ss : List (List Nat)} (h : ss.Nodup) : (ss.map fun s => (Sum.inr (toS s) : Key)).Nodup := by
  refine List.pairwise_map.mpr (h.imp fun {a b} hab e => hab ?_)
  injection e with e
  exact toS_inj.mp e
section
variable {X : Cx} {a b c e o : Expr} {ta tb tc te : VM.TE} {t1 t2 : VM.TT} {pos p2 p apos cpos : Pos} {es rest : List Expr} {tas : VM.TA} {x m : Str} {k : Nat} {f : Addr} {cs : VM.CS} {i n : Nat}
theorem kP_txt {ks : List PV} {ss : List (List Nat)} (h : VM.asStrs ks = some ss) : ks = ss.map fun s => kP (Sum.inr (toS s)) := by
  induction ks generalizing ss with
  | nil => cases h; rfl
  | cons a r ih =>
    unfold VM.asStrs at h
    split at h
    · cases ‹_ :: _ = []›
    · rename_i s xs e
      cases e
      split at h
      · rename_i ss' es
        cases h
        rw [List.map_cons, ← ih es]
        rfl
      · cases h
    · cases h
theorem kP_keys {ks : List PV} {ss : List (List Nat)} {kvs : List (Key × V)} (h : VM.asStrs ks = some ss) (e : kvs.map (·.1) = ss.map (fun s => Sum.inr (toS s))) : ks = kvs.map fun q => kP q.1 := by
  have e2 : kvs.map (fun q => kP q.1) = (kvs.map (·.1)).map kP := by rw [List.map_map]; rfl
  rw [e2, e, List.map_map, kP_txt h]
  rfl
theorem ve_dictP (hc : X.calm = true) (ha : VE X a ta) (hg : Gl X "dict") (hm : X.mg "dict" = none) (he : starEach [a] X.env = (false, eval a X.env) :: starEach [] X.env := by rfl) :
    VE X (.Call (.Name "dict" p) [a] [] pos) (VM.eDictP ta) := pe_imp (pe_callTy (call_dictP hc) hg hm (by decide +kernel) (pa_cons ha pa_nil he) (he := he)) fun σ H Q h => by
  obtain ⟨G, F, μ, ρ, st, k, l, r, d, hk⟩ := h
  refine bind1 l r d fun x H1 F1 μ1 px st1 e1 l1 r1 p1 q1 => ?_
  split at q1
  · rename_i xs hx
    obtain ⟨q, vs, rfl, h1, rl⟩ := asL_rep l1 p1 hx
    split at q1
    · rename_i ks ys ep
      split at q1
      · rename_i ss es
        obtain ⟨nd, _, q1⟩ := q1
        obtain ⟨ps, kvs, rfl, k1, k2, k3⟩ := pairs_rep ep es rl
        refine ⟨q, ps, kvs, rfl, .inl (.inl h1), paired_same l1.same k1, fun D hD => ?_⟩
        have em : mergeK [] kvs = kvs := by
          rw [mergeK_app kvs [] (by rw [List.map_nil, List.nil_append, k2]; exact keys_nd nd)]
          rfl
        rw [em]
        refine hk.mono e1 (.ref D) _ (upd F1 D (.dK kvs)) μ1 (.dct ks ys) st1 (ext_upd l1 hD) (l1.new hD) ?_ q1
        unfold Rep
        refine ⟨D, kvs, rfl, upd_same, ?_, k3.mono (ext_upd l1 hD)⟩
        exact kP_keys es k2
      · exact q1.elim
    · exact q1.elim
  · exact q1.elim
end
end VS
end
section
namespace VS
open PySem PySem.Spec PyProof.Rows L2 StX TL
section
variable {CX : CXT} {P : Program} {w : World} {K : PySem.W.Frag} {mg : Str → Option Value} {base : Heap} {k : Nat} {f : Addr} {name qual : Str} {params : Arguments} {body : List Stmt} {scope : Scope} {dV kV doc pm cdv ct oc : Value} {an od : Option Addr}
  {osl : Array (Option Value)} {N ps : List Str} {sp : Sp}
end
section
variable {X : Cx} {pins : List (Addr × Obj)} {σ : L2.St} {H : Hp} {s : Shared} {Q : VK}
end
section
variable {X : Cx} {o e : Expr} {to te : TE}
end
end VS
end
section
namespace VS
open PySem PySem.Spec PyProof.Rows L2 ClX StX
open VM (PV SO Store)
variable [Lams] [Wsh]
section
variable {X : Cx} {a b c e o : Expr} {ta tb tc te : VM.TE} {t1 t2 : VM.TT} {pos p2 p apos cpos : Pos} {es rest : List Expr} {tas : VM.TA} {x m : Str} {k : Nat} {f : Addr} {cs : VM.CS} {i n : Nat} [TkX X]
end
def spR (K : PySem.W.Frag) (cs : VM.CS) (f : Nat) : Sp := fun vs H Q E => ∃ G F μ st pxs k x, LayB K G F μ st H ∧ RepL K F μ pxs vs ∧ cs f pxs st k x ∧ Kon0 K G F μ k Q ∧ KonX K G F μ x E
def spS (K : PySem.W.Frag) (cs : VM.CS) (f n : Nat) : Sp := fun vs H Q E => ∃ G F μ st pxs k x, LayB K G F μ st H ∧ RepL K F μ pxs vs ∧ n ≤ pxs.length ∧ pxs.length ≤ VM.SZ ∧ cs f (pxs.take n ++ [.tup (pxs.drop n)]) st k x ∧ Kon0 K G F μ k Q ∧ KonX K G F μ x E
section
variable {K : PySem.W.Frag} {G F : Hp} {μ : List Addr} {st : Store} {H : Hp} {cs : VM.CS} {f n : Nat} {pxs : List PV} {vs : List V} {k : VM.KV} {Q : VK}
end
structure FR (P : Program) (w : World) (K : PySem.W.Frag) (mg : Str → Option Value) (base : Heap) (cs : VM.CS) (k i : Nat) (f : Addr) : Prop where
  r : FnR P w K mg base (L2.CX P w) k f (spR K cs i)
structure FS (P : Program) (w : World) (K : PySem.W.Frag) (mg : Str → Option Value) (base : Heap) (cs : VM.CS) (k i n : Nat) (f : Addr) : Prop where
  r : FnR P w K mg base (L2.CX P w) k f (spS K cs i n)
section
variable {P : Program} {w : World} {K : PySem.W.Frag} {mg : Str → Option Value} {base : Heap} {cs : VM.CS} {k i n : Nat} {f : Addr}
theorem FC.fr (C : FC P w K mg base cs k i f) : FR P w K mg base cs k i f := by
  obtain ⟨fd, ps, ok, bn, len⟩ := C.ex
  refine ⟨(ok.raw bn .nil).imp fun vs H Q E h => ?_⟩
  obtain ⟨G, F, μ, st, pxs, kk, x, l, r, d, hk, hx⟩ := h
  rw [List.append_nil]
  exact ⟨by rw [r.length]; exact len _ _ _ _ d, G, F, μ, st, pxs, kk, x, l, r, d, hk, hx⟩
end
structure CMt (K : PySem.W.Frag) (C : Addr) (m : Str) (g : Addr) : Prop where
  ex : ∃ mc p, CRead K C mc ∧ CMet K C mc m p g
section
variable {X : Cx} {a b c e o : Expr} {ta tb tc te : VM.TE} {t1 t2 : VM.TT} {pos p2 p apos cpos : Pos} {es rest : List Expr} {tas : VM.TA} {x m : Str} {k : Nat} {f : Addr} {cs : VM.CS} {i n : Nat} [TkX X]
end
end VS
end
section
namespace VS
open PySem PySem.Spec PyProof.Rows L2
open VM (PV SO Store)
variable [Lams] [Wsh]
end VS
end
section
namespace VS
open PySem PySem.Spec PyProof.Rows L2
open VM (PV SO Store)
variable [Lams] [Wsh]
section
variable {X : Cx} {a b c e o : Expr} {ta tb tc te : VM.TE} {t1 t2 : VM.TT} {pos p2 p apos cpos : Pos} {es rest : List Expr} {tas : VM.TA} {x m : Str} {k : Nat} {f : Addr} {cs : VM.CS} {i n : Nat} [TkX X]
end
end VS
end
section
namespace VS
open PySem PySem.Spec PyProof.Rows L2
open VM (PV SO Store)
variable [Lams] [Wsh]
section
variable {X : Cx} {a b c e o : Expr} {ta tb tc te : VM.TE} {t1 t2 : VM.TT} {pos p2 p apos cpos : Pos} {es rest : List Expr} {tas : VM.TA} {x m : Str} {k : Nat} {f : Addr} {cs : VM.CS} {i n : Nat}
end
end VS
end
section
namespace VS
open PySem PySem.Spec PyProof.Rows L2 ClX StX
variable [Lams] [Wsh]
end VS
end
section
namespace VS
open PySem PySem.Spec PyProof.Rows L2
open VM (PV SO Store)
variable [Lams] [Wsh]
section
variable {X : Cx} {a : Expr} {ta : VM.TE} {p pos : Pos} [TkX X]
theorem ve_sortedS (ha : VE X a ta) (hg : Gl X "sorted") (hm : X.mg "sorted" = none) (he : starEach [a] X.env = (false, eval a X.env) :: starEach [] X.env := by rfl) : VE X (.Call (.Name "sorted" p) [a] [] pos) (VM.eSortedS ta) :=
  pe_imp (pe_callB (cr_sortedS.or cr_sortedT0) hg hm (by decide +kernel) (pa_cons ha pa_nil he) (he := he) (hpl := rfl)) fun σ H Q h => by
    obtain ⟨G, F, μ, ρ, st, k, l, r, d, hk⟩ := h
    refine bind1 l r d fun x H1 F1 μ1 px st1 e1 l1 r1 p1 q1 => ?_
    by_cases ht : ∃ xs, px = .tup xs
    · obtain ⟨xs, rfl⟩ := ht
      simp only [VM.seqOf] at q1
      split at q1
      · rename_i ss es
        obtain ⟨a', vs, rfl, hb, rl⟩ := rep_tup.mp p1
        obtain ⟨rfl, oks⟩ := strs_rep es rl
        refine .inr ⟨a', ss.map toS, rfl, l1.same.seqT hb, by rw [List.length_map]; exact q1.1, fun ys pp hp hs hn => ?_⟩
        rw [sorted_same hp hs]
        exact (hk.mono e1).lst l1 (repL_strs fun s m => oks s ((sortS_perm ss).mem_iff.mp m)) q1.2 pp hn
      · exact q1.elim
    · have e : VM.seqOf st1 px = VM.asL st1 px := by
        cases px <;> first | rfl | exact (ht ⟨_, rfl⟩).elim
      rw [e] at q1
      split at q1
      · rename_i xs ex
        split at q1
        · rename_i ss es
          obtain ⟨a', vs, rfl, hb, rl⟩ := asL_rep l1 p1 ex
          obtain ⟨rfl, oks⟩ := strs_rep es rl
          refine .inl ⟨a', ss.map toS, rfl, .inl (.inl hb), by rw [List.length_map]; exact q1.1, fun ys pp hp hs hn => ?_⟩
          rw [sorted_same hp hs]
          exact (hk.mono e1).lst l1 (repL_strs fun s m => oks s ((sortS_perm ss).mem_iff.mp m)) q1.2 pp hn
        · exact q1.elim
      · exact q1.elim
end
end VS
end
section
namespace VM
end VM
end
section
namespace VS
open PySem PySem.Spec PyProof.Rows L2 ClX StX
variable [Lams] [Wsh]
section
variable {X : Cx} {a b c e o : Expr} {ta tb tc te : VM.TE} {t1 t2 : VM.TT} {pos p2 p apos cpos : Pos} {es rest : List Expr} {tas : VM.TA} {x m : Str} {k : Nat} {f : Addr} {cs : VM.CS} {i n : Nat} [TkX X]
end
end VS
end
section
namespace VS
open PySem PySem.Spec PyProof.Rows L2 ClX StX
variable [Lams] [Wsh]
section
variable {X : Cx} {pos p apos : Pos} {x m : Str} {k : Nat} {f : Addr} {cs : VM.CS} {i n : Nat} [TkX X]
end
end VS
end
section
namespace VS
open PySem PySem.Spec PyProof.Rows L2 ClX StX
open VM (PV SO Store)
variable [Lams] [Wsh]
section
variable {X : Cx} {a b c e o : Expr} {ta tb tc te : VM.TE} {pos p2 p apos cpos : Pos} {es rest : List Expr}
end
end VS
end
section
namespace VS
open PySem PySem.Spec PyProof.Rows L2 ClX StX
open VM (PV SO Store)
variable [Lams] [Wsh]
section
variable {X : Cx} {a b c e o : Expr} {ta tb tc te : VM.TE} {pos p2 p apos cpos : Pos} {es rest : List Expr} {tas : VM.TA} {m : Str} {k : Nat} {cs : VM.CS} {i n : Nat} [TkX X]
end
end VS
end
section
namespace VM
def noX : KV := fun _ _ => False
structure XI where
  c : Nat
  ks : List Nat
  code : Sg
  np : Nat
def XI.vals (i : XI) (us : List PV) : Option (List PV) := if us.length = i.np then some (us.reverse ++ [.str i.code]) else none
def sRaise (i : XI) (a : TA) : TS := fun D ρ st => a ρ st (fun us st => match i.vals us with | some vs => D.xk (.exc i.c i.ks vs) st | none => False) D.xk
def eXFld (n : Nat) (a : TE) : TE := fun ρ st k x => a ρ st (fun u st => match u with | .exc _ ks vs => (match fget ks vs n with | some v => k v st | none => False) | _ => False) x
def isLive : SO → Bool
  | .live _ _ => true
  | _ => false
def dead1 (o : SO) : SO := if isLive o then .dead else o
def killL (st : Store) : Store := st.map dead1
def reviv : Store → Store → Store
  | o :: st, o' :: st' => (if isLive o then o else o') :: reviv st st'
  | _, st' => st'
def capsOf (ρ : Env) : List Nat → Option (List PV)
  | [] => some []
  | i :: is => match ρ[i]?, capsOf ρ is with
    | some (some v), some vs => some (v :: vs)
    | _, _ => none
def capsAll (ρ : Env) : List (Nat × List Nat) → Option (List (Nat × List PV))
  | [] => some []
  | (n, is) :: ls => match capsOf ρ is, capsAll ρ ls with
    | some vs, some r => some ((n, vs) :: r)
    | _, _ => none
def eLams (cs : CS) (f : Nat) (ls : List (Nat × List Nat)) : TE := fun ρ st k _ => match capsAll ρ ls with
  | some cl => cs f [.lst ((List.range ls.length).map fun j => .lam st.length (some j))] (st ++ [.live false cl]) (fun v st' => k v (killL st')) noX
  | none => False
def eLam1 (cs : CS) (f : Nat) (l : Nat × List Nat) : TE := fun ρ st k _ => match capsAll ρ [l] with
  | some cl => cs f [.lam st.length none] (st ++ [.live true cl]) (fun v st' => k v (killL st')) noX
  | none => False
def actOf (st : Store) : PV → Option (Nat × List PV)
  | .lam i j => match st[i]? with
    | some (.live b ls) => match j with
      | none => if b then ls[0]? else none
      | some j => if b then none else ls[j]?
    | _ => none
  | _ => none
def runAct (cs : CS) (u : PV) (st : Store) (k x : KV) : Prop := match actOf st u with
  | some (n, caps) => 1000000 ≤ n ∧ cs n caps (killL st) (fun v st' => k v (reviv st st')) (fun e st' => x e (reviv st st'))
  | none => False
def eAct (cs : CS) (a : TE) : TE := fun ρ st k x => a ρ st (fun u st => runAct cs u st k x) x
def exOk : PV → Bool
  | .exc _ _ _ => true
  | _ => false
def sTryR (e : TE) (i n : Nat) (h : TS) : TS := fun D ρ st => e ρ st D.rt fun v st => exOk v = true ∧ h { nx := fun _ _ => False, rt := D.rt, bk := fun _ _ => False, ct := fun _ _ => False, xk := noX } ((List.replicate n none).set i (some v)) st
end VM
end
section
namespace VS
open PySem PySem.Spec PyProof.Rows L2 ClX
open VM (PV SO Store)
structure ErrC (K : PySem.W.Frag) (C : Addr) (tl : List Value) (bi nw it : String) : Prop where
  base : ExcBaseFacts bi nw it tl
  sto : StoreFacts bi tl "object.__setattr__" "object"
  ini : PySem.W.excInitIn K C tl nw = true
  ovr : PySem.W.excOver K C tl = true
  dct : PySem.W.hasDictIn K C = true
  sa : PySem.W.findIn K (.ref C) "__setattr__" = some (some (.builtin "object.__setattr__"))
  exC : PySem.W.subIn K (.ref C) (.type "BaseException") = some true
  tyC : PySem.W.typeIn K (.ref C) = some (.type "type")
  kp : PySem.W.keepIn K (.ref C) = true
theorem taker_none {K : PySem.W.Frag} {C : Addr} {f : Str} (h : PySem.W.findIn K (.ref C) f = some none) : PySem.W.takerIn K C f = some none := by
  unfold PySem.W.takerIn
  rw [h]
  rfl
section
variable {P : Program} {w : World} {A : Around} {R : Result → Shared → Prop} {E : Value → Shared → Prop} {hp : Heap} {g : Array GenState} {d : Drawn} {t : Nat} {os : OsState} {K : PySem.W.Frag} {C x : Addr} {tl : List Value} {bi nw it : String} {f : Str} {u : Value}
theorem err_set0 (T : ErrC K C tl bi nw it) (X : K.In hp) {t1 : Addr} (hx : hp.get? x = some (PySem.W.excObj C t1 none .none)) (hno : PySem.W.findIn K (.ref C) f = some none) {Q : Unit → Shared → Prop}
    (hq : ∀ hh tk, (∀ b o, b ≠ x → hp.get? b = some o → hh.get? b = some o) → hh.get? x = some (PySem.W.excObj C t1 (some hp.objs.size) .none) → hh.Ns1 hp.objs.size (fun y => if y = f then some u else none) → Q () ⟨hh, g, d, tk, os⟩) :
    wpAny (model P w) A (setAttr (.ref x) f u) Q E ⟨hp, g, d, t, os⟩ := by
  have lt : x < hp.objs.size := Heap.lt_size hx
  refine PySem.W.set_plain X (od := none) ⟨hx, rfl, rfl, trivial⟩ T.sa ?_
  refine PySem.W.osa_openX (od := none) T.sto X ⟨hx, rfl, rfl, trivial⟩ T.ovr (taker_none hno) fun b => ?_
  obtain ⟨cd, hc, hd'⟩ := PySem.W.any_some T.dct
  refine wpAny_bind (wpAny_pure (wpAny_bind (PySem.W.instanceDict_exc hx (PySem.W.looks_clsIn X hc) hd' ?_)))
  show wpAny _ _ (Builtin.ObjectAttr.storeInDict hp.objs.size (.str f _) f u) _ _ _
  have emp : ((hp.push (PySem.W.dictOf [] 0)).update x fun o => { o with dict := some hp.objs.size }).Ns hp.objs.size (fun _ => none) := by
    refine ⟨PySem.W.dictOf [] 0, #[], 0, ?_, rfl, fun e z => absurd z (by simp), fun _ => rfl⟩
    rw [Heap.get?_update_ne _ _ _ _ (Nat.ne_of_gt lt)]
    exact Heap.get?_push_size _ rfl
  refine PySem.HandSPX.store_in_new emp fun hh tk hn sb => hq hh tk (fun b o hb ho => ?_) ?_ hn
  · rw [sb.2 b (Nat.ne_of_lt (Heap.lt_size ho)), Heap.get?_update_ne _ _ _ _ hb]
    exact Heap.get?_push_of_some _ ho
  · rw [sb.2 x (Nat.ne_of_lt lt)]
    exact Heap.get?_update_self _ (Heap.get?_push_of_some _ hx) rfl
theorem err_set1 (T : ErrC K C tl bi nw it) (X : K.In hp) {t1 dx : Addr} {m0 : Str → Option Value} {nl : List Str} (hx : hp.get? x = some (PySem.W.excObj C t1 (some dx) .none)) (hno : PySem.W.findIn K (.ref C) f = some none) {Q : Unit → Shared → Prop}
    (hns : hp.Ns1 dx m0) (hw : Within m0 nl) (hz : nl.length ≤ 1000)
    (hq : ∀ hh tk, (∀ b o, b ≠ dx → hp.get? b = some o → hh.get? b = some o) → hh.Ns1 dx (fun y => if y = f then some u else m0 y) → Q () ⟨hh, g, d, tk, os⟩) :
    wpAny (model P w) A (setAttr (.ref x) f u) Q E ⟨hp, g, d, t, os⟩ := by
  obtain ⟨od, _, _, ed, _, _⟩ := hns.count hw
  refine PySem.W.set_plain X (od := some od) ⟨hx, rfl, rfl, ed⟩ T.sa ?_
  refine PySem.W.osa_openX (od := some od) T.sto X ⟨hx, rfl, rfl, ed⟩ T.ovr (taker_none hno) fun b => ?_
  obtain ⟨cd, hc, hd'⟩ := PySem.W.any_some T.dct
  refine wpAny_bind (wpAny_pure (wpAny_bind (wpAny_bind (wpAny_loadPart hx (wpAny_bind ((PySem.W.looks_clsIn X hc).here ?_))))))
  rw [hd']
  refine wpAny_pure (a := some dx) ?_
  exact PySem.OEX.store_in_old hns hw hz fun hh tk hn sb => hq hh tk (fun b o hb ho => (sb.2 b hb).trans ho) hn
end
section
variable {X : Cx} {pins : List (Addr × Obj)} {σ : L2.St} {H : Hp} {s : Shared} {a C dx : Addr} {tl : List Value} {bi nw it : String} {f : Str} {y : V} {u : Value} {fs : List (Str × V)} {Q : Unit → Shared → Prop} {E : Value → Shared → Prop} {A : Around}
theorem err_new (T : ErrC X.K C tl bi nw it) (I : Inv X pins σ H s) (e : H a = some (exo a C none)) (hno : PySem.W.findIn X.K (.ref C) f = some none) (ry : RelV y u)
    (h : ∀ dx s', H dx = none → dx ≠ a → Inv X pins σ (upd (upd H dx (exd dx [(f, y)])) a (exo a C (some dx))) s' → Q () s') : wpAny (model X.prog X.w) A (setAttr (.ref a) f u) Q E s := by
  obtain ⟨t1, ho⟩ := exo_at I.hok e
  obtain ⟨hp, g, d, t, os⟩ := s
  have hn : H hp.objs.size = none := I.hok.fresh (Nat.le_refl _)
  have lt : a < hp.objs.size := Heap.lt_size ho
  have na : ∀ {b : Addr}, H b = none → b ≠ a := fun {b} z q => by
    rw [q, e] at z
    cases z
  have nd : ∀ {b : Addr} {o : Obj}, hp.get? b = some o → b ≠ hp.objs.size := fun {b o} q => Nat.ne_of_lt (Heap.lt_size q)
  refine err_set0 T I.kIn ho hno fun hh tk k hx hns => h hp.objs.size _ hn (Nat.ne_of_gt lt) ?_
  have U : Un X.fs [] H (upd (upd H hp.objs.size (exd hp.objs.size [(f, y)])) a (exo a C (some hp.objs.size))) hp hh :=
    { keep := fun b o q n _ _ => k b o (na n) q
      slot := fun b o q n _ _ => ⟨o.slots, k b o (na n) q⟩
      free := fun b o q n _ => by rw [upd_ne (na n), upd_ne (nd q)]; exact n
      there := fun b o q _ => (Classical.em (b = a)).elim (fun z => ⟨_, z ▸ hx⟩) fun z => ⟨o, k b o z q⟩
      tups := fun b xs q => by rw [upd_ne (at_ne e q exo_tup), upd_ne (ne_of_none q hn)]; exact q
      frzs := fun b o v q => by rw [upd_ne (at_ne e q exo_frz), upd_ne (ne_of_none q hn)]; exact q
      tbls := fun b ps q => ⟨#[], by rw [upd_ne (at_ne e q exo_tbl), upd_ne (ne_of_none q hn), q]; simp⟩ }
  refine I.un (t' := tk) U fun b o q => ?_
  by_cases hb : b = a
  · subst hb
    rw [upd_same] at q
    cases q
    exact exo_ok hx
  rw [upd_ne hb] at q
  by_cases hd : b = hp.objs.size
  · subst hd
    rw [upd_same] at q
    cases q
    exact exd_ok hns (relO_put (fs := []) ry fun _ => True.intro)
  rw [upd_ne hd] at q
  refine (I.hok b o q).stay (fun c v hc z => k c v ?_ z) (fun c hc => ?_) fun c xs hc => ?_
  · exact hc.elim (fun w => w ▸ hb) fun w => at_ne e w exo_own
  · rw [upd_ne (at_ne e hc exo_own), upd_ne (ne_of_none hc hn)]
    exact hc
  · rw [upd_ne (at_ne e hc exo_tup), upd_ne (ne_of_none hc hn)]
    exact hc
theorem err_old (T : ErrC X.K C tl bi nw it) (I : Inv X pins σ H s) (e : H a = some (exo a C (some dx))) (ed : H dx = some (exd dx fs)) (hl : fs.length ≤ 900) (hno : PySem.W.findIn X.K (.ref C) f = some none) (ry : RelV y u)
    (h : ∀ s', Inv X pins σ (upd H dx (exd dx ((f, y) :: fs))) s' → Q () s') : wpAny (model X.prog X.w) A (setAttr (.ref a) f u) Q E s := by
  obtain ⟨t1, ho⟩ := exo_at I.hok e
  obtain ⟨mA, hns, rel⟩ := exd_at I.hok ed
  obtain ⟨hp, g, d, t, os⟩ := s
  refine err_set1 T I.kIn ho hno hns (within_of rel) (by rw [List.length_map]; omega) fun hh tk k hn => ?_
  have there : ∃ o, hh.get? dx = some o := by
    obtain ⟨o, _, _, z, _⟩ := hn
    exact ⟨o, z⟩
  exact h _ (I.write (t' := tk) (x := dx) (e := dx) (o := exd dx ((f, y) :: fs)) (by rw [ed]; exact True.intro) (.inl rfl) k there (exd_ok hn (relO_put ry rel)))
theorem err_init {us : List Value} {Q : Value → Shared → Prop} (T : ErrC X.K C tl bi nw it) (I : Inv X pins σ H s) (e : H a = some (exo a C none)) (hl : us.length ≤ sizeLine) (h : ∀ s', Inv X pins σ H s' → Q .none s') :
    wpAny (model X.prog X.w) A (call (.builtin it) (.ref a :: us)) Q E s := by
  obtain ⟨nm, N, qn, bs, bm, hdct, sn, sub, ab, col, dd, k0, k1, k2, k3, k5, hC, hT⟩ := PySem.W.excInit_of I.kIn T.ini
  obtain ⟨t1, ho⟩ := exo_at I.hok e
  obtain ⟨hp, g, d, t, os⟩ := s
  refine wpAny_call (PySem.HandSPX.init_base T.base hT hC ho hl fun hh t2 k hx => ?_)
  have J := I.write (t' := t) (x := a) (e := a) (o := exo a C none) (by rw [e]; exact True.intro) (.inl rfl) k ⟨_, hx⟩ (exo_ok hx)
  have eu : upd H a (exo a C none) = H := funext fun b => (Classical.em (b = a)).elim (fun z => by rw [z, upd_same, e]) fun z => upd_ne z
  rw [eu] at J
  exact h _ J
end
def IsErr (K : PySem.W.Frag) (C : Addr) (it : String) : Prop := ∃ tl bi nw, ErrC K C tl bi nw it
def tErrI (K : PySem.W.Frag) (it : String) (ta : L2.TA) : L2.TE := fun σ H Q => ta σ H fun vs H1 => ∃ (a C : Addr) (ws : List V), vs = .ref a :: ws ∧ ws.length ≤ 1000 ∧ IsErr K C it ∧ H1 a = some (exo a C none) ∧ Q .non H1
def tErrS (K : PySem.W.Frag) (it : String) (f : Str) (to te : L2.TE) : L2.TS := fun D σ H => te σ H fun y H1 => to σ H1 fun x H2 => ∃ a C : Addr, x = .ref a ∧ IsErr K C it ∧ PySem.W.findIn K (.ref C) f = some none ∧
  ((H2 a = some (exo a C none) ∧ ∀ dx, H2 dx = none → dx ≠ a → D.nx σ (upd (upd H2 dx (exd dx [(f, y)])) a (exo a C (some dx)))) ∨
    ∃ (dx : Addr) (fs : List (Str × V)), H2 a = some (exo a C (some dx)) ∧ H2 dx = some (exd dx fs) ∧ fs.length ≤ 900 ∧ D.nx σ (upd H2 dx (exd dx ((f, y) :: fs))))
section
variable {X : Cx} {B : Addr} {mc : Value} {x : Str} {o e : Expr} {es : List Expr} {ta : L2.TA} {to te : L2.TE} {p1 p2 pos : Pos} {f : Str} {it : String}
theorem pe_errinit {pl : Sem Bool} (hg : Gl X x) (hm : X.mg x = some (.ref B)) (r : CRead X.K B mc) (fd : PySem.W.findCls X.K (.ref B) mc "__init__" = some (.val (.builtin it))) (hpb : PySem.W.handedIn (.builtin it) = true) (ha : PA X (e :: es) ta)
    (hd : (x == ("__debug__" : Str)) = false := by decide)
    (hc : eval (.Call (.Attribute (.Name x p1) "__init__" p2) (e :: es) [] pos) X.env = (do
      let ov ← eval (.Name x p1) X.env
      standAt p2.atName
      let (f, first) ← holding [ov] (getMethod ov "__init__" pl)
      callWith pos f first (backTo pos (starEach (e :: es) X.env)) (backToKw pos (keywordEach [] X.env))) := by rfl)
    (he : starEach (e :: es) X.env = (false, eval e X.env) :: starEach es X.env := by rfl) (hpl : (backTo pos (starEach es X.env)).any (·.1) = false := by rfl) :
    PE X (.Call (.Attribute (.Name x p1) "__init__" p2) (e :: es) [] pos) (tErrI X.K it ta) := by
  refine ⟨fun pins s σ H Q I h => ?_⟩
  refine PySem.W.methodCall_KW (ld_glob I hg hm ?_ hd) hc
  refine PySem.W.method_cls I.kIn r.ga (PySem.W.cls_value I.kIn r.rd fd hpb ?_)
  show wpAny _ _ (callWith pos (Value.builtin it) [] (backTo pos (starEach (e :: es) X.env)) []) _ _ _
  refine PyProof.Rows.callWith_method1 (thn (ha.run pos pins _ σ H _ (I.tok _) h) fun us s1 ⟨vs, H1, I1, r1, a, C, ws, ev, hl, ⟨tl, bi, nw, T⟩, ea, q⟩ => ?_) he hpl
  subst ev
  cases r1 with
  | @cons _ u0 _ ur ra rw' =>
    obtain rfl : u0 = Value.ref a := ra
    have hlen : ur.length ≤ sizeLine := by
      rw [← Paired.length rw', sizeLine_eq]
      omega
    exact err_init T I1 ea hlen fun s' J => ⟨.non, H1, J, rfl, q⟩
theorem ps_errset (ho : PE X o to) (he : PE X e te) (hs : swapsWith e (some (.Attribute o f p1)) pos.line X.env = pure false := by rfl) : PS X (.Assign [.Attribute o f p1] e pos) (tErrS X.K it f to te) := by
  refine ⟨fun pins s σ H D I h => ?_⟩
  refine plainObj_wpAny_Assign_Attribute (thn (he.run pins s σ H _ I h) fun v s1 ⟨y, H1, I1, r1, q1⟩ => thn (ho.run pins s1 σ H1 _ I1 q1) fun u s2 ⟨x, H2, I2, r2, a, C, ex, ⟨tl, bi, nw, T⟩, hno, q⟩ => ?_) hs
  subst ex
  obtain rfl : u = Value.ref a := r2
  rcases q with ⟨ea, q⟩ | ⟨dx, fs, ea, ed, hl, q⟩
  · exact err_new T I2 ea hno r1 fun dx s' n ne J => ⟨σ, _, J, q dx n ne⟩
  · exact err_old T I2 ea ed hl hno r1 fun s' J => ⟨σ, _, J, q⟩
end
end VS
end
section
namespace VS
open PySem PySem.Spec PyProof.Rows L2 ClX
open VM (PV SO Store)
def rdS (K : PySem.W.Frag) (it : String) : List (Str × L2.TE) → L2.TS
  | [] => tNext
  | [p] => tErrS K it p.1 (tVar 0) p.2
  | p :: q :: r => tSeq (tErrS K it p.1 (tVar 0) p.2) (rdS K it (q :: r))
def Vl (σ : L2.St) (te : L2.TE) (v : V) : Prop := ∀ H Q, Q v H → te σ H Q
inductive Vls (σ : L2.St) : List (Str × L2.TE) → List (Str × V) → Prop
  | nil : Vls σ [] []
  | cons {f : Str} {te : L2.TE} {v : V} {ps : List (Str × L2.TE)} {vs : List (Str × V)} (h : Vl σ te v) (t : Vls σ ps vs) : Vls σ ((f, te) :: ps) ((f, v) :: vs)
theorem Vls.len {σ : L2.St} {ps : List (Str × L2.TE)} {vs : List (Str × V)} (h : Vls σ ps vs) : ps.length = vs.length := by
  induction h with
  | nil => rfl
  | cons _ _ ih => simp [ih]
def But2 (a d : Addr) (H H2 : Hp) : Prop := ∀ b, b ≠ a → b ≠ d → H2 b = H b
section
variable {K : PySem.W.Frag} {it : String} {σ : L2.St} {a C d : Addr}
theorem rdS_old (hC : IsErr K C it) (h0 : σ[0]? = some (some (.ref a))) : ∀ {ps : List (Str × L2.TE)} {vs : List (Str × V)} {fs : List (Str × V)} {H : Hp} {D : L2.Ends}, Vls σ ps vs → (∀ p ∈ ps, PySem.W.findIn K (.ref C) p.1 = some none) → fs.length + ps.length ≤ 900 → d ≠ a →
    H a = some (exo a C (some d)) → H d = some (exd d fs) → (∀ H2, H2 a = some (exo a C (some d)) → H2 d = some (exd d (vs.reverse ++ fs)) → But2 a d H H2 → D.nx σ H2) → rdS K it ps D σ H
  | [], _, fs, H, D, h, _, _, _, ea, ed, q => by
    cases h
    exact q H ea ed fun _ _ _ => rfl
  | [(f, te)], _, fs, H, D, h, hn, hl, nd, ea, ed, q => by
    cases h with
    | @cons _ _ v _ _ hv ht =>
      cases ht
      refine hv _ _ ⟨.ref a, h0, a, C, rfl, hC, hn _ (List.mem_cons_self ..), .inr ⟨d, fs, ea, ed, by simp at hl; omega, ?_⟩⟩
      exact q _ (by rw [upd_ne (Ne.symm nd)]; exact ea) upd_same fun b _ hb => upd_ne hb
  | (f, te) :: p2 :: ps, _, fs, H, D, h, hn, hl, nd, ea, ed, q => by
    cases h with
    | @cons _ _ v _ vs hv ht =>
      refine hv _ _ ⟨.ref a, h0, a, C, rfl, hC, hn _ (List.mem_cons_self ..), .inr ⟨d, fs, ea, ed, by simp at hl; omega, ?_⟩⟩
      refine rdS_old hC h0 (fs := (f, v) :: fs) ht (fun p hp => hn p (List.mem_cons_of_mem _ hp)) (by simp at hl ⊢; omega) nd (by rw [upd_ne (Ne.symm nd)]; exact ea) upd_same fun H2 e1 e2 b2 => q H2 e1 ?_ fun b b1 b3 => ?_
      · rw [e2, List.reverse_cons, List.append_assoc]
        rfl
      · rw [b2 b b1 b3, upd_ne b3]
theorem rdS_new (hC : IsErr K C it) (h0 : σ[0]? = some (some (.ref a))) {f : Str} {te : L2.TE} {v : V} {ps : List (Str × L2.TE)} {vs : List (Str × V)} {H : Hp} {D : L2.Ends} (hv : Vl σ te v) (ht : Vls σ ps vs) (hn : ∀ p ∈ (f, te) :: ps, PySem.W.findIn K (.ref C) p.1 = some none) (hl : ps.length ≤ 800)
    (ea : H a = some (exo a C none)) (q : ∀ d H2, H d = none → d ≠ a → H2 a = some (exo a C (some d)) → H2 d = some (exd d (vs.reverse ++ [(f, v)])) → But2 a d H H2 → D.nx σ H2) : rdS K it ((f, te) :: ps) D σ H := by
  cases ps with
  | nil =>
    cases ht
    refine hv _ _ ⟨.ref a, h0, a, C, rfl, hC, hn _ (List.mem_cons_self ..), .inl ⟨ea, fun d hd nd => ?_⟩⟩
    exact q d _ hd nd upd_same (by rw [upd_ne nd]; exact upd_same) fun b b1 b2 => by rw [upd_ne b1, upd_ne b2]
  | cons p2 ps =>
    refine hv _ _ ⟨.ref a, h0, a, C, rfl, hC, hn _ (List.mem_cons_self ..), .inl ⟨ea, fun d hd nd => ?_⟩⟩
    refine rdS_old hC h0 (fs := [(f, v)]) ht (fun p hp => hn p (List.mem_cons_of_mem _ hp)) (by simp at hl ⊢; omega) nd upd_same (by rw [upd_ne nd]; exact upd_same) fun H2 e1 e2 b2 => q d H2 hd nd e1 e2 fun b b1 b3 => ?_
    rw [b2 b b1 b3, upd_ne b1, upd_ne b3]
end
def spErr (K : PySem.W.Frag) (C : Addr) (it : String) (code : Str) (ns : List Str) : Sp := fun vs H Q _ => ∃ a us, vs = .ref a :: us ∧ us.length = ns.length ∧ H a = some (exo a C none) ∧
  ∀ d H2, H d = none → d ≠ a → H2 a = some (exo a C (some d)) → H2 d = some (exd d ((ns.zip us).reverse ++ [(("code" : Str), V.str code)])) → But2 a d H H2 → Q .non H2
def rdErr (K : PySem.W.Frag) (it : String) (msg code : Str) (ns : List Str) : L2.TS :=
  tSeq (tDrop (tErrI K it (tCons (tVar 0) (tCons (tC (V.str msg)) tNil)))) (rdS K it ((("code" : Str), tC (V.str code)) :: ns.zipIdx.map fun p => (p.1, tVar (p.2 + 1))))
theorem vls_vars {σ : L2.St} : ∀ {ns : List Str} {us : List V} {k : Nat}, us.length = ns.length → (∀ i v, us[i]? = some v → σ[k + i + 1]? = some (some v)) → Vls σ ((ns.zipIdx k).map fun p => (p.1, tVar (p.2 + 1))) (ns.zip us)
  | [], us, k, h, _ => by
    cases us with
    | nil => exact .nil
    | cons _ _ => simp at h
  | n :: ns, [], k, h, _ => by simp at h
  | n :: ns, u :: us, k, h, hs => by
    rw [List.zipIdx_cons, List.map_cons, List.zip_cons_cons]
    refine .cons (fun H Q q => ⟨u, hs 0 u (by simp), q⟩) (vls_vars (by simpa using h) fun i v e => ?_)
    have := hs (i + 1) v (by simpa using e)
    rw [show k + 1 + i + 1 = k + (i + 1) + 1 by omega]
    exact this
theorem err_fn {P : Program} {w : World} {K : PySem.W.Frag} {mg : Str → Option Value} {base : Heap} {k : Nat} {x qual : Str} {params : Arguments} {body : List Stmt} {scope : Scope} {f C : Addr} {fd : FuncData} {N ps ns : List Str} {it : String} {msg code : Str}
    (F : FunD K x qual params body scope [] [] f fd) (S : FnScope N ps scope) (hC : IsErr K C it) (hp : ps.length = ns.length + 1) (hN : N.length = ps.length) (hl : ns.length ≤ 800) (hn : ∀ n ∈ ("code" : Str) :: ns, PySem.W.findIn K (.ref C) n = some none)
    (hb : ∀ (cdv : Value) (A : Around) (outer : List Env) (s : Shared) (H : Hp) (E : XK), PSs (cxOf (L2.CX P w) P w K mg base N qual scope f cdv A outer s H E) body (rdErr K it msg code ns)) :
    FnOk P w K mg base (L2.CX P w) (k + 1) f fd ps (spErr K C it code ns) := by
  refine F.ok S (fun vs H Q E ⟨a, us, e1, e2, _⟩ => by rw [e1, List.length_cons, e2, hp]) fun cdv A outer s H vs Q E hr ⟨a, us, ev, el, ea, q⟩ => ⟨_, hb cdv A outer s H E, ?_⟩
  subst ev
  have at_ : ∀ (i : Nat) (v : V), (V.ref a :: us)[i]? = some v → (L2.start N (.ref a :: us))[i]? = some (some v) := fun i v e => by
    unfold L2.start
    rw [List.getElem?_append_left (by rw [List.length_map]; exact (List.getElem?_eq_some_iff.mp e).1), List.getElem?_map, e]
    rfl
  have h0 := at_ 0 (.ref a) rfl
  refine ⟨.ref a, h0, a, C, [V.str msg], rfl, by simp, hC, ea, ?_⟩
  refine rdS_new hC h0 (fun H Q z => z) (vls_vars (us := us) el fun i v e => by rw [Nat.zero_add]; exact at_ (i + 1) v (by simpa using e)) (fun p hp => ?_) (by simpa using hl) ea fun d H2 hd nd e1 e2 b2 => q d H2 hd nd e1 e2 b2
  rcases List.mem_cons.mp hp with rfl | hp
  · exact hn _ (List.mem_cons_self ..)
  · obtain ⟨z, hz, rfl⟩ := List.mem_map.mp hp
    exact hn _ (List.mem_cons_of_mem _ (List.fst_mem_of_mem_zipIdx hz))
def tMkX (C : Addr) (code : Str) (ns : List Str) (ta : L2.TA) : L2.St → Hp → XK → Prop := fun σ H Q => ta σ H fun vs H1 => vs.length = ns.length ∧ vs.length ≤ 1000 ∧ ∀ d, H1 d = none → Q (.ref C) (some d) (upd H1 d (.xd ((ns.zip vs).reverse ++ [(("code" : Str), V.str code)])))
structure MkE (P : Program) (w : World) (K : PySem.W.Frag) (mg : Str → Option Value) (base : Heap) (k : Nat) (C : Addr) (it : String) (code : Str) (ns : List Str) : Prop where
  err : IsErr K C it
  fn : ∃ fI fd ps, PySem.W.findIn K (.ref C) "__init__" = some (some (.ref fI)) ∧ PySem.W.typeIn K (.ref fI) = some (.type "function") ∧ FnOk P w K mg base (L2.CX P w) k fI fd ps (spErr K C it code ns) ∧ Binds K fd ps []
section
variable {X : Cx} {C : Addr} {code : Str} {ns : List Str} {it : String} {k : Nat}
theorem run_mkE (M : MkE X.prog X.w X.K X.mg X.base k C it code ns) (hr : Room (k + 1) X.A) {pins : List (Addr × Obj)} {σ : L2.St} {s : Shared} {H1 : Hp} {us : List Value} {vs : List V} {Q : XK} (I1 : Inv X pins σ H1 s) (rv : Vals vs us) (hlen : vs.length = ns.length) (hz : vs.length ≤ 1000)
    (q : ∀ d, H1 d = none → Q (.ref C) (some d) (upd H1 d (.xd ((ns.zip vs).reverse ++ [(("code" : Str), V.str code)])))) : wpAny (model X.prog X.w) X.A (call (.ref C) us) (MkP X pins σ Q) X.xe s := by
  obtain ⟨⟨tl, bi, nw, T⟩, fI, fd, ps, iC, tI, F1, hb⟩ := M
  obtain ⟨nm, N, qn, bs, bm, hdct, sn, sub, ab, col, dd, k0, k1, k2, k3, k5, hC, hT⟩ := PySem.W.excInit_of I1.kIn T.ini
  obtain ⟨hp, g, dr, tk, os⟩ := s
  obtain ⟨a, ha⟩ : ∃ a, a = hp.objs.size + 1 := ⟨_, rfl⟩
  have sz : hp.objs.size ≤ a := by omega
  have na : H1 a = none := I1.hok.fresh sz
  have grow : ∀ b o, hp.get? b = some o → ((hp.push (PySem.W.kdv_tup us)).push (PySem.HandSPX.excO C hp.objs.size)).get? b = some o := fun b o e => Heap.get?_push_of_some _ (Heap.get?_push_of_some _ e)
  have atA : ((hp.push (PySem.W.kdv_tup us)).push (PySem.HandSPX.excO C hp.objs.size)).get? a = some (PySem.HandSPX.excO C hp.objs.size) := by
    rw [ha]
    heap_get
  have I2 : Inv X pins σ (upd H1 a (exo a C none)) ⟨(hp.push (PySem.W.kdv_tup us)).push (PySem.HandSPX.excO C hp.objs.size), g, dr, tk, os⟩ := I1.laid (t' := tk) (a := a) grow sz (exo_ok atA)
  have rv2 : Vals (V.ref a :: vs) (Value.ref a :: us) := .cons rfl rv
  have hsp : ∀ E, spErr X.K C it code ns (.ref a :: vs) (upd H1 a (exo a C none)) (fun v H2 => v = .non ∧ ∃ d fs, H2 a = some (exo a C (some d)) ∧ H2 d = some (exd d fs) ∧ H1 d = none ∧ Q (.ref C) (some d) (upd (del H2 a) d (.xd fs))) E := fun E => by
    refine ⟨a, vs, rfl, hlen, upd_same, fun d H2 hd nd e1 e2 b2 => ⟨rfl, d, _, e1, e2, by rw [upd_ne nd] at hd; exact hd, ?_⟩⟩
    have hd1 : H1 d = none := by
      rw [upd_ne nd] at hd
      exact hd
    have eq : upd (del H2 a) d (.xd ((ns.zip vs).reverse ++ [(("code" : Str), V.str code)])) = upd H1 d (.xd ((ns.zip vs).reverse ++ [(("code" : Str), V.str code)])) := by
      funext b
      by_cases hb1 : b = d
      · rw [hb1, upd_same, upd_same]
      · rw [upd_ne hb1, upd_ne hb1]
        by_cases hb2 : b = a
        · rw [hb2, del_same, na]
        · rw [del_ne hb2, b2 b hb2 hb1, upd_ne hb2]
    rw [eq]
    exact q d hd1
  have hlp : (Value.ref a :: us).length = ps.length := by
    rw [← F1.len _ _ _ _ (hsp fun _ _ _ => False)]
    exact (rv2.length).symm
  have bnd := hb _ (Value.ref a :: us) I2.kIn (by rw [List.append_nil]; exact hlp)
  rw [List.append_nil] at bnd
  have hus : us.length ≤ sizeLine := by
    rw [← Paired.length rv, sizeLine_eq]
    omega
  subst ha
  refine wpAny_call (PySem.HandSPX.call_own T.base hT hC (PySem.W.looks_findIn I1.kIn iC) (fun self => PySem.W.bind_fn I1.kIn self tI) hus (codeAny_mono
    (F1.run _ X.stack _ _ ⟨Value.ref (hp.objs.size + 1) :: us, []⟩ _ _ _ (fun _ _ _ => False) (hr.make C us []) (I2.env0.make C us []) bnd rv2 (hsp _)) fun r s' out => ?_))
  match r with
  | .error er =>
    obtain ⟨_, _, _, _, _, _, _, _, _, _, _, _, z⟩ := out
    exact z.elim
  | .ok (.ret u) =>
    obtain ⟨v, H2, os2, bare2, un2, hok2, rv', ev, d, fs, ea, ed, hd1, q2⟩ := out
    subst ev
    obtain ⟨h2, g2, d2, t2, os'⟩ := s'
    exact ⟨rv', mk_end (raises_own T.exC T.tyC) I1 sz grow un2 hok2 os2 bare2 ea ed hd1 q2⟩
  | .ok .next => exact False.elim out
  | .ok .brk => exact False.elim out
  | .ok .cont => exact False.elim out
variable {x : Str} {e : Expr} {es : List Expr} {ta : L2.TA} {p pos : Pos}
theorem pmk_err (M : MkE X.prog X.w X.K X.mg X.base k C it code ns) (hr : Room (k + 1) X.A) (hg : Gl X x) (hm : X.mg x = some (.ref C)) (ha : PA X (e :: es) ta)
    (hdb : (x == ("__debug__" : Str)) = false := by decide) (he : starEach (e :: es) X.env = (false, eval e X.env) :: starEach es X.env := by rfl) (hpl : (backTo pos (starEach es X.env)).any (·.1) = false := by rfl) :
    PMk X (.Call (.Name x p) (e :: es) [] pos) (tMkX C code ns ta) := by
  intro pins s σ H Q I h
  obtain ⟨tl, bi, nw, T⟩ := M.err
  refine wpAny_Call_Name_kw (ld_glob I hg hm ?_ hdb)
  refine PySem.W.callWith_K (h₀ := X.base) I.ok.mod.kin T.kp (thn (ha.run pos pins s σ H _ I h) fun us s1 ⟨vs, H1, I1, r1, h1, h2, q⟩ => ⟨I1.kIn, ?_⟩) he hpl
  exact run_mkE M hr I1 r1 h1 h2 q
end
end VS
end
section
namespace VS
open PySem PySem.Spec PyProof.Rows L2
open VM (PV SO Store)
theorem exO_tup {a : Addr} {o : Obj} {xs : List V} : ExO a o ≠ .tup xs := fun z => by
  have z' : HO.ext _ = HO.tup xs := z
  cases z'
theorem exO_own {a b : Addr} {o : Obj} : ExO a o ≠ .own b := fun z => by
  have z' : HO.ext _ = HO.own b := z
  cases z'
theorem exO_frz {a : Addr} {o u : Obj} {v : HO} : ExO a o ≠ .frz u v := fun z => by
  have z' : HO.ext _ = HO.frz u v := z
  cases z'
theorem exO_tbl {a : Addr} {o : Obj} {ps : Array Value} : ExO a o ≠ .tbl ps := fun z => by
  have z' : HO.ext _ = HO.tbl ps := z
  cases z'
theorem exO_ok {P : Program} {w : World} {H : Hp} {h : Heap} {a : Addr} {o : Obj} (e : h.get? a = some o) : ObjOk P w H h a (ExO a o) := ⟨e, ⟨_, e⟩, fun _ _ z k => k _ z⟩
theorem exO_get {P : Program} {w : World} {H : Hp} {h : Heap} {a : Addr} {o : Obj} (x : ObjOk P w H h a (ExO a o)) : h.get? a = some o := x.1
structure Adds (h : Heap) (fs : List Addr) (Hm Hq : Hp) : Prop where
  old : ∀ b o, Hm b = some o → Hq b = some o
  new : ∀ b o, Hm b = none → Hq b = some o → ∃ ob, o = ExO b ob ∧ h.get? b = some ob ∧ b ∉ fs
theorem Adds.back {h : Heap} {fs : List Addr} {Hm Hq : Hp} (A : Adds h fs Hm Hq) {b : Addr} (n : Hq b = none) : Hm b = none := by
  cases e : Hm b with
  | none => rfl
  | some o =>
    rw [A.old b o e] at n
    cases n
theorem Adds.same {h : Heap} {fs : List Addr} {Hm Hq : Hp} (A : Adds h fs Hm Hq) {b : Addr} {o : HO} (e : Hq b = some o) (hn : ∀ ob, o ≠ ExO b ob) : Hm b = some o := by
  cases q : Hm b with
  | none =>
    obtain ⟨ob, z, _⟩ := A.new b o q e
    exact (hn _ z).elim
  | some u =>
    rw [A.old b u q] at e
    exact e
theorem Adds.hok {P : Program} {w : World} {h : Heap} {fs : List Addr} {Hm Hq : Hp} (A : Adds h fs Hm Hq) (k : HOk P w Hm h) : HOk P w Hq h := fun b o e => by
  cases q : Hm b with
  | none =>
    obtain ⟨ob, rfl, z, _⟩ := A.new b o q e
    exact exO_ok z
  | some u =>
    have e' := A.old b u q
    rw [e] at e'
    cases e'
    exact (k b o q).stay (fun _ _ _ z => z) (fun c z => A.old _ _ z) fun c xs z => A.old _ _ z
theorem Adds.hokm {P : Program} {w : World} {h : Heap} {fs : List Addr} {Hm Hq : Hp} (A : Adds h fs Hm Hq) (k : HOk P w Hq h) : HOk P w Hm h := fun b o e =>
  (k b o (A.old b o e)).stay (fun _ _ _ z => z) (fun c z => A.same z fun _ => exO_own.symm) fun c xs z => A.same z fun _ => exO_tup.symm
noncomputable def subs (Hm Hq H2 : Hp) : Hp := fun b => open Classical in if Hm b = none ∧ Hq b ≠ none then none else H2 b
theorem subs_in {Hm Hq H2 : Hp} {b : Addr} (h1 : Hm b = none) (h2 : Hq b ≠ none) : subs Hm Hq H2 b = none := by
  unfold subs
  rw [if_pos ⟨h1, h2⟩]
theorem subs_old {Hm Hq H2 : Hp} {b : Addr} (h : Hm b ≠ none) : subs Hm Hq H2 b = H2 b := by
  unfold subs
  rw [if_neg fun z => h z.1]
theorem subs_no {Hm Hq H2 : Hp} {b : Addr} (h : Hq b = none) : subs Hm Hq H2 b = H2 b := by
  unfold subs
  rw [if_neg fun z => z.2 h]
def Kept (Hm Hq H2 : Hp) : Prop := ∀ b o, Hm b = none → Hq b = some o → H2 b = some o
theorem subs_le {Hm Hq H2 : Hp} {b : Addr} {o : HO} (h : subs Hm Hq H2 b = some o) : H2 b = some o := by
  unfold subs at h
  split at h
  · cases h
  · exact h
theorem subs_ne {Hm Hq H2 : Hp} {h : Heap} {fs : List Addr} (A : Adds h fs Hm Hq) (k : Kept Hm Hq H2) {b : Addr} {o : HO} (e : H2 b = some o) (hn : ∀ ob, o ≠ ExO b ob) : subs Hm Hq H2 b = some o := by
  by_cases z : Hm b = none ∧ Hq b ≠ none
  · obtain ⟨u, hu⟩ := Option.ne_none_iff_exists'.mp z.2
    obtain ⟨ob, rfl, _⟩ := A.new b u z.1 hu
    have := k b _ z.1 hu
    rw [e] at this
    exact (hn ob (Option.some.inj this)).elim
  · unfold subs
    rw [if_neg z]
    exact e
section
variable {P : Program} {w : World} {K : PySem.W.Frag} {mg : Str → Option Value} {base : Heap} {A : Around} {outer : List Env} {s : Shared} {Hm Hq : Hp}
theorem Env0.adds (e : Env0 P w K mg base A outer s Hm) (D : Adds s.heap (frs outer) Hm Hq) (hb : ∀ b, Hm b = none → Hq b ≠ none → base.get? b = none) : Env0 P w K mg base A outer s Hq where
  frames := e.frames
  mod := e.mod
  bs := fun b o q => by
    obtain ⟨h1, h2⟩ := e.bs b o q
    refine ⟨h1, ?_⟩
    cases z : Hq b with
    | none => rfl
    | some u =>
      have := hb b h2 (by rw [z]; exact fun y => nomatch y)
      rw [q] at this
      cases this
  bsz := e.bsz
  funs := e.funs
  frf := fun b hb' => by
    have h2 := e.frf b hb'
    cases z : Hq b with
    | none => rfl
    | some u =>
      obtain ⟨_, _, _, q⟩ := D.new b u h2 z
      exact (q hb').elim
  hok := D.hok e.hok
  bare := e.bare
theorem Env0.subs (e : Env0 P w K mg base A outer s Hq) (D : Adds s.heap (frs outer) Hm Hq) : Env0 P w K mg base A outer s Hm where
  frames := e.frames
  mod := e.mod
  bs := fun b o q => ⟨(e.bs b o q).1, D.back (e.bs b o q).2⟩
  bsz := e.bsz
  funs := e.funs
  frf := fun b q => D.back (e.frf b q)
  hok := D.hokm e.hok
  bare := e.bare
end
section
variable {X : Cx} {pins : List (Addr × Obj)} {σ : L2.St} {H Hq H2 : Hp} {s s' : Shared}
theorem Inv.dropped (I : Inv X pins σ H s) (D : Adds s.heap (frs X.stack) H Hq) (k : Kept H Hq H2) (ho : s'.os = s.os) (u : Un (frs X.stack) [] Hq H2 s.heap s'.heap) (hok : HOk X.prog X.w H2 s'.heap) (hg : AllBare s'.gens) : Inv X pins σ (subs H Hq H2) s' := by
  have gone : ∀ b o, s.heap.get? b = some o → H b = none → Hq b ≠ none → s'.heap.get? b = some o := fun b o e n q => by
    obtain ⟨v, hv⟩ := Option.ne_none_iff_exists'.mp q
    obtain ⟨ob, rfl, z, _⟩ := D.new b v n hv
    have w := exO_get (hok b _ (k b _ n hv))
    rw [e] at z
    cases z
    exact w
  refine I.call' (ch := []) ho (⟨fun b o e n nf hx => ?_, fun b o e n hf hx => ?_, fun b o e n hx => ?_, u.there, fun b xs e => ?_, fun b o xs e => ?_, fun b ps e => ?_⟩) (fun b o e => ?_) hg (fun b z => absurd z (by simp))
  · cases q : Hq b with
    | none => exact u.keep b o e q nf hx
    | some v => exact gone b o e n (by rw [q]; exact fun y => nomatch y)
  · cases q : Hq b with
    | none => exact u.slot b o e q hf hx
    | some v =>
      obtain ⟨_, _, _, z⟩ := D.new b v n q
      exact (z hf).elim
  · cases q : Hq b with
    | none =>
      rw [subs_no q]
      exact u.free b o e q hx
    | some v => exact subs_in n (by rw [q]; exact fun y => nomatch y)
  · rw [subs_old (by rw [e]; exact fun y => nomatch y)]
    exact u.tups b xs (D.old _ _ e)
  · rw [subs_old (by rw [e]; exact fun y => nomatch y)]
    exact u.frzs b o xs (D.old _ _ e)
  · rw [subs_old (by rw [e]; exact fun y => nomatch y)]
    exact u.tbls b ps (D.old _ _ e)
  · exact (hok b o (subs_le e)).stay (fun _ _ _ z => z) (fun c z => subs_ne D k z fun _ => exO_own.symm) fun c xs z => subs_ne D k z fun _ => exO_tup.symm
end
noncomputable def adds (Hm Hq H2 : Hp) : Hp := fun b => open Classical in if Hm b = none ∧ Hq b ≠ none then Hq b else H2 b
section
variable {P : Program} {w : World} {outer : List Env} {Hm Hq H2 : Hp} {s s' : Shared} {h2 : Heap}
theorem adds_in {b : Addr} (h1 : Hm b = none) (h : Hq b ≠ none) : adds Hm Hq H2 b = Hq b := by
  unfold adds
  rw [if_pos ⟨h1, h⟩]
theorem adds_no {b : Addr} (h : Hq b = none) : adds Hm Hq H2 b = H2 b := by
  unfold adds
  rw [if_neg fun z => z.2 h]
theorem adds_is (D : Adds s.heap (frs outer) Hm Hq) (keep : ∀ b o, s.heap.get? b = some o → Hm b = none → b ∉ frs outer → h2.get? b = some o) (free : ∀ b o, s.heap.get? b = some o → Hm b = none → H2 b = none) : Adds h2 (frs outer) H2 (adds Hm Hq H2) where
  old := fun b o e => by
    by_cases z : Hm b = none ∧ Hq b ≠ none
    · obtain ⟨v, hv⟩ := Option.ne_none_iff_exists'.mp z.2
      obtain ⟨ob, rfl, q, _⟩ := D.new b v z.1 hv
      rw [free b ob q z.1] at e
      cases e
    · unfold adds
      rw [if_neg z]
      exact e
  new := fun b o n e => by
    by_cases z : Hm b = none ∧ Hq b ≠ none
    · rw [adds_in z.1 z.2] at e
      obtain ⟨ob, rfl, q, nf⟩ := D.new b o z.1 e
      exact ⟨ob, rfl, keep b ob q z.1 nf, nf⟩
    · unfold adds at e
      rw [if_neg z, n] at e
      cases e
theorem adds_free (D : Adds s.heap (frs outer) Hm Hq) {b : Addr} {o : Obj} (e : s.heap.get? b = some o) (n : Hq b = none) (free : ∀ b o, s.heap.get? b = some o → Hm b = none → H2 b = none) : adds Hm Hq H2 b = none := by
  rw [adds_no n]
  exact free b o e (D.back n)
theorem ce_outer {Q Q' : VK} {u : Value} (D : Adds s.heap (frs outer) Hm Hq) (c : CE outer P w Hm s Q u s') (hQ : ∀ v H', Q v H' → (∀ b o, Hm b = none → Hq b = some o → H' b = none) → Q' v (adds Hm Hq H')) : CE outer P w Hq s Q' u s' := by
  obtain ⟨v, H', os, bare, un, hok, rv, q⟩ := c
  have fr : ∀ b o, s.heap.get? b = some o → Hm b = none → H' b = none := fun b o e n => un.free b o e n (by simp)
  have A := adds_is (H2 := H') D (fun b o e n nf => un.keep b o e n nf (by simp)) fr
  refine ⟨v, adds Hm Hq H', os, bare, ⟨fun b o e n nf hx => un.keep b o e (D.back n) nf hx, fun b o e n hf hx => un.slot b o e (D.back n) hf hx, fun b o e n hx => adds_free D e n fr, un.there, fun b xs e => ?_, fun b o xs e => ?_, fun b ps e => ?_⟩, A.hok hok, rv, hQ v H' q fun b o n e => ?_⟩
  · exact A.old _ _ (un.tups b xs (D.same e fun _ => exO_tup.symm))
  · exact A.old _ _ (un.frzs b o xs (D.same e fun _ => exO_frz.symm))
  · obtain ⟨more, z⟩ := un.tbls b ps (D.same e fun _ => exO_tbl.symm)
    exact ⟨more, A.old _ _ z⟩
  · obtain ⟨ob, _, q2, _⟩ := D.new b o n e
    exact fr b ob q2 n
theorem cx_outer {E E' : XK} {u : Value} (D : Adds s.heap (frs outer) Hm Hq) (c : L2.CX P w outer Hm s E u s') (hE : ∀ cls d H', E cls d H' → (∀ b o, Hm b = none → Hq b = some o → H' b = none) → E' cls d (adds Hm Hq H')) : L2.CX P w outer Hq s E' u s' := by
  obtain ⟨a, B, H', cls, d, rfl, fl, hok, ub, na, os, ag, hE'⟩ := c
  have A := adds_is (h2 := B) (H2 := H') D ub.keep ub.free
  refine ⟨a, B, adds Hm Hq H', cls, d, rfl, fl, A.hok hok, ⟨fun b o e n nf => ub.keep b o e (D.back n) nf, ub.slot, fun b o e n => adds_free D e n ub.free, ub.there, fun b xs e => ?_, fun b o xs e => ?_, fun b ps e => ?_⟩, ?_, os, ag, hE _ _ _ hE' fun b o n e => ?_⟩
  · exact A.old _ _ (ub.tups b xs (D.same e fun _ => exO_tup.symm))
  · exact A.old _ _ (ub.frzs b o xs (D.same e fun _ => exO_frz.symm))
  · obtain ⟨more, z⟩ := ub.tbls b ps (D.same e fun _ => exO_tbl.symm)
    exact ⟨more, A.old _ _ z⟩
  · cases z : adds Hm Hq H' a with
    | none => rfl
    | some o =>
      obtain ⟨ob, _, q, _⟩ := A.new a o na z
      have := fl.2.1
      rw [q] at this
      cases this
  · obtain ⟨ob, _, q2, _⟩ := D.new b o n e
    exact ub.free b ob q2 n
end
end VS
end
section
namespace VS
open PySem PySem.Spec PyProof.Rows L2 ClX
open VM (PV SO Store)
variable [Lams] [Wsh]
theorem attrs_rev {ns : List Str} {ks : List Nat} {vs : List V} {c : V} (hk : ks.map an = ns.reverse ++ [("code" : Str)]) (hl : vs.length = ns.length) : attrs ks (vs.reverse ++ [c]) = (ns.zip vs).reverse ++ [(("code" : Str), c)] := by
  unfold attrs
  rw [hk, List.zip_append (by simp [hl]), List.zip_eq_zipWith, List.zip_eq_zipWith, List.zip_eq_zipWith, List.reverse_zipWith hl.symm]
  rfl
theorem RepL.snoc {K : PySem.W.Frag} {F : Hp} {μ : List Addr} {xs : List PV} {vs : List V} {x : PV} {v : V} (r : RepL K F μ xs vs) (h : Rep K F μ x v) : RepL K F μ (xs ++ [x]) (vs ++ [v]) := r.append (repL_cons.mpr ⟨v, [], rfl, h, repL_nil.mpr rfl⟩)
structure XiOk (i : VM.XI) (code : Str) (ns : List Str) : Prop where
  ks : i.ks.map an = ns.reverse ++ [("code" : Str)]
  cd : code = ⟨i.code.toArray⟩
  ok : sOk i.code
  np : i.np = ns.length
  le : ns.length ≤ 1000
section
variable {X : Cx} {i : VM.XI} {code : Str} {ns : List Str} {it : String} {k : Nat} {x : Str} {e : Expr} {es : List Expr} {tas : VM.TA} {p pos pos' : Pos} [TkX X]
theorem err_rep {G F : Hp} {μ : List Addr} {st : Store} {H : Hp} {pxs xs : List PV} {vs : List V} {d : Addr} (Xi : XiOk i code ns) (l : Lay X.K G F μ st H) (r : RepL X.K F μ pxs vs) (hv : i.vals pxs = some xs) (hd : H d = none) :
    vs.length = ns.length ∧ Ext F μ (upd F d (.xd ((ns.zip vs).reverse ++ [(("code" : Str), V.str code)]))) μ ∧ Lay X.K G (upd F d (.xd ((ns.zip vs).reverse ++ [(("code" : Str), V.str code)]))) μ st (upd H d (.xd ((ns.zip vs).reverse ++ [(("code" : Str), V.str code)]))) ∧
      ∃ ws, i.ks.length = xs.length ∧ RepL X.K (upd F d (.xd ((ns.zip vs).reverse ++ [(("code" : Str), V.str code)]))) μ xs ws ∧ (ns.zip vs).reverse ++ [(("code" : Str), V.str code)] = attrs i.ks ws := by
  unfold VM.XI.vals at hv
  split at hv
  · rename_i hn
    cases hv
    have hl : vs.length = ns.length := by rw [r.length, hn, Xi.np]
    refine ⟨hl, ext_upd l hd, l.new hd, vs.reverse ++ [V.str code], ?_, ?_, (attrs_rev Xi.ks hl).symm⟩
    · have := congrArg List.length Xi.ks
      simp at this
      simp [this, hn, Xi.np]
    · exact (r.reverse.mono (ext_upd l hd)).snoc (rep_str.mpr ⟨Xi.ok, by rw [Xi.cd]⟩)
  · cases hv
theorem vs_raise (hG : goodE X.K i.c = true) (Xi : XiOk i code ns) (M : MkE X.prog X.w X.K X.mg X.base k (cA X.K i.c) it code ns) (hr : Room (k + 1) X.A) (hc : X.calm = true) (hg : Gl X x) (hm : X.mg x = some (.ref (cA X.K i.c))) (ha : VA X (e :: es) tas)
    (hdb : (x == ("__debug__" : Str)) = false := by decide) (he : starEach (e :: es) X.env = (false, eval e X.env) :: starEach es X.env := by rfl) (hpl : (backTo pos (starEach es X.env)).any (·.1) = false := by rfl) :
    VSt X (.Raise (some (.Call (.Name x p) (e :: es) [] pos)) none pos') (VM.sRaise i tas) := ps_imp (ps_raise hc TkX.tk (pmk_err M hr hg hm ha hdb he hpl)) fun D σ H h => by
  obtain ⟨G, F, μ, ρ, st, DV, l, r, d, hk⟩ := h
  unfold VM.sRaise at d
  rw [hk.xk] at d
  refine bindA l r d fun vs H1 F1 μ1 pvs st1 e1 l1 r1 p1 q1 => ?_
  split at q1
  · rename_i xs hv
    have hl : vs.length = ns.length := by
      unfold VM.XI.vals at hv
      split at hv
      · rename_i hn
        rw [p1.length, hn, Xi.np]
      · cases hv
    refine ⟨hl, by rw [hl]; exact Xi.le, fun d hd => ?_⟩
    obtain ⟨_, e2, l2, ws, h1, h2, h3⟩ := err_rep Xi l1 p1 hv hd
    exact l1.konX _ _ _ _ _ _ st1 e2 l2.toLayB ⟨i.c, i.ks, xs, d, ws, rfl, hG, rfl, rfl, by rw [upd_same, h3], h1, h2⟩ q1
  · exact q1.elim
end
theorem fget_lookup {K : PySem.W.Frag} {F : Hp} {μ : List Addr} : ∀ {ks : List Nat} {xs : List PV} {vs : List V} {n : Nat} {y : PV}, RepL K F μ xs vs → VM.fget ks xs n = some y → ∃ v, (attrs ks vs).lookup (an n) = some v ∧ Rep K F μ y v
  | [], xs, vs, n, y, r, h => by cases xs <;> cases h
  | k :: ks, [], vs, n, y, r, h => by cases h
  | k :: ks, x :: xs, vs, n, y, r, h => by
    obtain ⟨v, ws, rfl, h1, h2⟩ := repL_cons.mp r
    unfold VM.fget at h
    unfold attrs
    rw [List.map_cons, List.zip_cons_cons]
    split at h
    · rename_i e
      cases h
      subst e
      exact ⟨v, by simp [List.lookup], h1⟩
    · rename_i e
      obtain ⟨u, h3, h4⟩ := fget_lookup h2 h
      refine ⟨u, ?_, h4⟩
      have ne : (an n == an k) = false := by
        rw [beq_eq_false_iff_ne]
        exact fun z => e (an_inj z).symm
      simp only [List.lookup, ne]
      exact h3
section
variable {X : Cx} {a : Expr} {ta : VM.TE} {m : Str} {n : Nat} {pos : Pos}
theorem ve_xfld (ha : VE X a ta) (hn : an n = m) (hx : m ∈ errAttrs) (hb : attributeBase a m X.env (eval a X.env) = eval a X.env := by rfl) : VE X (.Attribute a m pos) (VM.eXFld n ta) := by
  refine ⟨fun pins s σ H Q I h => ?_⟩
  obtain ⟨G, F, μ, ρ, st, k, l, r, d, hk⟩ := h
  refine attr_of hb (thn (ha.run pins s σ H (fun v H1 => ∃ (a : Addr) (C dd : Addr) (fs : List (Str × V)) (φ : Heap → Prop) (y : V), v = .ref a ∧ XfC X.K C ∧ PySem.W.findIn X.K (.ref C) m = some none ∧ H1 a = some (.ext φ) ∧ (∀ h : Heap, φ h → ∃ oe us, h.get? a = some oe ∧ oe.cls = .ref C ∧ oe.dict = some dd ∧ oe.data = .fields us) ∧ H1 dd = some (.xd fs) ∧ fs.lookup m = some y ∧ Q y H1) I
    (bind1 l r d fun v H1 F1 μ1 px st1 e1 l1 r1 p1 q1 => ?_)) fun u s1 ⟨v, H1, I1, rx, a', C, dd, fs, φ, y, ev, T, hno, ea, hφ, ed, hl, q⟩ => ?_)
  · split at q1
    · rename_i c ks xs
      split at q1
      · rename_i y hy
        unfold Rep at p1
        obtain ⟨a', dd, vs, φ, rfl, h0, h1, h2, h3, h4, h5⟩ := p1
        obtain ⟨w, h6, h7⟩ := fget_lookup h5 hy
        obtain ⟨T, hnos⟩ := goodE_xf h0
        have hno := hnos m hx
        rw [hn] at h6
        exact ⟨a', cA X.K c, dd, _, φ, w, rfl, T, hno, l1.same _ _ h1, h2, l1.same _ _ h3, h6, (hk.mono e1).same l1 h7 q1⟩
      · exact q1.elim
    · exact q1.elim
  subst ev
  obtain rfl : u = Value.ref a' := rx
  have ho : ObjOk X.prog X.w H1 s1.heap a' (.ext φ) := I1.hok a' _ ea
  obtain ⟨oe, us, g1, g2, g3, g4⟩ := hφ _ ho.1
  have hd' : ObjOk X.prog X.w H1 s1.heap dd (.xd fs) := I1.hok dd _ ed
  obtain ⟨mA, hns, hr⟩ := hd'
  obtain ⟨od, z1, z2⟩ := lookIn_ns hns
  obtain ⟨w, hw, rw'⟩ := RelO.some_of (v := y) (o := mA m) (by rw [← hl]; exact hr m)
  have J : PySem.W.InstAt s1.heap a' oe C (some od) := ⟨g1, g2, by unfold PySem.W.notCls; rw [g4] <;> rfl, by rw [g3]; exact z1⟩
  exact HandSPX.exc_get I1.kIn J T.ga T.gg T.exC (PySem.W.findObj_own T.hdC hno rfl (by rw [z2, hw])) (handed_of rw') ⟨y, H1, I1.tok _, rw', q⟩
end
end VS
end
section
namespace VS
open PySem PySem.Spec PyProof.Rows L2
open VM (PV SO Store)
variable [Lams] [Wsh]
def cxC (P : Program) (w : World) (K : PySem.W.Frag) (mg : Str → Option Value) (base : Heap) (N : List Str) (qual : Str) (scope : Scope) (f : Addr) (cd : Value) (A : Around) (outer : List Env) (s : Shared) (H : Hp) (E : XK) : Cx :=
  { cxOf (L2.CX P w) P w K mg base N qual scope f cd A outer s H E with calm := false }
structure FnC (P : Program) (w : World) (K : PySem.W.Frag) (mg : Str → Option Value) (base : Heap) (k : Nat) (f : Addr) (fd : FuncData) (ps : List Str) (sp : Sp) : Prop where
  len : ∀ vs H Q E, sp vs H Q E → vs.length = ps.length
  run : ∀ (A : Around) (outer : List Env) (s : Shared) (H : Hp) (args : Args) (us : List Value) (vs : List V) (Q : VK) (E : XK), L2H.RoomH k A → Env0 P w K mg base A outer s H → BindsTo s fd args (ps.zip us) → Vals vs us → sp vs H Q E →
    codeAny (model P w) A (.call (.ref f) args) (CR (L2.CX P w) outer P w H s Q E) s
theorem FnC.ok {P : Program} {w : World} {K : PySem.W.Frag} {mg : Str → Option Value} {base : Heap} {k : Nat} {f : Addr} {fd : FuncData} {ps : List Str} {sp : Sp} (F : FnC P w K mg base k f fd ps sp) : FnOk P w K mg base (L2.CX P w) k f fd ps sp :=
  ⟨F.len, fun A outer s H args us vs Q E hr e0 hb r h => F.run A outer s H args us vs Q E (L2H.roomH_of hr) e0 hb r h⟩
theorem inv_cool {P : Program} {w : World} {K : PySem.W.Frag} {mg : Str → Option Value} {base : Heap} {N : List Str} {qual : Str} {scope : Scope} {f : Addr} {cd : Value} {A A0 : Around} {outer : List Env} {s s1 : Shared} {H : Hp} {E : XK} {σ : L2.St} {H' : Hp}
    (hf : A.frames = some outer) (I : Inv (cxOf (L2.CX P w) P w K mg base N qual scope f cd A0 outer s H E) [] σ H' s1) : Inv (cxC P w K mg base N qual scope f cd A outer s H E) [] σ H' s1 :=
  have ok := I.ok
  ⟨⟨ok.mod, ok.kind, ok.glob, ok.blt, ok.above, ok.inj, ok.has, ok.cab, fun z => Bool.noConfusion (show false = true from z), Around.frames_deeper hf, ok.stk, ok.exf, ok.bs, ok.bsz, ok.noex, ok.exfs, ok.funs, ok.frf⟩, I.os, I.bare, I.base, I.loc, I.cell, I.free, I.freeC, I.pin, I.hok, I.len⟩
theorem fnC_of {P : Program} {w : World} {K : PySem.W.Frag} {mg : Str → Option Value} {base : Heap} {k : Nat} {x qual : Str} {params : Arguments} {body : List Stmt} {scope : Scope} {f : Addr} {fd : FuncData} {N ps : List Str} {dvs : List V} {kws : List (Str × V)} {sp : Sp}
    (F : FunD K x qual params body scope dvs kws f fd) (S : FnScope N ps scope) (len : ∀ vs H Q E, sp vs H Q E → vs.length = ps.length)
    (hbody : ∀ (cdv : Value) (A : Around) (outer : List Env) (s : Shared) (H : Hp) (vs : List V) (Q : VK) (E : XK), L2H.RoomH k (A.deeper (envOfC qual scope s.heap.objs.size f cdv)) → sp vs H Q E →
      ∃ t, PSs (cxC P w K mg base N qual scope f cdv A outer s H E) body t ∧ t { nx := fun _ H' => Q .non H', rt := Q } (L2.start N vs) H) : FnC P w K mg base (k + 1) f fd ps sp := by
  obtain ⟨oc, od, dV, kV, doc, pm, an, cdv, ct, osl, rfl, lk, hcd, _, _⟩ := F.ex
  refine ⟨len, fun A outer s H args us vs Q E hr e0 hb r hsp => ?_⟩
  have inK : K.In s.heap := e0.mod.kin.keeps fun b o q => (e0.bs b o q).1
  have nolim : s.heap.NoLimit := e0.mod.nolimit.keeps fun b o q => (e0.bs b o q).1
  have vs_len := len _ _ _ _ hsp
  refine codeAny_call_function hr.depth (inK _ _ lk) rfl S.co S.gen rfl (PySem.W.codeRec_of inK hcd) (hb _ _ _ _ ?_)
  refine wpAny_newFunctionEnv_cells S.kind (fun y hy => ?_) fun env he s1 x => ?_
  · obtain ⟨n, v⟩ := y
    exact (S.par n (List.of_mem_zip hy).1).elim .inl fun q => .inr ⟨q, PySem.W.cellsFrom_some _ _ _ (.inl q)⟩
  · subst he
    refine ⟨nolim.keeps x.toInCall.keep, codeAny_func ?_⟩
    have e1 : Env0 P w K mg base { A with handled := none } outer s H := ⟨e0.frames, e0.mod, e0.bs, e0.bsz, e0.funs, e0.frf, e0.hok, e0.bare⟩
    obtain ⟨t, ht, hq⟩ := hbody cdv A outer s H vs Q E (hr.deeper _) hsp
    have I := inv_cool (A := A) e0.frames (inv_start (CX := L2.CX P w) (P := P) (w := w) (K := K) (mg := mg) (base := base) (qual := qual) (f := f) (cd := cdv) (A := { A with handled := none }) (E := E) S rfl e1 vs_len r x)
    refine wpAny_mono (ht.run [] s1 _ H _ I hq) (fun fl s' out => ?_) fun _ _ out => out
    have done : ∀ {σ' : L2.St} {H' : Hp} {v : V} {u : Value}, Inv (cxC P w K mg base N qual scope f cdv A outer s H E) [] σ' H' s' → L2.RelV v u → Q v H' → CE outer P w H s Q u s' := fun {σ' H' v u} J rv q => ⟨v, H', J.os, J.bare, J.base, J.hok, rv, q⟩
    match fl with
    | .ret u =>
      obtain ⟨v, σ', H', J, rv, q⟩ := out
      exact done J rv q
    | .next =>
      obtain ⟨σ', H', J, q⟩ := out
      exact done (v := V.non) (u := Value.none) J rfl q
    | .brk => exact out.choose_spec.choose_spec.2.elim
    | .cont => exact out.choose_spec.choose_spec.2.elim
theorem fnC_succ {P : Program} {w : World} {K : PySem.W.Frag} {mg : Str → Option Value} {base : Heap} {FT : Nat → Option VM.FD} {n k i : Nat} {x qual : Str} {params : Arguments} {body : List Stmt} {scope : Scope} {f : Addr} {fd : FuncData} {N ps : List Str} {Fd : VM.FD}
    {dvs : List V} {kws : List (Str × V)} (F : FunD K x qual params body scope dvs kws f fd) (S : FnScope N ps scope) (hF : FT i = some Fd) (hp : Fd.np = ps.length) (hs : Fd.ns = N.length)
    (hb : ∀ [Wsh] (cdv : Value) (A : Around) (outer : List Env) (s : Shared) (H : Hp) [TkX (cxC P w K mg base N qual scope f cdv A outer s H Wsh.E)], L2H.RoomH k (A.deeper (envOfC qual scope s.heap.objs.size f cdv)) → VB (cxC P w K mg base N qual scope f cdv A outer s H Wsh.E) body (Fd.body (VM.callN FT n))) :
    FnC P w K mg base (k + 1) f fd ps (spOf K (VM.callN FT (n + 1)) i ps.length) := by
  refine fnC_of F S (fun vs H Q E h => h.1) fun cdv A outer s H vs Q E hr h => ?_
  obtain ⟨_, G, F, μ, st, pxs, k, x, l, r, d, hk, hx⟩ := h
  unfold VM.callN at d
  rw [hF] at d
  obtain ⟨hl, d⟩ := d
  refine ⟨_, @hb (wshOf K G F μ x E hx) cdv A outer s H (@TkX.mk _ (wshOf K G F μ x E hx) _ (takes_of rfl rfl rfl rfl)) hr, ?_⟩
  exact ⟨G, F, μ, _, st, _, l.lay, envR_start r hl hs, d, @KonS.mk _ (wshOf K G F μ x E hx) _ _ _ _ _ _ (fun σ' H' F' μ' ρ' st' e l' r' q => hk .non H' F' μ' .non st' e (@Lay.toLayB _ (wshOf K G F μ x E hx) _ _ _ _ _ _ l') (rep_non.mpr rfl) q) hk.kon (fun _ _ _ _ _ _ _ _ _ q => q.elim) (fun _ _ _ _ _ _ _ _ _ q => q.elim) rfl⟩
end VS
end
section
namespace VS
open PySem PySem.Spec PyProof.Rows L2
open VM (PV SO Store)
section
variable {X : Cx} {pins : List (Addr × Obj)} {σ : L2.St} {H : Hp} {s : Shared}
theorem inv_suiteX (I : Inv X pins σ H s) {a : Addr} {oe : Obj} {vs : Array Value} (ha : s.heap.get? a = some oe) (hd : oe.data = .fields vs) (na : H a = none) (n0 : X.s_0.heap.get? a = none) (nL : a ≠ X.env.locals) (np : ∀ p ∈ X.pn ++ pins, p.1 ≠ a) :
    Inv (X.suite a (X.pn ++ pins)) [] σ (upd H a (ExO a oe)) s := by
  have ncell : ∀ x c, X.env.cells.lookup x = some c → c ≠ a := fun x c e z => by
    obtain ⟨v, o, q1, q2⟩ := I.cell x c e
    rw [z, ha] at q1
    cases q1
    rw [hd] at q2
    cases q2
  have B := I.base
  refine ⟨I.ok.suite _ _, I.os, I.bare, ⟨B.keep, B.slot, fun b o e n hx => ?_, B.there, fun b xs e => ?_, fun b o u e => ?_, fun b ps e => ?_⟩, I.loc, I.cell, ?_, fun x c e => ?_, fun p hp => ?_, fun b o e => ?_, I.len⟩
  · rw [upd_ne (fun z => by rw [z, n0] at e; cases e)]
    exact B.free b o e n hx
  · have q := B.tups b xs e
    rw [upd_ne (ne_of_none q na)]
    exact q
  · have q := B.frzs b o u e
    rw [upd_ne (ne_of_none q na)]
    exact q
  · obtain ⟨more, q⟩ := B.tbls b ps e
    exact ⟨more, by rw [upd_ne (ne_of_none q na)]; exact q⟩
  · show upd H a (ExO a oe) X.env.locals = none
    rw [upd_ne (Ne.symm nL)]
    exact I.free
  · show upd H a (ExO a oe) c = none
    rw [upd_ne (ncell x c e)]
    exact I.freeC x c e
  · rw [List.append_nil] at hp
    have hp' : p ∈ X.pn ++ pins := hp
    obtain ⟨q1, q2, q3, q4, q5⟩ := I.pin p hp'
    exact ⟨q1, by rw [upd_ne (np p hp')]; exact q2, q3, q4, q5⟩
  · by_cases hb : b = a
    · subst hb
      rw [upd_same] at e
      cases e
      exact exO_ok ha
    · rw [upd_ne hb] at e
      refine (I.hok b o e).stay (fun _ _ _ z => z) (fun c z => ?_) fun c xs z => ?_
      · rw [upd_ne (ne_of_none z na)]
        exact z
      · rw [upd_ne (ne_of_none z na)]
        exact z
theorem inv_suiteBack {a : Addr} (I : Inv (X.suite a (X.pn ++ pins)) [] σ H s) (ok : X.Ok) : Inv X pins σ H s :=
  ⟨ok, I.os, I.bare, I.base, I.loc, I.cell, I.free, I.freeC, fun p hp => I.pin p (List.mem_append_left _ hp), I.hok, I.len⟩
end
def w3 (K : PySem.W.Frag) (cs : List Value) (i n : Nat) (ts : L2.TS) (D : L2.Ends) : WX := fun cls d σ H => PySem.W.exmAny K cls cs = some true ∧ ∀ a oe, σ.length = n → Zc cls d oe → (∃ vs, oe.data = .fields vs) → H a = none →
  ts { nx := fun σ' H' => D.nx (σ'.set i none) H', rt := D.rt, bk := fun σ' H' => D.bk (σ'.set i none) H', ct := fun σ' H' => D.ct (σ'.set i none) H' } (σ.set i (some (.ref a))) (upd H a (ExO a oe))
section
variable {X : Cx} {x1 x2 x3 n : Str} {c1 c2 c3 : Value} {i : Nat} {body suite : List Stmt} {b₀ : Stmt} {q1 q2 q3 tp pos pos' : Pos} {kk : Nat} {tb : WX → L2.TS} {ts : L2.TS}
theorem ps_try3 (hex : X.ex = []) (hs : X.stack = X.env :: X.outer) (hf : X.env.frame = some X.env.locals) (hN : X.N.Nodup) (hi : X.N[i]? = some n) (hln : X.env.kindOf n = some .local) (g1 : Gl X x1) (g2 : Gl X x2) (g3 : Gl X x3) (m1 : X.mg x1 = some c1) (m2 : X.mg x2 = some c2) (m3 : X.mg x3 = some c3)
    (d1 : (x1 == ("__debug__" : Str)) = false) (d2 : (x2 == ("__debug__" : Str)) = false) (d3 : (x3 == ("__debug__" : Str)) = false)
    (hb : ∀ (W : WX) (pn : List (Addr × Obj)) (xe : Value → Shared → Prop), Takes (X.tr pn xe) W → PSs (X.tr pn xe) body (tb W))
    (hsu : ∀ (a : Addr) (pn : List (Addr × Obj)), PSs (X.suite a pn) (b₀ :: suite) ts) :
    PS X (.Try body [.ExceptHandler (some (.Tuple [.Name x1 q1, .Name x2 q2, .Name x3 q3] kk tp)) (some n) (b₀ :: suite) pos'] [] [] pos) (fun D σ H => tb (w3 X.K [c1, c2, c3] i X.N.length ts D) D σ H) := by
  refine ⟨fun pins s σ H D I h => ?_⟩
  have ok := I.ok
  have frA : X.A.frames = some (X.env :: X.outer) := ok.frames.trans (by rw [hs])
  refine wpAny_Try_except ?_
  -- what is done with an error of the body
  let look : Value → Shared → Prop := fun e s₁ =>
    wpAny (model X.prog X.w) X.A (noteFrame e X.env) (fun _ s₂ =>
      wpAny (model X.prog X.w) X.A (setFlight e none) (fun _ s₃ =>
        wpAny (model X.prog X.w) X.A (handleBy e X.env [.ExceptHandler (some (.Tuple [.Name x1 q1, .Name x2 q2, .Name x3 q3] kk tp)) (some n) (b₀ :: suite) pos']) (SP X pins D) X.xe s₃)
        X.xe s₂) X.xe s₁
  have takes : Takes (X.tr (X.pn ++ pins) look) (w3 X.K [c1, c2, c3] i X.N.length ts D) := by
    rintro u s' ⟨a, B, sI, pins', σ', H', cls, d, rfl, J', nb, up, sky, na, os, ag, hcls, hts⟩
    have J : Inv X pins σ' H' sI := J'.ofTry ok
    have sky2 : Sky B (X.env :: X.outer) a (Zc cls d) X.env.locals s'.heap := hs ▸ (show Sky B X.stack a (Zc cls d) X.env.locals s'.heap from sky)
    show wpAny (model X.prog X.w) X.A (noteFrame (.ref a) X.env) _ _ _
    refine Sky.land Zc.steady frA hf sky2 fun hA flA upA => ?_
    obtain ⟨oA, vA, eA, zA, dA⟩ := flA.there
    -- where the error does not stand
    have nofr : a ∉ frs (X.env :: X.outer) := fun hm => by
      obtain ⟨_, o', e', hnf⟩ := flA.2.2.1.mem hm
      rw [eA] at e'
      cases e'
      exact hnf _ dA
    have nL : a ≠ X.env.locals := fun z => nofr (List.mem_filterMap.mpr ⟨X.env, List.mem_cons_self, z ▸ hf⟩)
    have noI : sI.heap.get? a = none := by
      cases e : sI.heap.get? a with
      | none => rfl
      | some o =>
        have := nb a o e (by rw [hs]; exact nofr)
        rw [flA.2.1] at this
        cases this
    have no0 : X.s_0.heap.get? a = none := by
      cases e : X.s_0.heap.get? a with
      | none => rfl
      | some o =>
        obtain ⟨o', q⟩ := J.base.there a o e (by rw [hex]; exact List.not_mem_nil)
        rw [noI] at q
        cases q
    have np : ∀ p ∈ X.pn ++ pins, p.1 ≠ a := fun p hp z => by
      have := (J.pin p hp).1
      rw [z, noI] at this
      cases this
    have J3 : Inv X pins σ' H' { s' with heap := hA } := J.landed nb flA.1 (up.trans upA) os ag
    have S3 := inv_suiteX J3 eA dA na no0 nL np
    refine wpAny_handleBy_cons (codeAny_handlers_test ?_) (fun z => nomatch z)
    refine wpAny_Tuple (Calls.spliced_cons (ld_glob (X := X.suite a (X.pn ++ pins)) S3 g1 m1 ?_ d1))
    refine Calls.spliced_cons (ld_glob (X := X.suite a (X.pn ++ pins)) S3 g2 m2 ?_ d2)
    refine Calls.spliced_cons (ld_glob (X := X.suite a (X.pn ++ pins)) S3 g3 m3 ?_ d3)
    refine Calls.spliced_nil ⟨by rw [sizeLine_eq]; simp, ?_⟩
    have kp : ∀ b o, hA.get? b = some o → (hA.push { cls := .type "tuple", data := .seq [c1, c2, c3].toArray }).get? b = some o := fun _ _ z => Heap.get?_push_of_some _ z
    have LT : PySem.W.Looks (model X.prog X.w) (hA.push { cls := .type "tuple", data := .seq [c1, c2, c3].toArray }) (typeOf (.ref a)) cls := fun A Q E s k q => wpAny_typeOf_ref (k _ _ (kp _ _ eA)) (by rw [zA.1]; exact q)
    refine (PySem.W.exm_tup3 (J3.kIn.keeps kp) LT (Heap.get?_push_size hA rfl) hcls).here ?_
    refine codeAny_handlers_suite_as ?_
    have flB : HandSPX.FlyingZ B (X.env :: X.outer) a (Zc cls d) (hA.push { cls := .type "tuple", data := .seq [c1, c2, c3].toArray }) := by
      obtain ⟨f1, f2, f3, oe, vs, T, oT, tq, z1, z2, z3, z4, z5, z6, z7, z8, z9⟩ := flA
      exact ⟨fun b o e => kp b o (f1 b o e), f2, f3.of_keeps fun b o e _ => ⟨o, kp b o e, rfl⟩, oe, vs, T, oT, tq, kp _ _ z1, z2, z3, z4, z5, z6, kp _ _ z7, z8, z9⟩
    refine HandSPX.lands_againZ flB fun hC flC upC => ?_
    have J4 : Inv X pins σ' H' { s' with heap := hC } := J.landed nb flC.1 (((up.trans upA).trans (Heap.UpToSlots.of_keeps kp)).trans upC) os ag
    obtain ⟨oC, vC, eC, zC, dC⟩ := flC.there
    have S4 := inv_suiteX J4 eC dC na no0 nL np
    refine store_ok (X := X.suite a (X.pn ++ pins)) (v := .ref a) S4 hN hi (.inl hln) rfl (fun s5 S5 => ?_) (.inr hln)
    refine wpAny_mono ((hsu a (X.pn ++ pins)).run [] s5 _ _ _ S5 (hts a oC J4.len zC ⟨_, dC⟩ na)) (fun f s6 out => ?_) (fun _ _ z => False.elim z)
    have leave : ∀ {σ6 : L2.St} {H6 : Hp} {Q : Shared → Prop}, Inv (X.suite a (X.pn ++ pins)) [] σ6 H6 s6 → (∀ s7, Inv X pins (σ6.set i none) H6 s7 → Q s7) →
        wpAny (model X.prog X.w) X.A (do bindName X.env n .none; unbindBehindTheSuite X.env n pos') (fun _ s7 => Q s7) X.xe s6 := fun S6 hq => gone_ok (inv_suiteBack S6 ok) hN hi hln hq
    match f with
    | .next =>
      obtain ⟨σ6, H6, S6, q6⟩ := out
      exact leave S6 fun s7 J7 => ⟨_, _, J7, q6⟩
    | .brk =>
      obtain ⟨σ6, H6, S6, q6⟩ := out
      exact leave S6 fun s7 J7 => ⟨_, _, J7, q6⟩
    | .cont =>
      obtain ⟨σ6, H6, S6, q6⟩ := out
      exact leave S6 fun s7 J7 => ⟨_, _, J7, q6⟩
    | .ret u =>
      obtain ⟨v6, σ6, H6, S6, r6, q6⟩ := out
      exact leave S6 fun s7 J7 => ⟨_, _, _, J7, r6, q6⟩
  refine wpAny_mono ((hb _ (X.pn ++ pins) look takes).run [] s σ H D (I.toTry _) h) (fun f s1 out => ?_) (fun e s1 he => he)
  match f with
  | .next =>
    obtain ⟨σ', H', J', q⟩ := out
    exact wpAny_execs_nil ⟨σ', H', J'.ofTry ok, q⟩
  | .brk =>
    obtain ⟨σ', H', J', q⟩ := out
    exact ⟨σ', H', J'.ofTry ok, q⟩
  | .cont =>
    obtain ⟨σ', H', J', q⟩ := out
    exact ⟨σ', H', J'.ofTry ok, q⟩
  | .ret u =>
    obtain ⟨v, σ', H', J', r, q⟩ := out
    exact ⟨v, σ', H', J'.ofTry ok, r, q⟩
end
variable [Lams] [W : Wsh]
section
variable {X : Cx} {x1 x2 x3 n : Str} {c1 c2 c3 : Value} {i : Nat} {suite : List Stmt} {b₀ : Stmt} {q1 q2 q3 tp p3 pos pos' : Pos} {kk : Nat} {e : Expr} {te : VM.TE} {h : VM.TS}
theorem vs_tryR (hex : X.ex = []) (hs : X.stack = X.env :: X.outer) (hf : X.env.frame = some X.env.locals) (hN : X.N.Nodup) (hi : X.N[i]? = some n) (hln : X.env.kindOf n = some .local) (g1 : Gl X x1) (g2 : Gl X x2) (g3 : Gl X x3) (m1 : X.mg x1 = some (.ref (cA X.K 35))) (m2 : X.mg x2 = some (.ref (cA X.K 36))) (m3 : X.mg x3 = some (.ref (cA X.K 34)))
    (hok : gotIn X.K = true) (he : ∀ [Wsh] (pn : List (Addr × Obj)) (xe : Value → Shared → Prop) [TkX (X.tr pn xe)], VE (X.tr pn xe) e te) (hh : ∀ [Wsh] (a : Addr) (pn : List (Addr × Obj)) [TkX (X.suite a pn)], VB (X.suite a pn) (b₀ :: suite) h)
    (d1 : (x1 == ("__debug__" : Str)) = false := by decide) (d2 : (x2 == ("__debug__" : Str)) = false := by decide) (d3 : (x3 == ("__debug__" : Str)) = false := by decide) :
    VSt X (.Try [.Return (some e) p3] [.ExceptHandler (some (.Tuple [.Name x1 q1, .Name x2 q2, .Name x3 q3] kk tp)) (some n) (b₀ :: suite) pos'] [] [] pos) (VM.sTryR te i X.N.length h) := by
  refine ps_imp (ps_try3 (tb := fun Wx D σ H => ∃ W' : Wsh, (∀ cls d σ' H', W'.E cls d H' → Wx cls d σ' H') ∧ tRet (@rE _ W' X.K te) D σ H) (ts := @rS _ W.no X.K h) hex hs hf hN hi hln g1 g2 g3 m1 m2 m3 d1 d2 d3 (fun Wx pn xe tk => ⟨fun pins s σ H D I hq => ?_⟩) fun a pn => @hh W.no a pn (tkx_no _)) fun D σ H hq => ?_
  · obtain ⟨W', hW, hq⟩ := hq
    exact (pss_one (ps_ret (@he W' pn xe (@TkX.mk _ W' _ (tk.imp fun c d σ H z => hW c d σ H z))))).run pins s σ H D I hq
  · obtain ⟨G, F, μ, ρ, st, DV, l, r, d, hk⟩ := hq
    have hX : KonX X.K G F μ (fun v st => VM.exOk v = true ∧ h { nx := fun _ _ => False, rt := DV.rt, bk := fun _ _ => False, ct := fun _ _ => False, xk := VM.noX } ((List.replicate X.N.length none).set i (some v)) st)
        (fun cls d H' => ∀ σ', w3 X.K (gotCs X.K) i X.N.length (@rS _ W.no X.K h) D cls d σ' H') := by
      intro cls dd H' F' μ' px st' e1 b rx q σ'
      obtain ⟨c, ks, xs, da, vs, rfl, hG, rfl, rfl, hd, hl, rl⟩ := rx
      obtain ⟨q1, q2⟩ := q
      refine ⟨goodE_got hG hok, fun a oe hlen hz ⟨us, hdat⟩ na => ?_⟩
      have l1 := l.back e1 b
      have e2 := ext_upd (o := ExO a oe) l1 na
      have l2 := l1.new (o := ExO a oe) na
      have rp : Rep X.K (upd F' a (ExO a oe)) μ' (.exc c ks xs) (.ref a) := by
        unfold Rep
        exact ⟨a, da, vs, fun h => h.get? a = some oe, rfl, hG, upd_same, fun h z => ⟨oe, us, z, hz.1, hz.2, hdat⟩, e2.same _ _ hd, hl, rl.mono e2⟩
      refine ⟨G, _, μ', _, st', _, l2.no, ⟨by simp [hlen], fun j y hj => ?_⟩, q2, ?_⟩
      · by_cases ji : i = j
        · subst ji
          by_cases hlt : i < X.N.length
          · rw [List.getElem?_set_self (by simpa using hlt)] at hj
            cases hj
            exact ⟨.ref a, List.getElem?_set_self (by rw [hlen]; exact hlt), rp⟩
          · rw [List.getElem?_eq_none (by simpa using hlt)] at hj
            cases hj
        · rw [List.getElem?_set_ne ji, List.getElem?_replicate] at hj
          split at hj <;> cases hj
      · refine @KonS.mk _ W.no _ _ _ _ _ _ (fun _ _ _ _ _ _ _ _ _ z => z.elim) (fun v H2 F2 μ2 y st2 e3 l3 r3 q3 => ?_) (fun _ _ _ _ _ _ _ _ _ z => z.elim) (fun _ _ _ _ _ _ _ _ _ z => z.elim) rfl
        exact hk.rt v H2 F2 μ2 y st2 ((e1.trans e2).trans e3) l3.ofNo r3 q3
    refine ⟨wshOf X.K G F μ _ _ hX, fun cls d σ' H' z => z σ', ?_⟩
    exact ⟨G, F, μ, ρ, st, DV.rt, l.toLayB.lay, r, d, fun v H' F' μ' x st' e1 l1 r1 q1 => hk.rt v H' F' μ' x st' e1 (l.back e1 (@Lay.toLayB _ (wshOf X.K G F μ _ _ hX) _ _ _ _ _ _ l1)) r1 q1⟩
end
structure CalleC (P : Program) (w : World) (K : PySem.W.Frag) (mg : Str → Option Value) (base : Heap) (x : Str) (cs : VM.CS) (k i : Nat) (ps : List Str) : Prop where
  ok : ∃ f fd, FnC P w K mg base k f fd ps (spOf K cs i ps.length) ∧ mg x = some (.ref f) ∧ PySem.W.keepIn K (.ref f) = true ∧ Binds K fd ps [] ∧ LkF K f fd
  len : ∀ us st k x, cs i us st k x → us.length = ps.length
section
variable {X : Cx} {x : Str} {cs : VM.CS} {k i : Nat} {ps : List Str} {e : Expr} {es : List Expr} {tas : VM.TA} {p pos : Pos}
theorem ve_callC [TkX X] (C : CalleC X.prog X.w X.K X.mg X.base x cs k i ps) (hr : L2H.RoomH k X.A) (hg : Gl X x) (ha : VA X (e :: es) tas)
    (hdb : (x == ("__debug__" : Str)) = false := by decide) (he : starEach (e :: es) X.env = (false, eval e X.env) :: starEach es X.env := by rfl) (hpl : (backTo pos (starEach es X.env)).any (·.1) = false := by rfl) :
    VE X (.Call (.Name x p) (e :: es) [] pos) (VM.eCall cs i tas) := by
  obtain ⟨f, fd, F, hm, hkp, hb, _⟩ := C.ok
  refine ⟨fun pins s σ H Q I h => ?_⟩
  obtain ⟨G, F0, μ, ρ, st, kk, l, r, d, hk⟩ := h
  refine wpAny_Call_Name_kw (ld_glob I hg hm ?_ hdb)
  refine PySem.W.callWith_K (h₀ := X.base) I.ok.mod.kin hkp (thn (ha.run pos pins s σ H (fun vs H1 => spOf X.K cs i ps.length vs H1 Q Wsh.E) I (bindA l r d fun vs H1 F1 μ1 pvs st1 e1 l1 r1 p1 q1 => sp_of (C.len _ _ _ _ q1) l1 p1 q1 (hk.mono e1))) fun us s1 ⟨vs, H1, I1, rv, hsp⟩ => ⟨I1.kIn, ?_⟩) he hpl
  have hl : us.length = ps.length := by rw [← rv.length]; exact F.len _ _ _ _ hsp
  have bnd := hb s1 us I1.kIn (by rw [List.append_nil]; exact hl)
  rw [List.append_nil] at bnd
  refine wpAny_call (codeAny_mono (F.run X.A X.stack s1 H1 ⟨us, []⟩ us vs Q Wsh.E hr I1.env0 bnd rv hsp) fun r s' out => ?_)
  match r with
  | .error er => exact TkX.pass pins σ H1 s1 er s' I1 out
  | .ok (.ret u) => exact I1.after out
  | .ok .next => exact out.elim
  | .ok .brk => exact out.elim
  | .ok .cont => exact out.elim
end
end VS
end
section
namespace VS
open PySem PySem.Spec PyProof.Rows L2
open VM (PV SO Store)
variable [Lams] [W : Wsh]
theorem Lay.table {K : PySem.W.Frag} {G F : Hp} {μ : List Addr} {st : Store} {H : Hp} (l : Lay K G F μ st H) {P c : Addr} {q : Str} {ps : Array Value} {pos : Pos} (hm : (P, q) ∈ lamT K) (hu : ∀ p ∈ lamT K, p.1 = P → p.2 = q)
    (hP : H P = some (.tbl ps)) (hc : H c = none) : Lay K G (upd F c (LamX.CodeO c q)) μ st (upd (upd H P (.tbl (ps ++ #[rawInt pos.line, rawInt pos.col, .ref c]))) c (LamX.CodeO c q)) := by
  obtain ⟨t1, t2, t3, ps', t4, t5, t6⟩ := l.tab _ hm
  rw [hP] at t4
  cases t4
  have e1 : Ext F μ (upd F c (LamX.CodeO c q)) μ := ext_upd l hc
  have ne : ∀ {a : Addr} {o : HO}, H a = some o → a ≠ c := fun e => ne_of_none e hc
  have at_ : ∀ {a : Addr}, a ≠ P → a ≠ c → upd (upd H P (.tbl (ps ++ #[rawInt pos.line, rawInt pos.col, .ref c]))) c (LamX.CodeO c q) a = H a := fun h1 h2 => by rw [upd_ne h2, upd_ne h1]
  have μP : ∀ {a : Addr}, a ∈ μ → a ≠ P := fun h z => t3 (z ▸ h)
  have μc : ∀ {a : Addr}, a ∈ μ → a ≠ c := fun h z => l.notin hc (z ▸ h)
  refine { gd := fun a o e => ?_, same := fun a o e => ?_, len := l.len, nd := l.nd, there := fun a ha => ?_, obj := fun i a o h1 h2 => ?_, tab := fun p hp => ?_, gw := l.gw, gx := l.gx, we := l.we.trans e1, wk := l.wk }
  · obtain ⟨g1, g2, g3⟩ := l.gd a o e
    have n1 : a ≠ P := fun z => by rw [z, t1] at e; cases e
    exact ⟨by rw [at_ n1 (ne g1)]; exact g1, by rw [upd_ne (ne g1)]; exact g2, g3⟩
  · by_cases z : a = c
    · subst z
      rw [upd_same] at e ⊢
      exact e
    · rw [upd_ne z] at e
      have n1 : a ≠ P := fun y => by rw [y, t2] at e; cases e
      rw [at_ n1 z]
      exact l.same a o e
  · rw [at_ (μP ha) (μc ha)]
    exact l.there a ha
  · have ha := List.mem_of_getElem? h1
    exact (l.obj i a o h1 h2).mono e1 (upd_ne (μc ha)) (at_ (μP ha) (μc ha)) fun _ _ z => z
  · obtain ⟨u1, u2, u3, ps2, u4, u5, u6⟩ := l.tab p hp
    have pc : p.1 ≠ c := ne u4
    refine ⟨u1, by rw [upd_ne pc]; exact u2, u3, ?_⟩
    by_cases z : p.1 = P
    · rw [hu p hp z, z]
      refine ⟨ps ++ #[rawInt pos.line, rawInt pos.col, .ref c], by rw [upd_ne (z ▸ pc), upd_same], ?_, fun p' cv hcv => ?_⟩
      · rw [Array.toList_append]
        exact PySem.TriplesOk_snoc _ _ _ _ t5
      · rw [Array.toList_append] at hcv
        rcases LamX.among_app (pos := pos) ps.toList t5 hcv with y | y
        · obtain ⟨c0, g1, g2⟩ := t6 p' cv y
          exact ⟨c0, g1, e1.same _ _ g2⟩
        · exact ⟨c, y, upd_same⟩
    · refine ⟨ps2, by rw [at_ z pc]; exact u4, u5, fun p' cv hcv => ?_⟩
      obtain ⟨c0, g1, g2⟩ := u6 p' cv hcv
      exact ⟨c0, g1, e1.same _ _ g2⟩
structure LamF (F : Hp) (f : Addr) (cells : List (Str × Addr)) (params : Arguments) (body : Expr) (scope : Scope) : Prop where
  ex : ∃ (fo : Obj) (fd : FuncData) (c' : Addr) (bs : List (Str × Value)), F f = some (ExO f fo) ∧ fo.data = .func fd ∧ F c' = some (LamX.CodeO c' fd.qualname) ∧ LamB F fd bs ∧ (∀ y ∈ bs, scope.names.lookup y.1 = some .local) ∧
    fd.code = .ref c' ∧ fd.params = params ∧ fd.body = .expr body ∧ fd.scope = scope ∧ fd.globals = mainGlobals ∧ fd.builtins = builtinsNs ∧ fd.closure = cloFrom cells scope.names []
theorem LamF.mono {F F' : Hp} {f : Addr} {cells : List (Str × Addr)} {params : Arguments} {body : Expr} {scope : Scope} (h : LamF F f cells params body scope) (e : SameD F F') : LamF F' f cells params body scope := by
  obtain ⟨fo, fd, c', bs, h1, h2, h3, h4, h5, h6⟩ := h
  refine ⟨fo, fd, c', bs, e _ _ h1, h2, e _ _ h3, ?_, h5, h6⟩
  rcases h4 with h4 | ⟨T, o, its, m, k, a1, a2, a3⟩
  · exact .inl h4
  · exact .inr ⟨T, o, its, m, k, a1, e _ _ a2, a3⟩
def LamP (params : Arguments) (body : Expr) (scope : Scope) : Prop :=
  (params.defaults = [] ∧ params.kw_defaults = [] ∧ ∀ (q : Str) (cl : List (Str × Addr)) (doc pm cdv ct : Value), bindArgs (PySem.W.kdv_fn "<lambda>" q params (.expr body) scope cl .none doc pm cdv ct) ⟨[], []⟩ = pure []) ∨
  ∃ (i : Int) (j : Nat) (p : Pos) (a : Str), params.defaults = [.Constant (.int i) j p] ∧ params.kw_defaults = [] ∧ scope.names.lookup a = some .local ∧
    ∀ (q : Str) (cl : List (Str × Addr)) (T : Addr) (doc pm cdv ct : Value), ∃ k, bindArgs (PySem.W.kdv_fn "<lambda>" q params (.expr body) scope cl (.ref T) doc pm cdv ct) ⟨[], []⟩ = seqItems? (.ref T) >>= k ∧ ∀ t, k (some #[.int i t]) = pure [(a, .int i t)]
section
variable {X : Cx} {pins : List (Addr × Obj)} {σ : L2.St} {H G F : Hp} {μ : List Addr} {st : Store} {s : Shared} {c P : Addr} {params : Arguments} {body : Expr} {scope : Scope} {pos : Pos} {E : Value → Shared → Prop} {Q : Value → Shared → Prop}
def MadeL (X : Cx) (pins : List (Addr × Obj)) (σ : L2.St) (G F : Hp) (μ : List Addr) (st : Store) (params : Arguments) (body : Expr) (scope : Scope) (u : Value) (s' : Shared) : Prop :=
  ∃ (f : Addr) (H' F' : Hp), u = .ref f ∧ Inv X pins σ H' s' ∧ Lay X.K G F' μ st H' ∧ Ext F μ F' μ ∧ LamF F' f X.env.cells params body scope ∧ F f = none ∧ f ∉ μ
theorem lam_tail {dV : Value} {n0 : Nat} (I : Inv X pins σ H s) (l : Lay X.K G F μ st H) (TB : LamX.TabB X.base X.mg c P) (hcode : X.env.code = .ref c) (hm : (P, X.env.qual ++ "<lambda>") ∈ lamT X.K) (hu : ∀ p ∈ lamT X.K, p.1 = P → p.2 = X.env.qual ++ "<lambda>")
    (hfree : ∀ y ∈ scope.names, y.2 = .free → ∃ c, X.env.cells.lookup y.1 = some c)
    (hB : ∀ (doc pm cdv ct : Value) (F' : Hp), SameD F F' → ∃ bs, LamB F' (PySem.W.kdv_fn "<lambda>" (X.env.qual ++ "<lambda>") params (.expr body) scope (cloFrom X.env.cells scope.names []) dV doc pm cdv ct) bs ∧ ∀ y ∈ bs, scope.names.lookup y.1 = some .local)
    (h : ∀ u s', MadeL X pins σ G F μ st params body scope u s' → Q u s') :
    wpAny (model X.prog X.w) X.A (makeTail "<lambda>" (X.env.qual ++ "<lambda>") params (.expr body) scope X.env dV .none none pos n0) Q E s := by
  obtain ⟨t1, t2, t3, ps, hP, t5, t6⟩ := l.tab _ hm
  have bP : s.heap.BuiltinsAt X.mg P := TB.bm.keeps I.bk
  have hP' : s.heap.get? P = some { cls := .none, data := .fields ps } := I.hok P _ hP
  cases hc : codeAmong pos ps.toList with
  | none =>
    refine PySem.W.kdv_makeTail (mg := X.mg) (c := c) (P := P) (ps := ps) (closure_ok hfree) I.ok.glob (I.mod.glob.keeps I.bk) hcode (TB.code.keeps I.bk) hP' t5 hc TB.gP bP fun c' ctv doc hh tk hx hge hlt hrec htb => ?_
    obtain ⟨c2, oc, vs, t, e2, hoc, hd, hv⟩ := hrec
    cases e2
    have nC : H c' = none := I.hok.fresh hge
    have I1 := LamX.inv_table (t' := tk) (more := #[rawInt pos.line, rawInt pos.col, .ref c']) (h' := hh) I hP hx htb hge ⟨oc, vs, t, hoc, hd, hv⟩
    have l1 := l.table (pos := pos) (c := c') hm hu hP nC
    have nF : upd (upd H P (.tbl (ps ++ #[rawInt pos.line, rawInt pos.col, .ref c']))) c' (LamX.CodeO c' (X.env.qual ++ "<lambda>")) hh.objs.size = none := I1.hok.fresh (Nat.le_refl _)
    have I2 := I1.laid (t' := tk) (a := hh.objs.size) (o := ExO hh.objs.size (PySem.W.kdv_obj "<lambda>" (X.env.qual ++ "<lambda>") params (.expr body) scope (cloFrom X.env.cells scope.names []) dV doc ((X.mg "__name__").getD .none) c' ctv))
      (h' := hh.push (PySem.W.kdv_obj "<lambda>" (X.env.qual ++ "<lambda>") params (.expr body) scope (cloFrom X.env.cells scope.names []) dV doc ((X.mg "__name__").getD .none) c' ctv)) (fun b u e => Heap.get?_push_of_some _ e) (Nat.le_refl _) (exO_ok (Heap.get?_push_size _ rfl))
    have l2 := l1.new (o := ExO hh.objs.size (PySem.W.kdv_obj "<lambda>" (X.env.qual ++ "<lambda>") params (.expr body) scope (cloFrom X.env.cells scope.names []) dV doc ((X.mg "__name__").getD .none) c' ctv)) nF
    have x1 := (ext_upd (o := LamX.CodeO c' (X.env.qual ++ "<lambda>")) l nC).trans (ext_upd (o := ExO hh.objs.size (PySem.W.kdv_obj "<lambda>" (X.env.qual ++ "<lambda>") params (.expr body) scope (cloFrom X.env.cells scope.names []) dV doc ((X.mg "__name__").getD .none) c' ctv)) l1 nF)
    obtain ⟨bs, b1, b2⟩ := hB doc ((X.mg "__name__").getD .none) (.ref c') ctv _ x1.same
    have cf : c' ≠ hh.objs.size := Nat.ne_of_lt hlt
    refine h _ _ ⟨hh.objs.size, _, _, rfl, I2, l2, x1, ⟨_, _, c', bs, upd_same, rfl, by rw [upd_ne cf, upd_same], b1, b2, rfl, rfl, rfl, rfl, rfl, rfl, rfl⟩, ?_, l1.notin nF⟩
    have := l1.free nF
    rw [upd_ne (Ne.symm cf)] at this
    exact this
  | some cv =>
    obtain ⟨c', e, hco⟩ := t6 pos cv hc
    subst e
    refine PySem.W.kdv_makeTailHit (mg := X.mg) (c := c) (P := P) (ps := ps) (closure_ok hfree) I.ok.glob (I.mod.glob.keeps I.bk) hcode (TB.code.keeps I.bk) hP' t5 hc bP fun ctv doc hh tk hx hsz => ?_
    have nF : H hh.objs.size = none := I.hok.fresh hsz
    have I2 := I.laid (t' := tk) (a := hh.objs.size) (o := ExO hh.objs.size (PySem.W.kdv_obj "<lambda>" (X.env.qual ++ "<lambda>") params (.expr body) scope (cloFrom X.env.cells scope.names []) dV doc ((X.mg "__name__").getD .none) c' ctv))
      (h' := hh.push (PySem.W.kdv_obj "<lambda>" (X.env.qual ++ "<lambda>") params (.expr body) scope (cloFrom X.env.cells scope.names []) dV doc ((X.mg "__name__").getD .none) c' ctv)) (fun b u e => Heap.get?_push_of_some _ (hx b u e)) hsz (exO_ok (Heap.get?_push_size _ rfl))
    have l2 := l.new (o := ExO hh.objs.size (PySem.W.kdv_obj "<lambda>" (X.env.qual ++ "<lambda>") params (.expr body) scope (cloFrom X.env.cells scope.names []) dV doc ((X.mg "__name__").getD .none) c' ctv)) nF
    have x1 := ext_upd (o := ExO hh.objs.size (PySem.W.kdv_obj "<lambda>" (X.env.qual ++ "<lambda>") params (.expr body) scope (cloFrom X.env.cells scope.names []) dV doc ((X.mg "__name__").getD .none) c' ctv)) l nF
    obtain ⟨bs, b1, b2⟩ := hB doc ((X.mg "__name__").getD .none) (.ref c') ctv _ x1.same
    exact h _ _ ⟨hh.objs.size, _, _, rfl, I2, l2, x1, ⟨_, _, c', bs, upd_same, rfl, x1.same _ _ hco, b1, b2, rfl, rfl, rfl, rfl, rfl, rfl, rfl⟩, l.free nF, l.notin nF⟩
theorem lam_made (I : Inv X pins σ H s) (l : Lay X.K G F μ st H) (TB : LamX.TabB X.base X.mg c P) (hcode : X.env.code = .ref c) (hm : (P, X.env.qual ++ "<lambda>") ∈ lamT X.K) (hu : ∀ p ∈ lamT X.K, p.1 = P → p.2 = X.env.qual ++ "<lambda>")
    (hfree : ∀ y ∈ scope.names, y.2 = .free → ∃ c, X.env.cells.lookup y.1 = some c) (hp : LamP params body scope) (h : ∀ u s', MadeL X pins σ G F μ st params body scope u s' → Q u s') :
    wpAny (model X.prog X.w) X.A (eval (.Lambda params body scope pos) X.env) Q E s := by
  rcases hp with ⟨p1, p2, p3⟩ | ⟨i, j, p, a, p1, p2, p3, p4⟩
  · refine PySem.W.kla_eval (by rw [defaultsOf_eq, p1, p2] <;> rfl) ?_
    rw [makeFunction_eq]
    simp only [List.zip_nil_right, List.filterMap_nil, List.isEmpty_nil, if_true, pure_bind]
    exact lam_tail I l TB hcode hm hu hfree (fun doc pm cdv ct F' _ => ⟨[], .inl (p3 _ _ doc pm cdv ct), fun y hy => nomatch hy⟩) h
  · refine PySem.W.kdv_lam (by rw [p1]; rfl) p2 ?_
    rw [p1]
    refine wpAny_evalAll_cons (wpAny_Constant_int (wpAny_evalAll_nil ?_))
    rw [makeFunction_eq]
    simp only [List.zip_nil_right, List.filterMap_nil, List.isEmpty_nil, List.isEmpty_cons, Bool.false_eq_true, if_false, if_true, pure_bind]
    refine wpAny_bind (wpAny_newTextTuple ?_)
    have I0 : Inv X pins σ H { s with toks := s.toks + 1 } := I.tok _
    have nT : H s.heap.objs.size = none := I.hok.fresh (Nat.le_refl _)
    have I1 := I0.laid (t' := s.toks + 1) (a := s.heap.objs.size) (o := ExO s.heap.objs.size { cls := .type "tuple", data := .seq [Value.int i s.toks].toArray }) (h' := s.heap.push { cls := .type "tuple", data := .seq [Value.int i s.toks].toArray })
      (fun b u e => Heap.get?_push_of_some _ e) (Nat.le_refl _) (exO_ok (Heap.get?_push_size _ rfl))
    have l1 := l.new (o := ExO s.heap.objs.size { cls := .type "tuple", data := .seq [Value.int i s.toks].toArray }) nT
    have x1 := ext_upd (o := ExO s.heap.objs.size { cls := .type "tuple", data := .seq [Value.int i s.toks].toArray }) l nT
    refine lam_tail I1 l1 TB hcode hm hu hfree (fun doc pm cdv ct F' le => ?_) fun u s' hh => h u s' ?_
    · obtain ⟨k, k1, k2⟩ := p4 (X.env.qual ++ "<lambda>") (cloFrom X.env.cells scope.names []) s.heap.objs.size doc pm cdv ct
      refine ⟨[(a, .int i s.toks)], .inr ⟨_, _, #[.int i s.toks], 0, k, rfl, le _ _ upd_same, rfl, k1, k2 _⟩, fun y hy => ?_⟩
      have e : y = (a, .int i s.toks) := by simpa using hy
      rw [e]
      exact p3
    · obtain ⟨f, H', F', e1, e2, e3, e4, e5, e6, e7⟩ := hh
      refine ⟨f, H', F', e1, e2, e3, x1.trans e4, e5, ?_, e7⟩
      cases z : F f with
      | none => rfl
      | some o =>
        rw [x1.same _ _ z] at e6
        cases e6
end
end VS
end
section
namespace VS
open PySem PySem.Spec PyProof.Rows L2
open VM (PV SO Store)
variable [Lams]
theorem RO.nolive {K : PySem.W.Frag} {G G' F : Hp} {μ : List Addr} {H H' : Hp} {a : Addr} {o : SO} (h : RO K G F μ H a o) (hl : VM.isLive o = false) (hh : H' a = H a) : RO K G' F μ H' a o := by
  cases o with
  | dead => exact h
  | lst xs => exact ⟨h.1, h.2.imp fun vs z => ⟨hh.trans z.1, z.2⟩⟩
  | dct ks xs => exact ⟨h.1, h.2.imp fun vs z => ⟨hh.trans z.1, z.2⟩⟩
  | dctT _ _ => exact h.elim
  | ins c ks xs =>
    obtain ⟨h1, dx, vs, h2, h3⟩ := h
    exact ⟨h1, dx, vs, hh.trans h2, h3⟩
  | live b ls => cases hl
theorem dead1_no (o : SO) : VM.isLive (VM.dead1 o) = false := by
  unfold VM.dead1
  split
  · rfl
  · rename_i h
    simpa using h
theorem killL_get {st : Store} {i : Nat} {o : SO} (h : (VM.killL st)[i]? = some o) : VM.isLive o = false ∧ (o = .dead ∨ st[i]? = some o) := by
  unfold VM.killL at h
  rw [List.getElem?_map] at h
  cases e : st[i]? with
  | none => rw [e] at h; cases h
  | some u =>
    rw [e] at h
    cases h
    refine ⟨dead1_no u, ?_⟩
    unfold VM.dead1
    split
    · exact .inl rfl
    · exact .inr rfl
theorem killL_len (st : Store) : (VM.killL st).length = st.length := by simp [VM.killL]
theorem LayB.kill {K : PySem.W.Frag} {G G' F : Hp} {μ : List Addr} {st : Store} {H H' : Hp} (b : LayB K G F μ st H) (hg : ∀ a o, G' a = some o → G a = some o) (hh : ∀ a, H' a = H a ∨ (G a ≠ none ∧ G' a = none)) : LayB K G' F μ (VM.killL st) H' := by
  have gn : ∀ {a : Addr}, G a = none → H' a = H a := fun {a} n => (hh a).elim id fun z => (z.1 n).elim
  have Gμ : ∀ {a : Addr}, a ∈ μ → G a = none := fun {a} ha => by
    cases e : G a with
    | none => rfl
    | some o => exact ((b.gd a o e).2.2 ha).elim
  have GF : ∀ {a : Addr} {o : HO}, F a = some o → G a = none := fun {a o} ha => by
    cases e : G a with
    | none => rfl
    | some u =>
      have := (b.gd a u e).2.1
      rw [ha] at this
      cases this
  refine { gd := fun a o e => ?_, same := fun a o e => by rw [gn (GF e)]; exact b.same a o e, len := by rw [killL_len]; exact b.len, nd := b.nd, there := fun a ha => by rw [gn (Gμ ha)]; exact b.there a ha, obj := fun i a o h1 h2 => ?_, tab := fun p hp => ?_ }
  · obtain ⟨g1, g2, g3⟩ := b.gd a o (hg a o e)
    rcases hh a with z | z
    · exact ⟨z.trans g1, g2, g3⟩
    · rw [z.2] at e
      cases e
  · obtain ⟨k1, k2⟩ := killL_get h2
    rcases k2 with rfl | k2
    · exact True.intro
    · exact (b.obj i a o h1 k2).nolive k1 (gn (Gμ (List.mem_of_getElem? h1)))
  · obtain ⟨t1, t2, t3, ps, t4, t5⟩ := b.tab p hp
    refine ⟨?_, t2, t3, ps, (gn t1).trans t4, t5⟩
    cases e : G' p.1 with
    | none => rfl
    | some o =>
      rw [hg _ _ e] at t1
      cases t1
theorem reviv_len : ∀ (st st' : Store), (VM.reviv st st').length = st'.length
  | [], _ => rfl
  | _ :: _, [] => rfl
  | _ :: st, _ :: st' => by simp [VM.reviv, reviv_len st st']
theorem reviv_get : ∀ {st st' : Store} {i : Nat} {o : SO}, (VM.reviv st st')[i]? = some o → (st[i]? = some o ∧ VM.isLive o = true) ∨ st'[i]? = some o
  | [], _, _, _, h => .inr h
  | _ :: _, [], _, _, h => .inr h
  | u :: st, u' :: st', 0, o, h => by
    unfold VM.reviv at h
    simp at h
    split at h
    · rename_i hl
      subst h
      exact .inl ⟨rfl, hl⟩
    · subst h
      exact .inr rfl
  | u :: st, u' :: st', i + 1, o, h => by
    unfold VM.reviv at h
    simp only [List.getElem?_cons_succ] at h ⊢
    exact reviv_get h
theorem RO.live_up {K : PySem.W.Frag} {G F F' : Hp} {μ μ' : List Addr} {H H' : Hp} {a : Addr} {o : SO} (h : RO K G F μ H a o) (hl : VM.isLive o = true) (e : Ext F μ F' μ') : RO K G F' μ' H' a o := by
  cases o with
  | live b ls =>
    obtain ⟨fs, h1, h2⟩ := h
    refine ⟨fs, ?_, fun j n caps hj => ?_⟩
    · cases b with
      | true => exact h1
      | false =>
        rw [if_neg Bool.false_ne_true] at h1 ⊢
        exact e.same _ _ h1
    · obtain ⟨f, a1, a2⟩ := h2 j n caps hj
      exact ⟨f, a1, a2.mono e fun _ _ z => z⟩
  | _ => cases hl
theorem LayB.revive {K : PySem.W.Frag} {G G' F F' : Hp} {μ μ' : List Addr} {st st' : Store} {H Hm H' : Hp} (b : LayB K G F μ st H) (b' : LayB K G' F' μ' st' H') (e : Ext F μ F' μ') (A : ∀ b o, H' b = some o → adds Hm H H' b = some o)
    (hg : ∀ a o, G a = some o → G' a = some o ∨ (Hm a = none ∧ H a ≠ none ∧ H' a = none)) (hx : ∀ a o, G' a = some (ExO a o) → G a = some (ExO a o)) : LayB K G F' μ' (VM.reviv st st') (adds Hm H H') := by
  refine { gd := fun a o q => ?_, same := fun a o q => A a o (b'.same a o q), len := by rw [reviv_len]; exact b'.len, nd := b'.nd, there := fun a ha => (b'.there a ha).imp fun o q => A a o q, obj := fun i a o h1 h2 => ?_, tab := fun p hp => ?_ }
  · rcases hg a o q with z | ⟨z1, z2, z3⟩
    · obtain ⟨g1, g2, g3⟩ := b'.gd a o z
      exact ⟨A a o g1, g2, g3⟩
    · refine ⟨by rw [adds_in z1 z2]; exact (b.gd a o q).1, ?_, fun ha => ?_⟩
      · cases y : F' a with
        | none => rfl
        | some u =>
          rw [b'.same a u y] at z3
          cases z3
      · obtain ⟨u, y⟩ := b'.there a ha
        rw [z3] at y
        cases y
  · rcases reviv_get h2 with ⟨k1, k2⟩ | k1
    · have hi : i < μ.length := by
        rw [b.len]
        exact (List.getElem?_eq_some_iff.mp k1).1
      have e1 : μ[i]? = some a := by
        obtain ⟨l, rfl⟩ := e.pre
        rw [List.getElem?_append_left hi] at h1
        exact h1
      exact (b.obj i a o e1 k1).live_up k2 e
    · have r := b'.obj i a o h1 k1
      obtain ⟨u, hu⟩ := b'.there a (List.mem_of_getElem? h1)
      letI : Wsh := wshN K G F μ
      exact r.mono Ext.refl rfl (by rw [A a u hu, hu]) hx
  · obtain ⟨u1, u2, u3, ps, u4, u5⟩ := b'.tab p hp
    exact ⟨(b.tab p hp).1, u2, u3, ps, A _ _ u4, u5⟩
abbrev envL (q : Str) (scope : Scope) (L f c' : Addr) (cl : List (Str × Addr)) : Env := PySem.W.envX q scope L f (.ref c') cl
def cxL (P : Program) (w : World) (K : PySem.W.Frag) (mg : Str → Option Value) (base : Heap) (N : List Str) (q : Str) (scope : Scope) (cl : List (Str × Addr)) (A : Around) (outer : List Env) (s : Shared) (H : Hp) (E : XK) (f c' : Addr) : Cx where
  prog := P
  w := w
  K := K
  mg := mg
  base := base
  A := A.deeper (envL q scope s.heap.objs.size f c' cl)
  N := N
  s_0 := s
  H_0 := H
  env := envL q scope s.heap.objs.size f c' cl
  outer := outer
  stack := envL q scope s.heap.objs.size f c' cl :: outer
  ex := []
  fn := fun _ => false
  calm := true
  pn := []
  xe := fun e s' => wpAny (model P w) (A.deeper (envL q scope s.heap.objs.size f c' cl)) (leaving (envL q scope s.heap.objs.size f c' cl) e) (fun _ z => L2.CX P w outer H s E e z) (fun y z => L2.CX P w outer H s E y z) s'
structure LamG (scope : Scope) (free : List Str) : Prop where
  kind : scope.kind = .function
  co : scope.isCoroutine = false
  gen : scope.isGenerator = false
  cell : ∀ y ∈ scope.names, y.2 ≠ .cell
  fr : ∀ x, scope.names.lookup x = some .free → x ∈ free
  fr2 : ∀ x ∈ free, scope.names.lookup x = some .free
def lamGB (scope : Scope) (free : List Str) : Bool :=
  decide (scope.kind = .function) && (!scope.isCoroutine && (!scope.isGenerator && ((scope.names.all fun y => !decide (y.2 = .cell) && (!decide (y.2 = .free) || free.contains y.1)) && free.all fun x => decide (scope.names.lookup x = some .free))))
theorem lamG_by {scope : Scope} {free : List Str} (h : lamGB scope free = true) : LamG scope free := by
  unfold lamGB at h
  simp only [Bool.and_eq_true, Bool.or_eq_true, Bool.not_eq_true', decide_eq_true_eq, decide_eq_false_iff_not, List.all_eq_true] at h
  obtain ⟨h1, h2, h3, h4, h5⟩ := h
  refine ⟨h1, h2, h3, fun y hy => (h4 y hy).1, fun x e => ?_, h5⟩
  have m := PySem.mem_of_lookup e
  rcases (h4 _ m).2 with z | z
  · exact absurd rfl z
  · simpa using z
section
variable {P : Program} {w : World} {K : PySem.W.Frag} {mg : Str → Option Value} {base : Heap}
theorem inv_lam {free : List Str} {q : Str} {scope : Scope} {cl : List (Str × Addr)} {A : Around} {outer : List Env} {s : Shared} {H : Hp} {E : XK} {f c' : Addr} {hh : Heap} {tk : Nat} {bs : List (Str × Value)} {vs : List V} (L : LamG scope free) (e0 : Env0 P w K mg base A outer s H) (hd : A.handled = none)
    (hns : hh.Ns s.heap.objs.size fun y => bs.reverse.lookup y) (kp : ∀ b o, s.heap.get? b = some o → hh.get? b = some o)
    (hc : ∀ x ∈ free, ∃ c, cl.lookup x = some c) (hi : ∀ x y c, cl.lookup x = some c → cl.lookup y = some c → x = y) (hn : ∀ x c, cl.lookup x = some c → H c = none ∧ x ∈ free)
    (hv : ∀ (k : Nat) (x : Str), free[k]? = some x → ∃ (c : Addr) (oc : Obj) (u : Value) (v : V), cl.lookup x = some c ∧ s.heap.get? c = some oc ∧ oc.data = .cell (some u) ∧ vs[k]? = some v ∧ RelV v u) (hl : vs.length = free.length) :
    Inv (cxL P w K mg base free q scope cl A outer s H E f c') [] (L2.start free vs) H { s with heap := hh, toks := tk } := by
  have no : ∀ b : Addr, b ∉ (cxL P w K mg base free q scope cl A outer s H E f c').ex := fun b z => List.not_mem_nil (show b ∈ ([] : List Addr) from z)
  have cellAt : ∀ x c, cl.lookup x = some c → ∃ u, hh.IsCell c (some u) := fun x c e => by
    obtain ⟨k, hk⟩ := List.mem_iff_getElem?.mp (hn x c e).2
    obtain ⟨c2, oc, u, v, e1, e2, e3, _⟩ := hv k x hk
    rw [e] at e1
    cases e1
    exact ⟨u, oc, kp _ _ e2, e3⟩
  have st0 : ∀ (i : Nat) (v : V), (L2.start free vs)[i]? = some (some v) → vs[i]? = some v := fun i v e => by
    unfold L2.start at e
    by_cases hi : i < vs.length
    · rw [List.getElem?_append_left (by simpa using hi), List.getElem?_map] at e
      cases z : vs[i]? with
      | none => rw [z] at e; cases e
      | some y => rw [z] at e; cases e; rfl
    · rw [List.getElem?_append_right (by simpa using hi), List.getElem?_replicate] at e
      split at e <;> cases e
  refine ⟨⟨e0.mod, L.kind, rfl, rfl, Nat.le_refl _, hi, fun y hy => ?_, fun y c z _ => ?_, fun _ => hd, Around.frames_deeper e0.frames, .inr ⟨rfl, rfl⟩, fun b z => absurd z (no b), e0.bs, e0.bsz, fun b _ _ => no b, fun b z => absurd z (no b), e0.funs, e0.frf⟩,
    rfl, e0.bare, Un.kept kp, ⟨_, hns, fun i y v e1 e2 e3 => ?_⟩, fun y c e => (cellAt y c e).elim fun u z => ⟨some u, z⟩, e0.hok.fresh (Nat.le_refl _), fun y c e => (hn y c e).1, fun p hp => absurd (show p ∈ ([] : List (Addr × Obj)) ++ [] from hp) (by simp), e0.hok.kept kp, ?_⟩
  · rcases (show scope.names.lookup y = some .cell ∨ scope.names.lookup y = some .free from hy) with z | z
    · exact absurd rfl (L.cell _ (PySem.mem_of_lookup z))
    · exact hc y (L.fr y z)
  · have : false = true := z
    cases this
  · obtain ⟨c, oc, u, v', z1, z2, z3, z4, z5⟩ := hv i y e1
    rw [st0 i v e2] at z4
    cases z4
    exact ⟨u, z5, .inr ⟨.inr (L.fr2 y (List.mem_of_getElem? e1)), c, z1, oc, kp _ _ z2, z3⟩⟩
  · unfold L2.start
    show (vs.map some ++ List.replicate (free.length - vs.length) none).length = free.length
    simp [hl]
end
end VS
end
section
namespace VS
open PySem PySem.Spec PyProof.Rows L2
open VM (PV SO Store)
variable [Lams]
def isCl (cl : List (Str × Addr)) (b : Addr) : Prop := ∃ x, cl.lookup x = some b
noncomputable def lessH (cl : List (Str × Addr)) (H : Hp) : Hp := fun b => open Classical in if isCl cl b then none else H b
theorem lessH_in {cl : List (Str × Addr)} {H : Hp} {b : Addr} (h : isCl cl b) : lessH cl H b = none := if_pos h
theorem lessH_out {cl : List (Str × Addr)} {H : Hp} {b : Addr} (h : ¬isCl cl b) : lessH cl H b = H b := if_neg h
theorem lessH_le {cl : List (Str × Addr)} {H : Hp} {b : Addr} {o : HO} (h : lessH cl H b = some o) : H b = some o ∧ ¬isCl cl b := by
  by_cases z : isCl cl b
  · rw [lessH_in z] at h
    cases h
  · rw [lessH_out z] at h
    exact ⟨h, z⟩
structure LmOk (P : Program) (w : World) (K : PySem.W.Frag) (mg : Str → Option Value) (base : Heap) (cs : VM.CS) (k n : Nat) : Prop where
  run : ∀ (caps : List PV) (f : Addr) (A : Around) (outer : List Env) (s : Shared) (H G F : Hp) (μ : List Addr) (st : Store) (kk x : VM.KV) (Q : VK) (E : XK), Room k A → Env0 P w K mg base A outer s H → LayB K G F μ st H → LamAt K G F μ n caps f →
    cs n caps (VM.killL st) (fun v st' => kk v (VM.reviv st st')) (fun e st' => x e (VM.reviv st st')) → Kon0 K G F μ kk Q → KonX K G F μ x E → codeAny (model P w) A (.call (.ref f) ⟨[], []⟩) (CR (L2.CX P w) outer P w H s Q E) s
theorem LmOk.mono {P : Program} {w : World} {K : PySem.W.Frag} {mg : Str → Option Value} {base : Heap} {cs : VM.CS} {k k' n : Nat} (L : LmOk P w K mg base cs k n) (h : k ≤ k') : LmOk P w K mg base cs k' n :=
  ⟨fun caps f A outer s H G F μ st kk x Q E hr => L.run caps f A outer s H G F μ st kk x Q E (hr.mono h)⟩
theorem lm_zero {P : Program} {w : World} {K : PySem.W.Frag} {mg : Str → Option Value} {base : Heap} {FT : Nat → Option VM.FD} {k n : Nat} : LmOk P w K mg base (VM.callN FT 0) k n :=
  ⟨fun _ _ _ _ _ _ _ _ _ _ _ _ _ _ _ _ _ _ d => d.elim⟩
theorem lm_succ {P : Program} {w : World} {K : PySem.W.Frag} {mg : Str → Option Value} {base : Heap} {FT : Nat → Option VM.FD} {d k n : Nat} {te : VM.CS → VM.TE} {I : LamI} (hI : Lams.info n = I) (hF : FT n = some ⟨I.free.length, I.free.length, fun cs => VM.sRet (te cs)⟩) (LG : lamGB I.scope I.free = true)
    (hb : ∀ [Wsh] (q : Str) (cl : List (Str × Addr)) (f c' : Addr) (A : Around) (outer : List Env) (s : Shared) (H : Hp) [TkX (cxL P w K mg base I.free q I.scope cl A outer s H Wsh.E f c')], Room k (A.deeper (envL q I.scope s.heap.objs.size f c' cl)) → VE (cxL P w K mg base I.free q I.scope cl A outer s H Wsh.E f c') I.body (te (VM.callN FT d))) :
    LmOk P w K mg base (VM.callN FT (d + 1)) (k + 1) n := by
  refine ⟨fun caps f A outer s H G F μ st kk x Q E hr e0 b hL hd hk hx => ?_⟩
  obtain ⟨fo, fd, c', vs, bs, ⟨g1, g2, g3, g4, g5, g6⟩, ⟨f1, f2, f3, f4, f5, f6⟩, g8, g9, g10⟩ := hL
  rw [hI] at g6 f2 f3 f4 g8 g10
  have LS := lamG_by LG
  unfold VM.callN at hd
  rw [hF] at hd
  obtain ⟨hlen, hd⟩ := hd
  have hlen : caps.length = I.free.length := hlen
  have hvl : vs.length = I.free.length := by rw [g4.length]; exact hlen
  -- the cells
  have cellG : ∀ a, isCl fd.closure a → ∃ oc u, G a = some (ExO a oc) ∧ oc.data = .cell (some u) := fun a ⟨x, hx⟩ => by
    obtain ⟨k, hk⟩ := g8 x a hx
    obtain ⟨c, oc, u, v, e1, e2, e3, _⟩ := g10 k x hk
    rw [hx] at e1
    cases e1
    exact ⟨oc, u, e2, e3⟩
  have cellH : ∀ a, isCl fd.closure a → ∃ oc, G a = some (ExO a oc) ∧ H a = some (ExO a oc) ∧ s.heap.get? a = some oc := fun a ha => by
    obtain ⟨oc, u, e1, e2⟩ := cellG a ha
    have := (b.gd a _ e1).1
    exact ⟨oc, e1, this, exO_get (e0.hok a _ this)⟩
  have D : Adds s.heap (frs outer) (lessH fd.closure H) H := ⟨fun a o e => (lessH_le e).1, fun a o n e => by
    by_cases z : isCl fd.closure a
    · obtain ⟨oc, _, e2, e3⟩ := cellH a z
      rw [e2] at e
      cases e
      exact ⟨oc, rfl, e3, fun hm => by
        have := e0.frf a hm
        rw [e2] at this
        cases this⟩
    · rw [lessH_out z, e] at n
      cases n⟩
  have bm : LayB K (lessH fd.closure G) F μ (VM.killL st) (lessH fd.closure H) := b.kill (fun a o e => (lessH_le e).1) fun a => by
    by_cases z : isCl fd.closure a
    · obtain ⟨oc, e1, _⟩ := cellH a z
      exact .inr ⟨fun y => (by rw [e1] at y; cases y), lessH_in z⟩
    · exact .inl (lessH_out z)
  have em := Env0.subs e0 D
  -- back outside
  have up : ∀ {H' F' : Hp} {μ' : List Addr} {st' : Store}, Ext F μ F' μ' → LayB K (lessH fd.closure G) F' μ' st' H' → (∀ a o, lessH fd.closure H a = none → H a = some o → H' a = none) → LayB K G F' μ' (VM.reviv st st') (adds (lessH fd.closure H) H H') := fun {H' F' μ' st'} e b' hn => by
    have hne : ∀ a, lessH fd.closure H a = none ∧ H a ≠ none → H' a = none := fun a z => by
      obtain ⟨u, hu⟩ := Option.ne_none_iff_exists'.mp z.2
      exact hn a u z.1 hu
    have A : ∀ a o, H' a = some o → adds (lessH fd.closure H) H H' a = some o := fun a o q => by
      by_cases z : lessH fd.closure H a = none ∧ H a ≠ none
      · rw [hne a z] at q
        cases q
      · unfold adds
        rw [if_neg z]
        exact q
    refine b.revive b' e A (fun a o q => ?_) fun a o q => (lessH_le q).1
    by_cases z : isCl fd.closure a
    · obtain ⟨oc, _, e2, _⟩ := cellH a z
      exact .inr ⟨lessH_in z, fun y => (by rw [e2] at y; cases y), hn a _ (lessH_in z) e2⟩
    · exact .inl (by rw [lessH_out z]; exact q)
  -- within
  have hX : KonX K (lessH fd.closure G) F μ (fun e st' => x e (VM.reviv st st')) (fun cls d' H' => (∀ a o, lessH fd.closure H a = none → H a = some o → H' a = none) → E cls d' (adds (lessH fd.closure H) H H')) := by
    intro cls dd H' F' μ' px st' e b' rx q hn
    exact hx cls dd _ F' μ' px _ e (up e b' hn) rx q
  obtain ⟨oc', vs', t', hoc, hdc, hvc⟩ := (e0.hok c' _ (b.same _ _ g3)).1
  have hfo : s.heap.get? f = some fo := exO_get (e0.hok f _ (b.same _ _ g1))
  have nolim : s.heap.NoLimit := e0.mod.nolimit.keeps fun a o q => (e0.bs a o q).1
  have bnd : BindsTo s fd ⟨[], []⟩ bs := by
    rcases g5 with z | ⟨T, o, its, m, k', z1, z2, z3, z4, z5⟩
    · exact BindsTo.of_eq z
    · exact BindsTo.of_defaults z1 (exO_get (e0.hok T _ (b.same _ _ z2))) z3 z4 z5
  have rc : codeAny (model P w) A (.call (.ref f) ⟨[], []⟩) (CR (L2.CX P w) outer P w (lessH fd.closure H) s (fun v H' => (∀ a o, lessH fd.closure H a = none → H a = some o → H' a = none) → Q v (adds (lessH fd.closure H) H H'))
      (fun cls d' H' => (∀ a o, lessH fd.closure H a = none → H a = some o → H' a = none) → E cls d' (adds (lessH fd.closure H) H H'))) s := by
    refine PySem.W.kla_callFunE (L2H.roomH_of hr).depth hfo g2 (by rw [f4]; exact LS.co) (by rw [f4]; exact LS.gen) f3 ⟨c', oc', vs', t', f1, hoc, hdc, hvc⟩ ?_
    refine bnd _ _ _ _ ?_
    refine wpAny_newFunctionEnv (by rw [f4]; exact LS.cell) (by rw [f4]; exact g6) (fun hh hns hsb => ⟨nolim.fresh _ hsb, ?_⟩) (by rw [f4]; exact LS.kind)
    rw [f1, f4, f5, f6]
    show codeAny _ _ (.expr I.body (envL fd.qualname I.scope s.heap.objs.size f c' fd.closure)) _ _
    have kp : ∀ a o, s.heap.get? a = some o → hh.get? a = some o := fun a o e => hsb.extBut a o (Nat.ne_of_lt (Heap.lt_size e)) (Heap.get?_push_of_some _ e)
    have J := inv_lam (q := fd.qualname) (cl := fd.closure) (A := A) (f := f) (c' := c') (tk := s.toks + bs.length) (vs := vs) (E := fun cls d' H' => (∀ a o, lessH fd.closure H a = none → H a = some o → H' a = none) → E cls d' (adds (lessH fd.closure H) H H')) LS em hr.hd hns kp
      (fun y hy => by
        obtain ⟨k, hk⟩ := List.mem_iff_getElem?.mp hy
        obtain ⟨c, _, _, _, z, _⟩ := g10 k y hk
        exact ⟨c, z⟩) g9 (fun y c z => ⟨lessH_in ⟨y, z⟩, by
        obtain ⟨k, hk⟩ := g8 y c z
        exact List.mem_of_getElem? hk⟩) (fun k y hk => by
        obtain ⟨c, oc, u, v, z1, z2, z3, z4⟩ := g10 k y hk
        exact ⟨c, oc, u, v, z1, exO_get (e0.hok c _ (b.gd c _ z2).1), z3, z4⟩) hvl
    refine PySem.W.kla_codeExpr (wpAny_mono ((@hb (wshOf K (lessH fd.closure G) F μ _ _ hX) fd.qualname fd.closure f c' A outer s (lessH fd.closure H) (@TkX.mk _ (wshOf K (lessH fd.closure G) F μ _ _ hX) _ (takes_of rfl rfl rfl rfl)) (hr.deeper _)).run [] _ (L2.start I.free vs) (lessH fd.closure H)
      (fun v H' => (∀ a o, lessH fd.closure H a = none → H a = some o → H' a = none) → Q v (adds (lessH fd.closure H) H H')) J ?_) (fun v s' out => ?_) fun e s' out => out)
    · letI : Wsh := wshOf K (lessH fd.closure G) F μ _ _ hX
      exact ⟨lessH fd.closure G, F, μ, _, VM.killL st, _, bm.lay, envR_start (Fd := ⟨I.free.length, I.free.length, fun cs => VM.sRet (te cs)⟩) g4 hlen rfl, hd, fun v H' F' μ' y st' e l' rv q hn => hk v _ F' μ' y _ e (up e (@Lay.toLayB _ (wshOf K (lessH fd.closure G) F μ _ _ hX) _ _ _ _ _ _ l') hn) rv q⟩
    · obtain ⟨v2, H', J', rv, q⟩ := out
      exact ⟨v2, H', J'.os, J'.bare, J'.base, J'.hok, rv, q⟩
  refine codeAny_mono rc fun r s' out => ?_
  match r with
  | .error er => exact cx_outer D out fun cls d' H' z hn => z hn
  | .ok (.ret u) => exact ce_outer D out fun v H' z hn => z hn
  | .ok .next => exact out
  | .ok .brk => exact out
  | .ok .cont => exact out
end VS
end
section
namespace VS
open PySem PySem.Spec PyProof.Rows L2
open VM (PV SO Store)
variable [Lams] [W : Wsh]
section
variable {X : Cx} {a : Str} {ta : VM.TE} {cs : VM.CS} {k : Nat} {p1 p2 : Pos}
theorem ve_act [TkX X] (hL : ∀ n, 1000000 ≤ n → LmOk X.prog X.w X.K X.mg X.base cs k n) (hr : Room k X.A) (ha : VE X (.Name a p1) ta) : VE X (.Call (.Name a p1) [] [] p2) (VM.eAct cs ta) := by
  refine ⟨fun pins s σ H Q I h => ?_⟩
  obtain ⟨G, F, μ, ρ, st, kk, l, r, d, hk⟩ := h
  refine wpAny_Call_Name_kw (thn (ha.run pins s σ H (fun v H1 => ∃ F1 μ1 st1 px, Ext F μ F1 μ1 ∧ Lay X.K G F1 μ1 st1 H1 ∧ Rep X.K F1 μ1 px v ∧ VM.runAct cs px st1 kk nox) I
    (bind1 l r d fun v H1 F1 μ1 px st1 e1 l1 r1 q1 q2 => ⟨F1, μ1, st1, px, e1, l1, q1, q2⟩)) fun u s1 ⟨v, H1, I1, rv, F1, μ1, st1, px, e1, l1, rp, q⟩ => ?_)
  unfold VM.runAct at q
  split at q
  · rename_i n caps hact
    obtain ⟨hn, q⟩ := q
    have key : ∃ f, v = .ref f ∧ LamAt X.K G F1 μ1 n caps f := by
      unfold VM.actOf at hact
      split at hact
      · rename_i i j
        split at hact
        · rename_i b ls hst
          unfold Rep at rp
          obtain ⟨t, ht, rp⟩ := rp
          obtain ⟨fs, h1, h2⟩ := l1.obj i t _ ht hst
          cases j with
          | none =>
            obtain rfl : v = .ref t := rp
            cases b with
            | true =>
              simp only [if_true] at hact h1
              obtain ⟨f, g1, g2⟩ := h2 0 n caps hact
              rw [h1] at g1
              simp at g1
              subst g1
              exact ⟨_, rfl, g2⟩
            | false => simp at hact
          | some j =>
            obtain ⟨f, vs, rfl, h3, h4⟩ := rp
            cases b with
            | true => simp at hact
            | false =>
              simp only [Bool.false_eq_true, if_false] at hact h1
              rw [h1] at h3
              cases h3
              obtain ⟨f', g1, g2⟩ := h2 j n caps hact
              rw [List.getElem?_map, g1] at h4
              cases h4
              exact ⟨_, rfl, g2⟩
        · cases hact
      · cases hact
    obtain ⟨f, rfl, hLam⟩ := key
    obtain rfl : u = Value.ref f := rv
    obtain ⟨fo, fd, c', vs, bs, ⟨g1, g2, _⟩, _⟩ := id hLam
    have hfo : s1.heap.get? f = some fo := exO_get (I1.hok f _ (l1.same _ _ g1))
    obtain ⟨oc, od, dt, sl⟩ := fo
    obtain rfl : dt = .func fd := g2
    refine PySem.W.callWith_F0 ⟨oc, od, fd, sl, hfo⟩ ?_
    refine wpAny_call (codeAny_mono ((hL n hn).run caps f X.A X.stack s1 H1 G F1 μ1 st1 kk nox Q Wsh.E hr I1.env0 l1.toLayB hLam q ((hk.mono e1).kon0 l1) l1.konX) fun r s' out => ?_)
    match r with
    | .error er => exact TkX.pass pins σ H1 s1 er s' I1 out
    | .ok (.ret u) => exact I1.after out
    | .ok .next => exact out.elim
    | .ok .brk => exact out.elim
    | .ok .cont => exact out.elim
  · exact q.elim
end
noncomputable def moreH (cl : List (Str × Addr)) (h : Heap) (H : Hp) : Hp := fun b => open Classical in if isCl cl b then (h.get? b).map (ExO b) else H b
theorem moreH_in {cl : List (Str × Addr)} {h : Heap} {H : Hp} {b : Addr} (z : isCl cl b) : moreH cl h H b = (h.get? b).map (ExO b) := if_pos z
theorem moreH_out {cl : List (Str × Addr)} {h : Heap} {H : Hp} {b : Addr} (z : ¬isCl cl b) : moreH cl h H b = H b := if_neg z
theorem clo_lookup {cells : List (Str × Addr)} {names : List (Str × NameKind)} {x : Str} {c : Addr} (h : (cloFrom cells names []).lookup x = some c) : (x, NameKind.free) ∈ names ∧ c = (cells.lookup x).getD 0 := by
  rcases cloFrom_mem (PySem.mem_of_lookup h) with hm | z
  · cases hm
  · exact z
theorem clo_at {cells : List (Str × Addr)} {names : List (Str × NameKind)} {x : Str} (h : (x, NameKind.free) ∈ names) : (cloFrom cells names []).lookup x = some ((cells.lookup x).getD 0) := by
  obtain ⟨c, hc⟩ := mem_lookup (cloFrom_has (cells := cells) (acc := []) h)
  rw [hc, (clo_lookup hc).2]
structure LamE where
  n : Nat
  params : Arguments
  body : Expr
  scope : Scope
  pos : Pos
  is : List Nat
structure LamEOk (N : List Str) (sc : Scope) (L : LamE) : Prop where
  inf : ∃ free, Lams.info L.n = ⟨L.params, L.body, L.scope, free⟩ ∧ LamG L.scope free ∧ (∀ x, (x, NameKind.free) ∈ L.scope.names → L.scope.names.lookup x = some .free) ∧ (∀ (k : Nat) (x : Str), free[k]? = some x → ∃ i, L.is[k]? = some i ∧ N[i]? = some x ∧ (sc.names.lookup x = some .cell ∨ sc.names.lookup x = some .free))
  par : LamP L.params L.body L.scope
theorem capsAll_get : ∀ {ρ : VM.Env} {ls : List (Nat × List Nat)} {cl : List (Nat × List PV)} {j n : Nat} {caps : List PV}, VM.capsAll ρ ls = some cl → cl[j]? = some (n, caps) → ∃ is, ls[j]? = some (n, is) ∧ VM.capsOf ρ is = some caps
  | ρ, [], cl, j, n, caps, h, e => by
    cases h
    cases e
  | ρ, (m, is) :: ls, cl, j, n, caps, h, e => by
    unfold VM.capsAll at h
    split at h
    · rename_i vs r h1 h2
      cases h
      cases j with
      | zero =>
        simp at e
        obtain ⟨rfl, rfl⟩ := e
        exact ⟨is, rfl, h1⟩
      | succ j =>
        obtain ⟨is', g1, g2⟩ := capsAll_get h2 (by simpa using e)
        exact ⟨is', by simpa using g1, g2⟩
    · cases h
theorem repL_caps {K : PySem.W.Frag} {F : Hp} {μ : List Addr} {σ : L2.St} {ρ : VM.Env} (r : EnvR K F μ σ ρ) : ∀ {is : List Nat} {caps : List PV}, VM.capsOf ρ is = some caps → ∃ vs, RepL K F μ caps vs ∧ ∀ (k i : Nat), is[k]? = some i → ∃ v, vs[k]? = some v ∧ σ[i]? = some (some v)
  | [], caps, h => by
    cases h
    exact ⟨[], repL_nil.mpr rfl, fun k i e => by cases e⟩
  | j :: is, caps, h => by
    unfold VM.capsOf at h
    split at h
    · rename_i v ws h1 h2
      cases h
      obtain ⟨w, g1, g2⟩ := r.2 j v h1
      obtain ⟨vs, g3, g4⟩ := repL_caps r h2
      refine ⟨w :: vs, repL_cons.mpr ⟨w, vs, rfl, g2, g3⟩, fun k i e => ?_⟩
      cases k with
      | zero =>
        simp at e
        subst e
        exact ⟨w, rfl, g1⟩
      | succ k =>
        obtain ⟨u, z1, z2⟩ := g4 k i (by simpa using e)
        exact ⟨u, by simpa using z1, z2⟩
    · cases h
end VS
end
section
namespace VS
open PySem PySem.Spec PyProof.Rows L2
open VM (PV SO Store)
variable [Lams] [W : Wsh]
theorem lams_core {X : Cx} {pins : List (Addr × Obj)} {σ : L2.St} {H1 G F1 : Hp} {μ : List Addr} {st : Store} {s1 : Shared} {ρ : VM.Env} {D : Addr} {b : Bool} {fs : List Addr} {ls : List LamE} {cl : List (Nat × List PV)} {k i : Nat} {f : Addr} {fd : FuncData} {ps : List Str} {cs : VM.CS} {pxs : List PV} {vs : List V} {us : List Value} {kk : VM.KV} {Q : VK}
    (I1 : Inv X pins σ H1 s1) (l1 : Lay X.K G F1 μ st H1) (r1 : EnvR X.K F1 μ σ ρ) (hfn : ∀ x, X.fn x = true) (hs : X.stack = X.env :: X.outer) (hfr : X.env.frame = some X.env.locals) (hD : D ∉ μ) (hDF : ∃ o, F1 D = some o)
    (hfs : if b then fs = [D] else F1 D = some (.lst (fs.map V.ref))) (hL : ∀ (j : Nat) (L : LamE), ls[j]? = some L → ∃ f, fs[j]? = some f ∧ LamF F1 f X.env.cells L.params L.body L.scope ∧ LamEOk X.N X.env.scope L)
    (hcl : VM.capsAll ρ (ls.map fun L => (L.n, L.is)) = some cl) (Fo : FnOk X.prog X.w X.K X.mg X.base (L2.CX X.prog X.w) k f fd ps (spOf X.K cs i ps.length)) (hr : Room k X.A) (hb : Binds X.K fd ps []) (rp : RepL X.K F1 (μ ++ [D]) pxs vs) (rv : Vals vs us) (hlen : pxs.length = ps.length)
    (d : cs i pxs (st ++ [.live b cl]) (fun v st' => kk v (VM.killL st')) VM.noX) (hk : Kon X.K G F1 μ kk Q) : wpAny (model X.prog X.w) X.A (call (.ref f) us) (EP X pins σ Q) X.xe s1 := by
  have cF : ∀ {a : Addr}, isCl X.env.cells a → H1 a = none := fun ⟨x, e⟩ => I1.freeC x _ e
  have cH : ∀ {a : Addr}, isCl X.env.cells a → ∃ oc, s1.heap.get? a = some oc := fun ⟨x, e⟩ => by
    obtain ⟨v, o, e1, _⟩ := I1.cell x _ e
    exact ⟨o, e1⟩
  have cS : ∀ {a : Addr}, isCl X.env.cells a → X.s_0.heap.objs.size ≤ a := fun ⟨x, e⟩ => I1.ok.cab x _ (hfn x) e
  have cR : ∀ {a : Addr}, isCl X.env.cells a → a ∉ frs X.stack := fun {a} z hm => by
    rw [hs] at hm
    obtain ⟨env, h1, h2⟩ := List.mem_filterMap.mp hm
    rcases List.mem_cons.mp h1 with rfl | h1
    · rw [hfr] at h2
      cases h2
      obtain ⟨x, e⟩ := z
      exact I1.cne x _ e rfl
    · obtain ⟨_, o, h3, _⟩ := I1.ok.funs.mem (List.mem_filterMap.mpr ⟨env, h1, h2⟩)
      exact absurd (Heap.lt_size h3) (Nat.not_lt.mpr (cS z))
  have inH : ∀ {a : Addr} {o : HO}, H1 a = some o → ¬isCl X.env.cells a := fun e z => by
    rw [cF z] at e
    cases e
  have A : Adds s1.heap (frs X.stack) H1 (moreH X.env.cells s1.heap H1) := ⟨fun a o e => by rw [moreH_out (inH e)]; exact e, fun a o n e => by
    by_cases z : isCl X.env.cells a
    · obtain ⟨oc, h1⟩ := cH z
      rw [moreH_in z, h1] at e
      cases e
      exact ⟨oc, rfl, h1, cR z⟩
    · rw [moreH_out z, n] at e
      cases e⟩
  have isC : ∀ {a : Addr}, H1 a = none → moreH X.env.cells s1.heap H1 a ≠ none → isCl X.env.cells a := fun {a} n e => by
    refine Classical.byContradiction fun z => e ?_
    rw [moreH_out z]
    exact n
  have e0 := Env0.adds I1.env0 A fun a n e => by
    have z := isC n e
    cases q : X.base.get? a with
    | none => rfl
    | some o => exact absurd (Nat.lt_of_lt_of_le (Heap.lt_size q) I1.ok.bsz) (Nat.not_lt.mpr (cS z))
  -- what is guarded within
  have Gout : ∀ {a : Addr} {o : HO}, G a = some o → ¬isCl X.env.cells a := fun e => inH (l1.gd _ _ e).1
  obtain ⟨oD, hDF⟩ := hDF
  have hDo := l1.same _ _ hDF
  have b1 : LayB X.K (moreH X.env.cells s1.heap G) F1 (μ ++ [D]) (st ++ [.live b cl]) (moreH X.env.cells s1.heap H1) := by
    have gup : ∀ c o, G c = some (ExO c o) → moreH X.env.cells s1.heap G c = some (ExO c o) := fun c o e => by
      rw [moreH_out (Gout e)]
      exact e
    refine { gd := fun a o e => ?_, same := fun a o e => ?_, len := by simp [l1.len], nd := ?_, there := fun a ha => ?_, obj := fun j a o h1 h2 => ?_, tab := fun p hp => ?_ }
    · by_cases z : isCl X.env.cells a
      · rw [moreH_in z] at e
        refine ⟨by rw [moreH_in z]; exact e, l1.free (cF z), fun hm => ?_⟩
        rcases List.mem_append.mp hm with hm | hm
        · exact l1.notin (cF z) hm
        · have : a = D := by simpa using hm
          rw [← this, cF z] at hDo
          cases hDo
      · rw [moreH_out z] at e
        obtain ⟨g1, g2, g3⟩ := l1.gd a o e
        refine ⟨by rw [moreH_out z]; exact g1, g2, fun hm => ?_⟩
        rcases List.mem_append.mp hm with hm | hm
        · exact g3 hm
        · have : a = D := by simpa using hm
          rw [this, hDF] at g2
          cases g2
    · have q := l1.same a o e
      rw [moreH_out (inH q)]
      exact q
    · refine List.nodup_append.mpr ⟨l1.nd, by simp, fun a ha c hc => ?_⟩
      have : c = D := by simpa using hc
      subst this
      exact fun z => hD (z ▸ ha)
    · rcases List.mem_append.mp ha with ha | ha
      · obtain ⟨o, q⟩ := l1.there a ha
        exact ⟨o, by rw [moreH_out (inH q)]; exact q⟩
      · have : a = D := by simpa using ha
        exact ⟨oD, by rw [this, moreH_out (inH hDo)]; exact hDo⟩
    · by_cases hj : j < μ.length
      · rw [List.getElem?_append_left hj] at h1
        rw [List.getElem?_append_left (by rw [← l1.len]; exact hj)] at h2
        obtain ⟨o', q⟩ := l1.there a (List.mem_of_getElem? h1)
        exact (l1.obj j a o h1 h2).mono (ext_alloc D) rfl (by rw [moreH_out (inH q)]) gup
      · have e : j = μ.length := by
          have := (List.getElem?_eq_some_iff.mp h1).1
          simp at this
          omega
        subst e
        rw [List.getElem?_append_right (Nat.le_refl _)] at h1
        rw [l1.len, List.getElem?_append_right (Nat.le_refl _)] at h2
        simp at h1 h2
        subst h1 h2
        refine ⟨fs, hfs, fun j n caps hj => ?_⟩
        obtain ⟨is, g1, g2⟩ := capsAll_get hcl hj
        rw [List.getElem?_map] at g1
        cases hLj : ls[j]? with
        | none => rw [hLj] at g1; cases g1
        | some L =>
          rw [hLj] at g1
          cases g1
          obtain ⟨f', z1, ⟨fo, fd', c', bs, m1, m2, m3, m4, m5, m6, m7, m8, m9, m10, m11, m12⟩, ⟨⟨free, i1, i2, i3, i4⟩, i5⟩⟩ := hL j L hLj
          obtain ⟨ws, w1, w2⟩ := repL_caps r1 g2
          refine ⟨f', z1, fo, fd', c', ws, bs, ⟨m1, m2, m3, w1.mono (ext_alloc _), m4, by rw [i1]; exact m5⟩, ⟨m6, by rw [i1]; exact m7, by rw [i1]; exact m8, by rw [i1]; exact m9, m10, m11⟩, fun x c e => ?_, fun x y c e1 e2 => ?_, fun kx x hkx => ?_⟩
          · rw [m12] at e
            rw [i1]
            exact List.mem_iff_getElem?.mp (i2.fr x (i3 x (clo_lookup e).1))
          · have at_ : ∀ z, fd'.closure.lookup z = some c → X.env.cells.lookup z = some c := fun z ez => by
              rw [m12] at ez
              obtain ⟨q1, q2⟩ := clo_lookup ez
              obtain ⟨kz, hkz⟩ := List.mem_iff_getElem?.mp (i2.fr z (i3 z q1))
              obtain ⟨_, _, _, q3⟩ := i4 kz z hkz
              obtain ⟨c0, hc0⟩ := I1.ok.has z q3
              rw [hc0] at q2
              rw [hc0, q2]
              rfl
            exact I1.ok.inj x y c (at_ x e1) (at_ y e2)
          · rw [i1] at hkx
            obtain ⟨ii, q1, q2, q3⟩ := i4 kx x hkx
            obtain ⟨v, q4, q5⟩ := w2 kx ii q1
            obtain ⟨m, _, hl⟩ := I1.loc
            obtain ⟨u, q6, q7⟩ := hl ii x v q2 q5 (q3.elim (fun z => .inr (.inl z)) fun z => .inr (.inr z))
            rcases q7 with ⟨q8, _⟩ | ⟨_, c, q9, oc, q10, q11⟩
            · have q8 : X.env.scope.names.lookup x = some .local := q8
              rcases q3 with z | z <;> rw [q8] at z <;> cases z
            · refine ⟨c, oc, u, v, ?_, by rw [moreH_in ⟨x, q9⟩, q10]; rfl, q11, q4, q6⟩
              rw [m12, clo_at (PySem.mem_of_lookup (i2.fr2 x (List.mem_of_getElem? hkx))), q9]
              rfl
    · obtain ⟨t1, t2, t3, ps', t4, t5⟩ := l1.tab p hp
      have nz := inH t4
      refine ⟨by rw [moreH_out nz]; exact t1, t2, fun hm => ?_, ps', by rw [moreH_out nz]; exact t4, t5⟩
      rcases List.mem_append.mp hm with hm | hm
      · exact t3 hm
      · have : p.1 = D := by simpa using hm
        rw [this, hDF] at t2
        cases t2
  have hsp : spOf X.K cs i ps.length vs (moreH X.env.cells s1.heap H1) (fun v H2 => Kept H1 (moreH X.env.cells s1.heap H1) H2 ∧ Q v (subs H1 (moreH X.env.cells s1.heap H1) H2)) (fun _ _ _ => False) := by
    refine ⟨by rw [rp.length, hlen], moreH X.env.cells s1.heap G, F1, μ ++ [D], _, pxs, _, VM.noX, b1, rp, d, fun v H2 F2 μ2 x st2 e b2 rx q => ?_, fun _ _ _ _ _ _ _ _ _ _ z => z.elim⟩
    have kept : Kept H1 (moreH X.env.cells s1.heap H1) H2 := fun a o n e1 => by
      have z := isC n (by rw [e1]; exact fun y => nomatch y)
      rw [moreH_in z] at e1
      exact (b2.gd a o (by rw [moreH_in z]; exact e1)).1
    refine ⟨kept, ?_⟩
    have cG : ∀ {a : Addr}, isCl X.env.cells a → moreH X.env.cells s1.heap G a ≠ none := fun {a} z => by
      obtain ⟨oc, h1⟩ := cH z
      rw [moreH_in z, h1]
      exact fun y => nomatch y
    have b3 : LayB X.K G F2 μ2 (VM.killL st2) (subs H1 (moreH X.env.cells s1.heap H1) H2) := b2.kill (fun a o e1 => by rw [moreH_out (Gout e1)]; exact e1) fun a => by
      by_cases z : isCl X.env.cells a
      · refine .inr ⟨cG z, ?_⟩
        cases e1 : G a with
        | none => rfl
        | some o => exact (Gout e1 z).elim
      · refine .inl ?_
        unfold subs
        rw [if_neg fun y => z (isC y.1 y.2)]
    have e2 : Ext F1 μ F2 μ2 := (ext_alloc D).trans e
    exact hk v _ F2 μ2 x _ e2 (l1.back e2 b3) rx q
  have hul : us.length = ps.length := by rw [← rv.length, rp.length, hlen]
  have bnd := hb s1 us I1.kIn (by rw [List.append_nil]; exact hul)
  rw [List.append_nil] at bnd
  refine wpAny_call (codeAny_mono (Fo.run X.A X.stack s1 _ ⟨us, []⟩ us vs _ (fun _ _ _ => False) hr e0 bnd rv hsp) fun r s' out => ?_)
  match r with
  | .error er =>
    obtain ⟨_, _, _, _, _, _, _, _, _, _, _, _, z⟩ := out
    exact z.elim
  | .ok (.ret u) =>
    obtain ⟨v, H2, os, bare, un, hok, rvv, kept, q⟩ := out
    exact ⟨v, _, VS.Inv.dropped I1 A kept os un hok bare, rvv, q⟩
  | .ok .next => exact out.elim
  | .ok .brk => exact out.elim
  | .ok .cont => exact out.elim
def tLV (K : PySem.W.Frag) (cells : List (Str × Addr)) (L : LamE) : L2.TE := fun _ H Q => ∃ G F μ st, Lay K G F μ st H ∧ ∀ f H' F', Lay K G F' μ st H' → Ext F μ F' μ → LamF F' f cells L.params L.body L.scope → f ∉ μ → Q (.ref f) H'
def tLVs (K : PySem.W.Frag) (cells : List (Str × Addr)) (ls : List LamE) : L2.TA := fun _ H Q => ∃ G F μ st, Lay K G F μ st H ∧ ∀ (fs : List Addr) H' F', Lay K G F' μ st H' → Ext F μ F' μ → fs.length = ls.length → (∀ (j : Nat) (L : LamE), ls[j]? = some L → ∃ f, fs[j]? = some f ∧ LamF F' f cells L.params L.body L.scope) → Q (fs.map V.ref) H'
structure Maker (X : Cx) (c P : Addr) : Prop where
  tb : LamX.TabB X.base X.mg c P
  code : X.env.code = .ref c
  mem : (P, X.env.qual ++ "<lambda>") ∈ lamT X.K
  one : ∀ p ∈ lamT X.K, p.1 = P → p.2 = X.env.qual ++ "<lambda>"
section
variable {X : Cx} {c P : Addr}
theorem pe_lamE (M : Maker X c P) {L : LamE} (hL : LamEOk X.N X.env.scope L) : PE X (.Lambda L.params L.body L.scope L.pos) (tLV X.K X.env.cells L) := by
  refine ⟨fun pins s σ H Q I h => ?_⟩
  obtain ⟨G, F, μ, st, l, hq⟩ := h
  refine lam_made I l M.tb M.code M.mem M.one (fun y hy e => ?_) hL.par fun u s' ⟨f, H', F', e1, I', l', e2, hF, _, hn⟩ => ⟨.ref f, H', I', e1, hq f H' F' l' e2 hF hn⟩
  obtain ⟨free, i1, i2, i3, i4⟩ := hL.inf
  obtain ⟨n, k⟩ := y
  have e : k = .free := e
  subst e
  obtain ⟨kx, hkx⟩ := List.mem_iff_getElem?.mp (i2.fr n (i3 n hy))
  obtain ⟨_, _, _, q⟩ := i4 kx n hkx
  exact I.ok.has n q
theorem pa_lamE (M : Maker X c P) : ∀ {ls : List LamE}, (∀ L ∈ ls, LamEOk X.N X.env.scope L) → PA X (ls.map fun L => .Lambda L.params L.body L.scope L.pos) (tLVs X.K X.env.cells ls)
  | [], _ => pa_imp pa_nil fun σ H Q h => by
    obtain ⟨G, F, μ, st, l, hq⟩ := h
    exact hq [] H F l Ext.refl rfl fun j L e => by cases e
  | L :: ls, hL => pa_imp (pa_cons (pe_lamE M (hL L (List.mem_cons_self ..))) (pa_lamE M fun L' h => hL L' (List.mem_cons_of_mem _ h)) (by rfl)) fun σ H Q h => by
    obtain ⟨G, F, μ, st, l, hq⟩ := h
    refine ⟨G, F, μ, st, l, fun f H1 F1 l1 e1 hF hn => ⟨G, F1, μ, st, l1, fun fs H2 F2 l2 e2 hlen hFs => ?_⟩⟩
    refine hq (f :: fs) H2 F2 l2 (e1.trans e2) (by simp [hlen]) fun j L' e => ?_
    cases j with
    | zero =>
      cases e
      exact ⟨f, rfl, hF.mono e2.same⟩
    | succ j =>
      obtain ⟨f', g1, g2⟩ := hFs j L' (by simpa using e)
      exact ⟨f', by simpa using g1, g2⟩
variable {x : Str} {cs : VM.CS} {k i : Nat} {ps : List Str} {ls : List LamE} {p lp pos : Pos} {n : Nat}
theorem ve_lams (M : Maker X c P) (hL : ∀ L ∈ ls, LamEOk X.N X.env.scope L) (hfn : ∀ x, X.fn x = true) (hs : X.stack = X.env :: X.outer) (hfr : X.env.frame = some X.env.locals) (C : Callee X.prog X.w X.K X.mg X.base x cs k i ps) (hps : ps.length = 1) (hr : Room k X.A) (hg : Gl X x) (hsz : ls.length ≤ 1000)
    (hdb : (x == ("__debug__" : Str)) = false := by decide) : VE X (.Call (.Name x p) [.List (ls.map fun L => .Lambda L.params L.body L.scope L.pos) lp] [] pos) (VM.eLams cs i (ls.map fun L => (L.n, L.is))) := by
  obtain ⟨f, fd, F, hm, hkp, hb, _⟩ := C.ok
  refine ⟨fun pins s σ H Q I h => ?_⟩
  obtain ⟨G, F0, μ, ρ, st, kk, l, r, d, hk⟩ := h
  unfold VM.eLams at d
  split at d
  · rename_i cl hcl
    refine wpAny_Call_Name_kw (ld_glob I hg hm ?_ hdb)
    refine PySem.W.callWith_K (h₀ := X.base) I.ok.mod.kin hkp (thn ((pa_cons (pe_lst (pa_lamE M hL)) pa_nil (by rfl)).run pos pins s σ H (fun vs H1 => ∃ (D : Addr) (fs : List Addr) (F1 : Hp), vs = [.ref D] ∧ Lay X.K G F1 μ st H1 ∧ Ext F0 μ F1 μ ∧ D ∉ μ ∧ F1 D = some (.lst (fs.map V.ref)) ∧ fs.length = ls.length ∧ ∀ (j : Nat) (L : LamE), ls[j]? = some L → ∃ f, fs[j]? = some f ∧ LamF F1 f X.env.cells L.params L.body L.scope) I ?_)
      fun us s1 ⟨vs, H1, I1, rv, D, fs, F1, ev, l1, e1, hn, hD, hlen, hFs⟩ => ⟨I1.kIn, ?_⟩) (by rfl) (by rfl)
    · refine ⟨G, F0, μ, st, l, fun fs H1 F1 l1 e1 hlen hFs => ⟨by rw [List.length_map, hlen, sizeLine_eq]; omega, fun D hD => ?_⟩⟩
      have e2 := ext_upd (o := HO.lst (fs.map V.ref)) l1 hD
      refine ⟨D, fs, upd F1 D (.lst (fs.map V.ref)), rfl, l1.new hD, e1.trans e2, l1.notin hD, upd_same, hlen, fun j L e => ?_⟩
      obtain ⟨f', g1, g2⟩ := hFs j L e
      exact ⟨f', g1, g2.mono e2.same⟩
    · subst ev
      refine lams_core (b := false) (fs := fs) (ls := ls) I1 l1 (r.mono e1) hfn hs hfr hn ⟨_, hD⟩ (by rw [if_neg Bool.false_ne_true]; exact hD) (fun j L e => ?_) hcl F hr hb (repL_cons.mpr ⟨.ref D, [], rfl, ?_, repL_nil.mpr rfl⟩) rv hps.symm d (hk.mono e1)
      · obtain ⟨f', g1, g2⟩ := hFs j L e
        exact ⟨f', g1, g2, hL L (List.mem_of_getElem? e)⟩
      · refine rep_lst.mpr ⟨D, fs.map V.ref, rfl, hD, RepL.ofGet (by simp [hlen]) fun j y v e2 e3 => ?_⟩
        rw [List.getElem?_map] at e2 e3
        cases q : fs[j]? with
        | none => rw [q] at e3; cases e3
        | some fj =>
          rw [q] at e3
          cases e3
          have hj : j < ls.length := by rw [← hlen]; exact (List.getElem?_eq_some_iff.mp q).1
          rw [List.getElem?_range (by simpa using hj)] at e2
          cases e2
          unfold Rep
          refine ⟨D, ?_, fj, fs.map V.ref, rfl, hD, by rw [List.getElem?_map, q]; rfl⟩
          rw [← l1.len, List.getElem?_append_right (Nat.le_refl _)]
          simp
  · exact d.elim
theorem ve_lam1 {L : LamE} (M : Maker X c P) (hL : LamEOk X.N X.env.scope L) (hfn : ∀ x, X.fn x = true) (hs : X.stack = X.env :: X.outer) (hfr : X.env.frame = some X.env.locals) (C : Callee X.prog X.w X.K X.mg X.base x cs k i ps) (hps : ps.length = 1) (hr : Room k X.A) (hg : Gl X x)
    (hdb : (x == ("__debug__" : Str)) = false := by decide) : VE X (.Call (.Name x p) [.Lambda L.params L.body L.scope L.pos] [] pos) (VM.eLam1 cs i (L.n, L.is)) := by
  obtain ⟨f, fd, F, hm, hkp, hb, _⟩ := C.ok
  refine ⟨fun pins s σ H Q I h => ?_⟩
  obtain ⟨G, F0, μ, ρ, st, kk, l, r, d, hk⟩ := h
  unfold VM.eLam1 at d
  split at d
  · rename_i cl hcl
    refine wpAny_Call_Name_kw (ld_glob I hg hm ?_ hdb)
    refine PySem.W.callWith_K (h₀ := X.base) I.ok.mod.kin hkp (thn ((pa_cons (pe_lamE M hL) pa_nil (by rfl)).run pos pins s σ H (fun vs H1 => ∃ (D : Addr) (F1 : Hp), vs = [.ref D] ∧ Lay X.K G F1 μ st H1 ∧ Ext F0 μ F1 μ ∧ D ∉ μ ∧ LamF F1 D X.env.cells L.params L.body L.scope) I ?_)
      fun us s1 ⟨vs, H1, I1, rv, D, F1, ev, l1, e1, hn, hFs⟩ => ⟨I1.kIn, ?_⟩) (by rfl) (by rfl)
    · exact ⟨G, F0, μ, st, l, fun f H1 F1 l1 e1 hF hn => ⟨f, F1, rfl, l1, e1, hn, hF⟩⟩
    · subst ev
      refine lams_core (b := true) (fs := [D]) (ls := [L]) I1 l1 (r.mono e1) hfn hs hfr hn (by obtain ⟨fo, _, _, _, z, _⟩ := hFs.ex; exact ⟨_, z⟩) (by rw [if_pos rfl]) (fun j L' e => ?_) hcl F hr hb (repL_cons.mpr ⟨.ref D, [], rfl, ?_, repL_nil.mpr rfl⟩) rv hps.symm d (hk.mono e1)
      · cases j with
        | zero =>
          cases e
          exact ⟨D, rfl, hFs, hL⟩
        | succ j => cases e
      · unfold Rep
        refine ⟨D, ?_, rfl⟩
        rw [← l1.len, List.getElem?_append_right (Nat.le_refl _)]
        simp
  · exact d.elim
end
end VS
end
section
namespace VS
open PySem PySem.Spec PyProof.Rows L2 ClX
open VM (PV SO Store)
variable [Lams] [W : Wsh]
def CodeIs (K : PySem.W.Frag) (f : Addr) (cdv : Value) : Prop := ∃ oc od fd osl, K.lookup f = some ⟨oc, od, .func fd, osl⟩ ∧ fd.code = cdv
theorem fn_succL {P : Program} {w : World} {K : PySem.W.Frag} {mg : Str → Option Value} {base : Heap} {FT : Nat → Option VM.FD} {n k i : Nat} {x qual : Str} {params : Arguments} {body : List Stmt} {scope : Scope} {f : Addr} {fd : FuncData} {N ps : List Str} {Fd : VM.FD}
    {dvs : List V} {kws : List (Str × V)} (F : FunD K x qual params body scope dvs kws f fd) (S : FnScope N ps scope) (hF : FT i = some Fd) (hp : Fd.np = ps.length) (hs : Fd.ns = N.length)
    (hb : ∀ [Wsh] (cdv : Value) (A : Around) (outer : List Env) (s : Shared) (H : Hp) [TkX (cxOf (L2.CX P w) P w K mg base N qual scope f cdv A outer s H Wsh.E)], CodeIs K f cdv → Room k (A.deeper (envOfC qual scope s.heap.objs.size f cdv)) → VB (cxOf (L2.CX P w) P w K mg base N qual scope f cdv A outer s H Wsh.E) body (Fd.body (VM.callN FT n))) :
    FnOk P w K mg base (L2.CX P w) (k + 1) f fd ps (spOf K (VM.callN FT (n + 1)) i ps.length) := by
  obtain ⟨oc, od, dV, kV, doc, pm, an, cdv, ct, osl, rfl, lk, hcd, hD, hK⟩ := F.ex
  have ci : CodeIs K f cdv := ⟨_, _, _, _, lk, rfl⟩
  refine fn_of lk hcd S (fun vs H Q E h => h.1) fun A outer s H vs Q E hr h => ?_
  obtain ⟨_, G, F', μ, st, pxs, k', y, l, r, d, hk, hx⟩ := h
  unfold VM.callN at d
  rw [hF] at d
  obtain ⟨hl, d⟩ := d
  refine ⟨_, @hb (wshOf K G F' μ y E hx) cdv A outer s H (@TkX.mk _ (wshOf K G F' μ y E hx) _ (takes_of rfl rfl rfl rfl)) ci hr, ?_⟩
  exact ⟨G, F', μ, _, st, _, l.lay, envR_start r hl hs, d, @KonS.mk _ (wshOf K G F' μ y E hx) _ _ _ _ _ _ (fun σ' H' F' μ' ρ' st' e l' r' q => hk .non H' F' μ' .non st' e (@Lay.toLayB _ (wshOf K G _ μ y E hx) _ _ _ _ _ _ l') (rep_non.mpr rfl) q) hk.kon (fun _ _ _ _ _ _ _ _ _ q => q.elim) (fun _ _ _ _ _ _ _ _ _ q => q.elim) rfl⟩
def tabP (K : PySem.W.Frag) (x : Str) : Addr × Addr := (PySem.W.tabIn K x).getD (0, 0)
def tabB (K : PySem.W.Frag) (x : Str) : Bool := decide (PySem.W.tabIn K x = some (tabP K x)) && ((match K.lookup (He.ga K x) with
  | some ⟨_, _, .func fd, _⟩ => decide (fd.code = .ref (tabP K x).1)
  | _ => false) && (K.lookup (tabP K x).2).isNone)
theorem tabB_ok {K : PySem.W.Frag} {x : Str} (h : tabB K x = true) : PySem.W.tabIn K x = some (tabP K x) ∧ (∀ cdv, CodeIs K (He.ga K x) cdv → cdv = .ref (tabP K x).1) ∧ K.lookup (tabP K x).2 = none := by
  unfold tabB at h
  simp only [Bool.and_eq_true, decide_eq_true_eq, Option.isNone_iff_eq_none] at h
  refine ⟨h.1, fun cdv ⟨oc, od, fd, osl, e1, e2⟩ => ?_, h.2.2⟩
  have h2 := h.2.1
  rw [e1] at h2
  simp only [decide_eq_true_eq] at h2
  rw [← e2, h2]
theorem maker_of {X : Cx} {x : Str} {f : Addr} (hT : LamX.TabB X.base X.mg (tabP X.K x).1 (tabP X.K x).2) (hB : tabB X.K x = true) (ho : Lams.own = [x]) (hq : X.env.qual = x ++ ".<locals>.") (hc : CodeIs X.K (He.ga X.K x) X.env.code) : Maker X (tabP X.K x).1 (tabP X.K x).2 := by
  obtain ⟨h1, h2, _⟩ := tabB_ok hB
  have e : lamT X.K = [((tabP X.K x).2, x ++ ".<locals>." ++ "<lambda>")] := by
    unfold lamT
    rw [ho]
    simp [h1]
  refine ⟨hT, h2 _ hc, ?_, fun p hp _ => ?_⟩
  · rw [e, hq]
    exact List.mem_singleton.mpr rfl
  · rw [e] at hp
    rw [List.mem_singleton.mp hp, hq]
def errB (K : PySem.W.Frag) (c : Nat) (tl : List Value) (nw : String) : Bool := PySem.W.excInitIn K (cA K c) tl nw && (PySem.W.excOver K (cA K c) tl && (PySem.W.hasDictIn K (cA K c) && (decide (PySem.W.findIn K (.ref (cA K c)) "__setattr__" = some (some (.builtin "object.__setattr__"))) && (decide (PySem.W.subIn K (.ref (cA K c)) (.type "BaseException") = some true) &&
  (decide (PySem.W.typeIn K (.ref (cA K c)) = some (.type "type")) && PySem.W.keepIn K (.ref (cA K c)))))))
theorem errB_ok {K : PySem.W.Frag} {c : Nat} {tl : List Value} {bi nw it : String} (F : ExcBaseFacts bi nw it tl) (S : StoreFacts bi tl "object.__setattr__" "object") (h : errB K c tl nw = true) : IsErr K (cA K c) it := by
  unfold errB at h
  simp only [Bool.and_eq_true, decide_eq_true_eq] at h
  exact ⟨tl, bi, nw, F, S, h.1, h.2.1, h.2.2.1, h.2.2.2.1, h.2.2.2.2.1, h.2.2.2.2.2.1, h.2.2.2.2.2.2⟩
abbrev tlL : List Value := [.type "LookupError", .type "Exception", .type "BaseException", .type "object"]
def errLB (K : PySem.W.Frag) (c : Nat) : Bool := errB K c tlL "LookupError.__new__"
theorem errLB_ok {K : PySem.W.Frag} {c : Nat} (h : errLB K c = true) : IsErr K (cA K c) "LookupError.__init__" := errB_ok PySem.F.excBase_LookupError PySem.F.store_LookupError h
def baseB (K : PySem.W.Frag) (c : Nat) (it : String) : Bool := PySem.W.readsIn K (cA K c) (.type "type") && (eqV (PySem.W.specialIn K (.ref (cA K c)) "__getattribute__") (some (some (.builtin "type.__getattribute__"))) && (match PySem.W.findCls K (.ref (cA K c)) (.type "type") "__init__" with
  | some (.val (.builtin s)) => s == it
  | _ => false))
theorem baseB_ok {K : PySem.W.Frag} {c : Nat} {it : String} (h : baseB K c it = true) : CRead K (cA K c) (.type "type") ∧ PySem.W.findCls K (.ref (cA K c)) (.type "type") "__init__" = some (.val (.builtin it)) := by
  unfold baseB eqV at h
  simp only [Bool.and_eq_true, decide_eq_true_eq] at h
  obtain ⟨h1, h2, h3⟩ := h
  refine ⟨⟨h1, h2⟩, ?_⟩
  split at h3
  · rename_i s e
    rw [e, eq_of_beq h3]
  · cases h3
def initB (K : PySem.W.Frag) (c : Nat) (ns : List Str) : Bool := decide (PySem.W.findIn K (.ref (cA K c)) "__init__" = some (some (.ref (mA K c "__init__")))) && (decide (PySem.W.typeIn K (.ref (mA K c "__init__")) = some (.type "function")) && (("code" : Str) :: ns).all fun n => decide (PySem.W.findIn K (.ref (cA K c)) n = some none))
theorem mkE_of {P : Program} {w : World} {K : PySem.W.Frag} {mg : Str → Option Value} {base : Heap} {c : Nat} {qual : Str} {params : Arguments} {body : List Stmt} {scope : Scope} {fd : FuncData} {N ps ns : List Str} {it : String} {msg code : Str}
    (hE : IsErr K (cA K c) it) (hI : initB K c ns = true) (F : FunD K "__init__" qual params body scope [] [] (mA K c "__init__") fd) (S : FnScope N ps scope) (hp : ps.length = ns.length + 1) (hN : N.length = ps.length) (hl : ns.length ≤ 800)
    (hb : ∀ (cdv : Value) (A : Around) (outer : List Env) (s : Shared) (H : Hp) (E : XK), PSs (cxOf (L2.CX P w) P w K mg base N qual scope (mA K c "__init__") cdv A outer s H E) body (rdErr K it msg code ns)) (bn : L2.Binds K fd ps []) : MkE P w K mg base 1 (cA K c) it code ns := by
  unfold initB at hI
  simp only [Bool.and_eq_true, decide_eq_true_eq, List.all_eq_true] at hI
  exact ⟨hE, mA K c "__init__", fd, ps, hI.1, hI.2.1, err_fn F S hE hp hN hl hI.2.2 hb, bn⟩
theorem walk_ofT {l : PySem.W.OpenLaw} {n k : Nat} {q : Program} {loose : List Str} {XP : (Str → Option Value) → Heap → Prop} {YP : World → Heap → Prop} {d : DefRec} {x : Str} {own : List Str}
    (hn : l.most = some n) (hn2 : n ≤ sizeLine) (hdf : d.params.defaults = []) (hr : Room k callerA) (hq : importsNone q = true) (hrec : ∀ y ∈ own, ∃ e, (recsOf q).find? (fun e => e.name == y) = some e)
    (F : ∀ (w : World) (mg : Str → Option Value) (fa : Addr) (h : Heap), YP w h → h.Ns mainGlobals mg → mg d.name = some (.ref fa) →
      ∃ (K : PySem.W.Frag) (fd : FuncData), K.In h ∧ seerB K = true ∧ (∀ y ∈ own, tabB K y = true) ∧ (∀ (s : Shared) (u : Value), BindsTo s fd ⟨[u], []⟩ [(x, u)]) ∧ ∃ sp : Sp,
        (∀ (H : Hp) (a : Addr) (ns : List Int), ns.length ≤ n → (∀ y ∈ own, H (tabP K y).2 = some (.tbl #[])) → SqL K H a (ns.map V.int) → sp [.ref a] H (fun v _ => v = .bl true) fun _ _ _ => False) ∧
        ∀ base : Heap, K.In base → base.Ns mainGlobals mg → base.NoSeer → (∀ y ∈ own, LamX.TabB base mg (tabP K y).1 (tabP K y).2) → FnOk l.prog w K mg base (L2.CX l.prog w) k fa fd [x] sp) :
    PySem.W.WalkO q loose XP YP l.row.toRowW d [] (fun f vs => PySem.call f vs) := by
  refine Att.attach_call hn hdf ?_
  intro w t0 t1 mg mb fa o pm cd doc a vs ns Gr Yh ho hd hcd hmg hobj hints hlen hg
  obtain ⟨K, fd, KX, sb, hB, hb, sp, hsp, hF⟩ := F w mg fa _ Yh Gr.T.g hmg
  have sr := seer_of KX (Gr.T.seer hq) sb
  have hc : ∀ y ∈ own, PySem.W.CodeHd t1.heap (tabP K y).1 (tabP K y).2 ∧ t1.heap.get? (tabP K y).2 = some (PySem.W.tabObj #[]) := fun y hy => by
    obtain ⟨e, he⟩ := hrec y hy
    exact PySem.W.tab_of Gr.T KX he (tabB_ok (hB y hy)).1
  refine LamX.law_callTs (CX := L2.CX l.prog w) (cs := own.map (tabP K)) KX Gr.T.g Gr.T.b Gr.T.builtins Gr.T.nolimit hg (fun p hp => ?_) (fun p hp => ?_) (fun p hp => ?_) Gr.T.bmain hobj hints (Nat.le_trans hlen hn2) hr
    (fun base h1 h2 h3 => hF base h1 h2 (sr base h1) fun y hy => h3 _ (List.mem_map.mpr ⟨y, hy, rfl⟩)) hb (fun H hH hS => hsp H a ns hlen (fun y hy => hH _ (List.mem_map.mpr ⟨y, hy, rfl⟩)) hS) fun _ _ _ ⟨_, _, _, _, _, _, _, _, _, _, _, _, z⟩ => z
  · obtain ⟨y, hy, rfl⟩ := List.mem_map.mp hp
    exact (hc y hy).2
  · obtain ⟨y, hy, rfl⟩ := List.mem_map.mp hp
    exact (tabB_ok (hB y hy)).2.2
  · obtain ⟨y, hy, rfl⟩ := List.mem_map.mp hp
    exact (hc y hy).1
theorem lamT_tbl {K : PySem.W.Frag} {H : Hp} (hB : ∀ y ∈ Lams.own, tabB K y = true) (h : ∀ y ∈ Lams.own, H (tabP K y).2 = some (.tbl #[])) : ∀ p ∈ lamT K, H p.1 = some (.tbl #[]) := fun p hp => by
  unfold lamT at hp
  obtain ⟨y, hy, e⟩ := List.mem_filterMap.mp hp
  rw [(tabB_ok (hB y hy)).1] at e
  cases e
  exact h y hy
end VS
end
section
namespace VS
open PySem PySem.Spec PyProof.Rows L2
open VM (PV SO Store)
def stSub (s : Stmt) (k : Nat) : Stmt := match s with
  | .For _ _ b _ _ => b.getD k (.Pass ⟨0, 0, 0, 0⟩)
  | .While _ b _ _ => b.getD k (.Pass ⟨0, 0, 0, 0⟩)
  | .If _ b o _ => (b ++ o).getD k (.Pass ⟨0, 0, 0, 0⟩)
  | .FunctionDef (body := b) .. => b.getD k (.Pass ⟨0, 0, 0, 0⟩)
  | _ => .Pass ⟨0, 0, 0, 0⟩
def noE : Expr := .Constant .none 0 ⟨0, 0, 0, 0⟩
def stEx (s : Stmt) : Expr := match s with
  | .Assign _ e _ => e
  | .Return (some e) _ => e
  | .Expr e _ => e
  | .If e _ _ _ => e
  | _ => noE
def exSub (e : Expr) (k : Nat) : Expr := match e with
  | .Call _ as _ _ => as.getD k noE
  | .List es _ => es.getD k noE
  | .Tuple es _ _ => es.getD k noE
  | .UnaryOp _ a _ => a
  | .BoolOp _ as _ => as.getD k noE
  | .Compare a _ bs _ => (a :: bs).getD k noE
  | .BinOp a _ b _ => if k = 0 then a else b
  | .IfExp a b c _ => if k = 0 then a else if k = 1 then b else c
  | .Subscript a b _ => if k = 0 then a else b
  | .Lambda _ b _ _ => b
  | _ => noE
def lamAt (e : Expr) (free : List Str) : LamI := match e with
  | .Lambda p b s _ => ⟨p, b, s, free⟩
  | _ => ⟨⟨[], [], none, [], [], none, []⟩, noE, default, free⟩
variable [Lams] [W : Wsh]
def lamEB (N : List Str) (sc scope : Scope) (free : List Str) (is : List Nat) : Bool := lamGB scope free && ((scope.names.all fun y => !decide (y.2 = .free) || decide (scope.names.lookup y.1 = some .free)) && (decide (is.map (fun i => N[i]?) = free.map some) && free.all fun x => decide (sc.names.lookup x = some .cell) || decide (sc.names.lookup x = some .free)))
theorem lamE_by {N : List Str} {sc : Scope} {L : LamE} {free : List Str} (hi : Lams.info L.n = ⟨L.params, L.body, L.scope, free⟩) (h : lamEB N sc L.scope free L.is = true) (hp : LamP L.params L.body L.scope) : LamEOk N sc L := by
  unfold lamEB at h
  simp only [Bool.and_eq_true, Bool.or_eq_true, Bool.not_eq_true', decide_eq_true_eq, decide_eq_false_iff_not, List.all_eq_true] at h
  obtain ⟨h1, h2, h3, h4⟩ := h
  refine ⟨⟨free, hi, lamG_by h1, fun x hx => ?_, fun k x hk => ?_⟩, hp⟩
  · rcases h2 _ hx with z | z
    · exact absurd rfl z
    · exact z
  · have e : (L.is.map fun i => N[i]?)[k]? = some (some x) := by rw [h3, List.getElem?_map, hk]; rfl
    rw [List.getElem?_map] at e
    cases q : L.is[k]? with
    | none => rw [q] at e; cases e
    | some i =>
      rw [q] at e
      exact ⟨i, rfl, Option.some.inj e, h4 x (List.mem_of_getElem? hk)⟩
theorem lm_none {P : Program} {w : World} {K : PySem.W.Frag} {mg : Str → Option Value} {base : Heap} {FT : Nat → Option VM.FD} {d k n : Nat} (h : FT n = none) : LmOk P w K mg base (VM.callN FT d) k n :=
  ⟨fun _ _ _ _ _ _ _ _ _ _ _ _ _ _ _ _ _ _ z => by
    cases d with
    | zero => exact z.elim
    | succ d =>
      unfold VM.callN at z
      rw [h] at z
      exact z.elim⟩
theorem fnC_zero {P : Program} {w : World} {K : PySem.W.Frag} {mg : Str → Option Value} {base : Heap} {FT : Nat → Option VM.FD} {k i : Nat} {f : Addr} {fd : FuncData} {ps : List Str} : FnC P w K mg base k f fd ps (spOf K (VM.callN FT 0) i ps.length) :=
  ⟨fun _ _ _ _ h => h.1, fun A outer s H args us vs Q E hr e0 hb hv h => by
    obtain ⟨_, G, F, μ, st, pxs, k, x, _, _, d, _⟩ := h
    exact d.elim⟩
end VS
end
section
namespace VS
open PySem PySem.Spec PyProof.Rows L2
variable [Lams] [Wsh]
theorem lL_nil {N : List Str} {sc : Scope} : ∀ L ∈ ([] : List LamE), LamEOk N sc L := fun _ h => nomatch h
theorem lL_cons {N : List Str} {sc : Scope} {L : LamE} {ls : List LamE} (h : LamEOk N sc L) (t : ∀ L ∈ ls, LamEOk N sc L) : ∀ M ∈ L :: ls, LamEOk N sc M := fun x hx => (List.mem_cons.mp hx).elim (fun e => by rw [e]; exact h) (t x)
theorem rh_units {k : Nat} {A : Around} (r : L2H.RoomH k A) : A.units + 64 < cLine := by
  have := r.un
  omega

theorem rh_mark {k : Nat} {A : Around} {h : Option Value} (r : Room k A) : L2H.RoomH k (A.mark h) := ⟨r.dp, r.un⟩
def noTab (own : List Str) (g : Addr → Option Obj) (as : List Addr) : List Addr := as.filter fun a => !((own.map fun x => (tabP (He.frG g as) x).2).contains a)
def obsT (own : List Str) (n : Nat) (fa : List He.Fa) (fn : List DefV) (ex : PySem.W.Frag → Bool) (g : Addr → Option Obj) : AlV := obsV fa fn ex (He.frG g (noTab own g (asV g n)))
def hookT (own : List Str) (n : Nat) (fa : List He.Fa) (fn : List DefV) (ex : PySem.W.Frag → Bool) : PySem.W.Hook where
  α := AlV
  obs := fun s => obsT own n fa fn ex s.heap.get?
  val := fun _ => valV fn
  says := fun _ h => ∃ K : PySem.W.Frag, K.In h ∧ SaysV fa fn ex K
  of := fun _ _ e => ⟨_, He.frG_in, e⟩
  keeps := fun _ _ _ ⟨K, hK, c⟩ k => ⟨K, PySem.W.Frag.In.keeps hK k, c⟩
theorem obsT_eq {own : List Str} {n : Nat} {fa : List He.Fa} {fn : List DefV} {ex : PySem.W.Frag → Bool} {g : Addr → Option Obj} {s : Shared} (h : ∀ a, g a = s.heap.get? a) : obsT own n fa fn ex g = (hookT own n fa fn ex).obs s := by
  have e : g = s.heap.get? := funext h
  rw [e] <;> rfl
end VS
end
section
namespace VS
open PySem PySem.Spec PyProof.Rows L2
open VM (PV SO Store)
variable [Lams] [Wsh]
section
variable {X : Cx} {o e : Expr} {ta tb : VM.TE} {apos pos : Pos}
end
end VS
end
section
namespace VS
open PySem PySem.Spec PyProof.Rows L2
open VM (PV SO Store)
variable [Lams] [Wsh]
section
variable {X : Cx} {o e a : Expr} {ta tb : VM.TE} {apos pos p p3 p1 : Pos} {kk : Nat}
inductive PJV (X : Cx) : List Expr → List VM.TE → Prop where
  | nil : PJV X [] []
  | cons {e : Expr} {t : VM.TE} {es : List Expr} {ts : List VM.TE} (h : VE X e t) (r : PJV X es ts) : PJV X (e :: es) (t :: ts)
end
end VS
end
section
namespace VM
def sAddI (i : Nat) (e : TE) : TS := fun D ρ st => match ρ[i]? with
  | some (some (.int a)) => e ρ st (fun v st => match v with | .int b => D.nx (ρ.set i (some (.int (a + b)))) st | _ => False) D.xk
  | _ => False
def eDNew : TE := fun _ st k _ => k (.dct [] []) st
def eDCopy (a : TE) : TE := fun ρ st k x => a ρ st (fun u st => match asD st u with
  | some (ks, xs) => (match asStrs ks with | some ss => ss.Nodup ∧ k (.dct ks xs) st | none => False)
  | none => False) x
def asInts : List PV → Option (List Int)
  | [] => some []
  | .int i :: r => match asInts r with | some s => some (i :: s) | none => none
  | _ :: _ => none
def opDNe (x y : PV) (st : Store) (k : Bool → Store → Prop) : Prop := match asD st x, asD st y with
  | some (ks, xs), some (ks', xs') => ks' = ks ∧ xs' = xs ∧ (asInts xs).isSome = true ∧ (match asStrs ks with | some ss => ss.Nodup ∧ k false st | none => False)
  | _, _ => False
def tDNe (a b : TE) : TT := fun ρ st k x => a ρ st (fun u st => b ρ st (fun v st => opDNe u v st k) x) x
end VM
end
section
namespace VS
open PySem PySem.Spec PyProof.Rows L2
open VM (PV SO Store)
variable [Lams] [Wsh]
section
variable {X : Cx} {o e a : Expr} {ta tb : VM.TE} {apos pos p p3 p1 : Pos} {kk : Nat}
end
end VS
end
section
namespace VS
open PySem PySem.Spec PyProof.Rows L2
open VM (PV SO Store)
variable [Lams] [Wsh]
theorem Lay.grow {K : PySem.W.Frag} {G F : Hp} {μ : List Addr} {H H' : Hp} {st : Store} (l : Lay K G F μ st H) (h : ∀ b o, H b = some o → H' b = some o) : Lay K G F μ st H' where
  gd := fun a o e => ⟨h _ _ (l.gd a o e).1, (l.gd a o e).2⟩
  same := fun a o e => h _ _ (l.same a o e)
  len := l.len
  nd := l.nd
  there := fun a ha => by
    obtain ⟨o, e⟩ := l.there a ha
    exact ⟨o, h _ _ e⟩
  obj := fun i a o h1 h2 => by
    obtain ⟨u, e⟩ := l.there a (List.mem_of_getElem? h1)
    exact (l.obj i a o h1 h2).mono Ext.refl rfl (by rw [e]; exact h _ _ e) fun _ _ z => z
  tab := l.tab.mono Ext.refl fun q hq => by
    obtain ⟨_, _, h3, ps, h4, _⟩ := l.tab q hq
    exact ⟨rfl, rfl, by rw [h4]; exact h _ _ h4, h3⟩
  gw := l.gw
  gx := l.gx
  we := l.we
  wk := l.wk
theorem paired_imp {α β : Type} {F G : α → β → Prop} (h : ∀ a b, F a b → G a b) {xs : List α} {ys : List β} (p : Paired F xs ys) : Paired G xs ys := by
  induction p with
  | nil => exact .nil
  | cons a _ ih => exact .cons (h _ _ a) ih
theorem ints_rep {K : PySem.W.Frag} {F : Hp} {μ : List Addr} : ∀ {xs : List PV} {is : List Int} {vs : List V}, VM.asInts xs = some is → RepL K F μ xs vs → vs = is.map V.int
  | [], is, vs, h, r => by
    cases h
    exact repL_nil.mp r
  | x :: xs, is, vs, h, r => by
    unfold VM.asInts at h
    split at h
    · cases ‹_ :: _ = []›
    · rename_i i r' e
      cases e
      split at h
      · rename_i s es
        cases h
        obtain ⟨v, vs', rfl, rv, r⟩ := repL_cons.mp r
        rw [rep_int.mp rv, ints_rep es r]
        rfl
      · cases h
    · cases h
theorem kP_inj {a b : Key} (h : kP a = kP b) : a = b := by
  have e := keyEq_kP a b
  have e2 := keyEq_kP b b
  rw [h, e2] at e
  have : decide (a = b) = true := by rw [← e]; simp
  exact of_decide_eq_true this
theorem kvs_eq : ∀ {ks ls : List (Key × V)}, ks.map (fun q => kP q.1) = ls.map (fun q => kP q.1) → ks.map (·.2) = ls.map (·.2) → ks = ls
  | [], [], _, _ => rfl
  | [], _ :: _, h, _ => by cases h
  | _ :: _, [], h, _ => by cases h
  | (a, v) :: ks, (b, u) :: ls, h1, h2 => by
    injection h1 with a1 a2
    injection h2 with b1 b2
    have e : v = u := b1
    have e2 : a = b := kP_inj a1
    rw [e2, e, kvs_eq a2 b2]
theorem valV_mem {kvs : List (Key × V)} (nd : (kvs.map (·.1)).Nodup) : ∀ p ∈ kvs, L2.valV kvs p.1 = some p.2 := by
  induction kvs with
  | nil => intro p h; cases h
  | cons q r ih =>
    intro p hp
    rw [List.map_cons, List.nodup_cons] at nd
    unfold L2.valV
    rcases List.mem_cons.mp hp with e | hp
    · subst e
      rw [List.find?_cons_of_pos (by simp)]
      rfl
    · have ne : ¬ q.1 = p.1 := fun z => nd.1 (by rw [z]; exact List.mem_map_of_mem hp)
      rw [List.find?_cons_of_neg (by simpa using ne)]
      exact ih nd.2 p hp
theorem hits_eq {A : Around} {s : Shared} {ls : List (Key × V)} {vb : List (Key × Value)} (rb : KV ls vb) {ks : List (Key × V)} {va : List (Key × Value)}
    (ra : KV ks va) : (∀ p ∈ ks, L2.valV ls p.1 = some p.2 ∧ flatB p.2 = true) → PySem.W.KeqHits A s vb va true := by
  unfold KV at ra
  induction ra with
  | nil => intro _; exact .nil
  | @cons p q ps qs h t k =>
    intro hp
    obtain ⟨h1, h2⟩ := h
    obtain ⟨e, f⟩ := hp p List.mem_cons_self
    have rr : RelO (some p.2) (valueAt vb p.1) := by rw [← e]; exact rb.val p.1
    obtain ⟨y, hy, ry⟩ := rr.some_of
    obtain ⟨key, v⟩ := q
    have h1' : p.1 = key := h1
    rw [h1'] at hy
    show PySem.W.KeqHits A s vb ((key, v) :: qs) (true && true)
    exact .hit hy (eqAt_same h2 ry f) (k fun p' hm => hp p' (List.mem_cons_of_mem _ hm))
section
variable {X : Cx} {a b e : Expr} {ta tb te : VM.TE} {p p2 pos pos2 apos cpos : Pos}
theorem o_dne (hu : X.A.units < cLine) : OpR X (compareOp .NotEq) (R2B X.K VM.opDNe) := by
  intro pins s σ H x y v u Q I rx ry h
  obtain ⟨G, F, μ, st, px, py, k, l, p1, p2, d, hk⟩ := h
  unfold VM.opDNe at d
  split at d
  · rename_i ks xs ks' xs' ea eb
    obtain ⟨rfl, rfl, ei, d⟩ := d
    split at d
    · rename_i ss es
      obtain ⟨nd, d⟩ := d
      obtain ⟨is, hi⟩ := Option.isSome_iff_exists.mp ei
      obtain ⟨a, kvs, rfl, hH, e1, rl⟩ := asD_rep l p1 ea
      obtain ⟨b, kvs2, rfl, hH2, e2, rl2⟩ := asD_rep l p2 eb
      have es1 := ints_rep hi rl
      have es2 := ints_rep hi rl2
      obtain rfl : kvs = kvs2 := kvs_eq (e1.symm.trans e2) (es1.trans es2.symm)
      have ndk : (kvs.map (·.1)).Nodup := by
        have q : (kvs.map (·.1)).map kP = ss.map fun s => kP (Sum.inr (toS s)) := by rw [List.map_map, ← kP_txt es, e1]; rfl
        have q2 : kvs.map (·.1) = ss.map fun s => (Sum.inr (toS s) : Key) := by
          apply List.map_inj_right (f := kP) (fun a b h => kP_inj h) |>.mp
          rw [q, List.map_map]
          rfl
        rw [q2]
        exact keys_nd nd
      cases (show v = Value.ref a from rx)
      cases (show u = Value.ref b from ry)
      obtain ⟨_, ya, va, ra, da⟩ := (show ObjOk X.prog X.w H s.heap a (.dK kvs) from I.hok a _ hH)
      obtain ⟨_, yb, vb, rb, db⟩ := (show ObjOk X.prog X.w H s.heap b (.dK kvs) from I.hok b _ hH2)
      refine PySem.W.keq_ne (knd := mixKind X.prog X.w) (r := true) ya yb da db hu (fun _ => hits_eq rb ra fun p hp => ⟨valV_mem ndk p hp, ?_⟩) ?_
      · have : p.2 ∈ kvs.map (·.2) := List.mem_map_of_mem hp
        rw [es1] at this
        obtain ⟨i, _, e⟩ := List.mem_map.mp this
        rw [← e]
        rfl
      · have e : va.length = vb.length := by rw [← ra.length, ← rb.length]
        rw [show (!(va.length == vb.length && true)) = false from by rw [e]; simp]
        exact ⟨.bl false, H, I, rfl, hk.same l d⟩
    · exact d.elim
  · exact d.elim
theorem vt_dne (hu : X.A.units < cLine) (ha : VE X a ta) (hb : VE X b tb) (hm : behindInMarks .NotEq b = false) : VT X (.Compare a [.NotEq] [b] pos) (VM.tDNe ta tb) := pt_imp (pt_cmpR (o_dne hu) ha hb hm) fun σ H Q h => by
  obtain ⟨G, F, μ, ρ, st, k, l, r, d, hk⟩ := h
  exact bind2B (Q := fun x H' => ∃ k, x = .bl k ∧ Q k H') l r (fun b H' F' μ' st' e l q => ⟨b, rfl, hk b H' F' μ' st' e l q⟩) d
theorem ve_dnew : VE X (.Dict [] [] pos) VM.eDNew := pe_imp pe_dnewK fun σ H Q h => by
  obtain ⟨G, F, μ, ρ, st, k, l, r, d, hk⟩ := h
  intro D hD
  refine hk (.ref D) _ (upd F D (.dK [])) μ (.dct [] []) st (ext_upd l hD) (l.new hD) ?_ d
  unfold Rep
  exact ⟨D, [], rfl, upd_same, rfl, repL_nil.mpr rfl⟩
theorem ve_dcopy (hc : X.calm = true) (ha : VE X e ta) (hgl : Gl X "list") (hml : X.mg "list" = none) (hg : Gl X "dict") (hm : X.mg "dict" = none) (hbase : attributeBase e "items" X.env (eval e X.env) = eval e X.env := by rfl) (hline : (apos.endLine == cpos.line) = true := by rfl)
    (hs : starEach [.Call (.Attribute e "items" apos) [] [] cpos] X.env = (false, eval (.Call (.Attribute e "items" apos) [] [] cpos) X.env) :: starEach [] X.env := by rfl)
    (he : starEach [.Call (.Name "list" p2) [.Call (.Attribute e "items" apos) [] [] cpos] [] pos2] X.env = (false, eval (.Call (.Name "list" p2) [.Call (.Attribute e "items" apos) [] [] cpos] [] pos2) X.env) :: starEach [] X.env := by rfl) :
    VE X (.Call (.Name "dict" p) [.Call (.Name "list" p2) [.Call (.Attribute e "items" apos) [] [] cpos] [] pos2] [] pos) (VM.eDCopy ta) :=
  pe_imp (pe_callTy (call_dictP hc) hg hm (by decide +kernel) (pa_cons (LiI.pe_listItems hc ha hgl hml (by decide +kernel) hbase hline hs) pa_nil he) (he := he)) fun σ H Q h => by
  obtain ⟨G, F, μ, ρ, st, k, l, r, d, hk⟩ := h
  unfold VM.eDCopy at d
  refine bind1 l r d fun x H1 F1 μ1 px st1 e1 l1 r1 p1 q1 => ?_
  split at q1
  · rename_i ks xs ed
    split at q1
    · rename_i ss es
      obtain ⟨nd, q1⟩ := q1
      obtain ⟨a, kvs, rfl, hH, rfl, rl⟩ := asD_rep l1 p1 ed
      refine ⟨a, kvs, rfl, hH, fun H' q ts grow hq hts hqn hql hqp => ?_⟩
      have ndk : (kvs.map (·.1)).Nodup := by
        have q : (kvs.map (·.1)).map kP = ss.map fun s => kP (Sum.inr (toS s)) := by rw [List.map_map, ← kP_txt es]; rfl
        have q2 : kvs.map (·.1) = ss.map fun s => (Sum.inr (toS s) : Key) := by
          apply List.map_inj_right (f := kP) (fun a b h => kP_inj h) |>.mp
          rw [q, List.map_map]
          rfl
        rw [q2]
        exact keys_nd nd
      refine ⟨q, ts, kvs, rfl, .inl (.inl hql), paired_imp (fun t p h => .inl (.inl h)) hqp, fun D hD => ?_⟩
      have em : mergeK [] kvs = kvs := by
        rw [mergeK_app kvs [] (by rw [List.map_nil, List.nil_append]; exact ndk)]
        rfl
      rw [em]
      have l2 := l1.grow grow
      refine hk.mono e1 (.ref D) _ (upd F1 D (.dK kvs)) μ1 (.dct _ xs) st1 (ext_upd l2 hD) (l2.new hD) ?_ q1
      unfold Rep
      exact ⟨D, kvs, rfl, upd_same, rfl, rl.mono (ext_upd l2 hD)⟩
    · exact q1.elim
  · exact q1.elim
theorem vs_addI {i : Nat} {x : Str} {pos' : Pos} (hN : X.N.Nodup) (hi : X.N[i]? = some x) (hx : Loc X.env.scope x) (he : VE X e te) (hf : X.fn x = true ∨ X.env.scope.names.lookup x = some .local := by first | exact .inl rfl | exact .inr rfl | assumption) :
    VSt X (.AugAssign (.Name x pos') .Add e pos) (VM.sAddI i te) := ps_imp (ps_aug hN hi hx he (fun pins s σ H x y v u Q I rx ry h => iop_add pins s σ H x y v u Q I rx ry h) hf) fun D σ H h => by
  obtain ⟨G, F, μ, ρ, st, DV, l, r, d, hk⟩ := h
  unfold VM.sAddI at d
  rw [hk.xk] at d
  split at d
  · rename_i a ea
    obtain ⟨w, h1, h2⟩ := r.2 i _ ea
    obtain rfl := rep_int.mp h2
    refine ⟨_, h1, bind1 l r d fun y H1 F1 μ1 py st1 e1 l1 r1 p1 q1 => ?_⟩
    split at q1
    · rename_i b
      obtain rfl := rep_int.mp p1
      exact ⟨_, _, rfl, rfl, hk.nx _ H1 F1 μ1 _ st1 e1 l1 (r1.set i (rep_int.mpr rfl)) q1⟩
    · exact q1.elim
  · exact d.elim
end
end VS
end
namespace VP
open VM
def T_law_k03 (cs : CS) : TS :=
  (sCons (sSet (gName 1) (eCall cs 0 (aCons (eVar 0) aNil)))
    (sCons (sSet (gName 2) (eCall cs 46 (aCons (eVar 1) (aCons (eC (.int 11)) aNil))))
    (sCons (sFor (iRange1 (eC (.int 4))) (gName 3)
    (sCons (sSet (gName 4) (eDictP (eComp (iE (eCall cs 17 (aCons (eVar 1) (aCons (eVar 2) aNil)))) (gName 5) tYes (eTup (aCons (eVar 5) (aCons (eCall cs 2 (aCons (eVar 1) (aCons (eLst (aCons (eC (.int 0)) (aCons (eC (.int 1)) (aCons (eNeg (eC (.int 1))) (aCons (eBin .sub (eCall cs 1 (aCons (eVar 1) (aCons (eC (.int 41)) aNil))) (eC (.int 20))) (aCons (eBin .sub (eCall cs 1 (aCons (eVar 1) (aCons (eBin .mul (eC (.int 2)) (eBin .pow (eC (.int 10)) (eC (.int 6)))) aNil))) (eBin .pow (eC (.int 10)) (eC (.int 6)))) aNil)))))) aNil))) aNil))) [5])))
    (sCons (sSet (gName 6) (eCall cs 51 (aCons (eVar 1) (aCons (eVar 2) (aCons (eC (.int 11)) aNil)))))
    (sCons (sSet (gName 7) (eB1 fSum (eComp (iE (eVar 6)) (gTup [(gName 5), (gName 8)]) tYes (eBin .mul (eVar 8) (eDGet (eVar 4) (eVar 5))) [5, 8])))
    (sCons (sSet (gName 9) (eCall cs 22 (aCons (eVar 1) aNil)))
    (sCons (sSet (gName 10) (eBin .add (eVar 7) (eCall cs 2 (aCons (eVar 1) (aCons (eLst (aCons (eC (.int 0)) (aCons (eC (.int 0)) (aCons (eC (.int 0)) (aCons (eC (.int 1)) (aCons (eNeg (eC (.int 1))) (aCons (eVar 9) (aCons (eBin .mul (eC (.int 2)) (eVar 9)) (aCons (eBin .sub (eC (.int 0)) (eVar 9)) (aCons (eC (.int 3)) aNil)))))))))) aNil)))))
    (sCons (sSet (gName 11) (eCmp .eq (eVar 7) (eVar 10)))
    (sCons (sIf (tCmp .gt (eVar 9) (eC (.int 0)))
    (sSet (gName 11) (eCmp .eq (eBin .mod (eB1 fInt (eBin .sub (eVar 7) (eVar 10))) (eVar 9)) (eC (.int 0))))
    sNil)
    (sCons (sSet (gName 12) (eDCopy (eVar 4)))
    (sCons (sSet (gName 13) (eLst (aCons (eCall cs 205 (aCons (eVar 6) aNil)) (aCons (eCall cs 206 (aCons (eVar 6) (aCons (eVar 12) aNil))) (aCons (eCall cs 208 (aCons (eTup (aCons (eVar 6) (aCons (eVar 10) (aCons (eVar 9) aNil)))) (aCons (eVar 12) aNil))) aNil)))))
    (sCons (sIf (tOr (tNot (tOf (eCall cs 16 (aCons (eVar 13) (aCons (eLst (aCons (eSortedS (eComp (iE (eVar 6)) (gTup [(gName 5), (gName 8)]) tYes (eVar 5) [5, 8])) (aCons (eVar 7) (aCons (eVar 11) aNil)))) aNil))))) (tDNe (eVar 12) (eVar 4)))
    (sRet (eC (.bl false)))
    sNil)
    (sIf (tCmp .ne (eVar 6) (eTup aNil))
    (sCons (sSet (gName 14) (eCall cs 1 (aCons (eVar 1) (aCons (eB1 fLen (eVar 6)) aNil))))
    (sCons (sSet (gName 15) (eDictP (eComp (iE (eVar 2)) (gName 5) (tCmp .ne (eVar 5) (eIx (eIx (eVar 6) (eVar 14)) (eC (.int 0)))) (eTup (aCons (eVar 5) (aCons (eDGet (eVar 4) (eVar 5)) aNil))) [5])))
    (sCons (sSet (gName 16) (eLams cs 151 [(1000055, [6, 15]), (1000056, [15, 6, 10, 9])]))
    (sCons (sIf (tNot (tOf (eCall cs 16 (aCons (eVar 16) (aCons (eBin .mul (eLst (aCons (eTup (aCons (eC (.str [85, 110, 107, 110, 111, 119, 110, 78, 97, 109, 101])) (aCons (eTup (aCons (eIx (eIx (eVar 6) (eVar 14)) (eC (.int 0))) aNil)) aNil))) aNil)) (eC (.int 2))) aNil)))))
    (sRet (eC (.bl false)))
    sNil)
    (sIf (tNot (tOf (eCall cs 16 (aCons (eLam1 cs 150 (1000057, [6])) (aCons (eTup (aCons (eC (.str [85, 110, 107, 110, 111, 119, 110, 78, 97, 109, 101])) (aCons (eTup (aCons (eIx (eIx (eVar 6) (eC (.int 0))) (eC (.int 0))) aNil)) aNil))) aNil)))))
    (sRet (eC (.bl false)))
    sNil)))))
    sNil))))))))))))
    (sRet (eCall cs 16 (aCons (eLst (aCons (eCall cs 206 (aCons (eTup aNil) (aCons eDNew aNil))) (aCons (eCall cs 205 (aCons (eTup aNil) aNil)) aNil))) (aCons (eLst (aCons (eC (.int 0)) (aCons (eLst aNil) aNil))) aNil)))))))
def T__law_bag (cs : CS) : TS :=
  (sCons (sSet (gName 1) (eComp (iE (eSl (eVar 0) none (some (eC (.int 63))))) (gName 2) tYes (eB1 fInt (eVar 2)) [2]))
    (sCons (sSet (gName 3) (eBin .add (eC (.int 120170)) (eBin .mul (eC (.int 83)) (eB1 fLen (eVar 1)))))
    (sCons (sFor (iE (eVar 1)) (gName 2)
    (sSet (gName 3) (eBin .mod (eB1 fInt (eBin .add (eBin .mul (eVar 3) (eC (.int 6863))) (eVar 2))) (eC (.int 2147483549)))))
    (sRet (eLstM (aCons (eVar 1) (aCons (eC (.int 0)) (aCons (eC (.int 0)) (aCons (eVar 3) (aCons (eC (.int 0)) aNil))))))))))
def T__law_take (cs : CS) : TS :=
  (sCons (sSetIx (eVar 0) (eC (.int 4)) (eBin .add (eIx (eVar 0) (eC (.int 4))) (eC (.int 1))))
    (sCons (sIf (tAnd (tCmp .lt (eIx (eVar 0) (eC (.int 2))) (eC (.int 2))) (tCmp .lt (eIx (eVar 0) (eC (.int 1))) (eB1 fLen (eIx (eVar 0) (eC (.int 0))))))
    (sCons (sSet (gName 2) (eIx (eIx (eVar 0) (eC (.int 0))) (eIx (eVar 0) (eC (.int 1)))))
    (sCons (sSetIx (eVar 0) (eC (.int 1)) (eBin .add (eIx (eVar 0) (eC (.int 1))) (eC (.int 1))))
    (sCons (sSetIx (eVar 0) (eC (.int 3)) (eBin .mod (eB1 fInt (eBin .add (eBin .add (eBin .mul (eIx (eVar 0) (eC (.int 3))) (eC (.int 40063))) (eBin .mul (eBin .mod (eB1 fInt (eVar 2)) (eC (.int 2147483497))) (eC (.int 61)))) (eIx (eVar 0) (eC (.int 1))))) (eC (.int 2147483549))))
    (sSetIx (eVar 0) (eC (.int 2)) (eIf (tCmp .ge (eVar 2) (eBin .pow (eC (.int 10)) (eC (.int 18)))) (eVar 2) (eC (.int 0)))))))
    sNil)
    (sCons (sIf (tCmp .gt (eIx (eVar 0) (eC (.int 2))) (eC (.int 1)))
    (sCons (sSet (gName 3) (eBin .mod (eB1 fInt (eIx (eVar 0) (eC (.int 2)))) (eVar 1)))
    (sCons (sSetIx (eVar 0) (eC (.int 2)) (eBin .fdiv (eIx (eVar 0) (eC (.int 2))) (eVar 1)))
    (sRet (eVar 3))))
    sNil)
    (sCons (sSet (gName 4) (eBin .mod (eB1 fInt (eBin .add (eIx (eVar 0) (eC (.int 3))) (eBin .mul (eIx (eVar 0) (eC (.int 4))) (eC (.int 9547))))) (eC (.int 2147483549))))
    (sCons (sSetIx (eVar 0) (eC (.int 3)) (eBin .mod (eB1 fInt (eBin .add (eBin .add (eBin .mul (eVar 4) (eVar 4)) (eBin .mul (eVar 4) (eC (.int 33757)))) (eC (.int 90263)))) (eC (.int 2147483549))))
    (sRet (eBin .mod (eB1 fInt (eBin .add (eBin .fdiv (eIx (eVar 0) (eC (.int 3))) (eC (.int 71))) (eBin .mul (eBin .mod (eB1 fInt (eIx (eVar 0) (eC (.int 3)))) (eC (.int 7877))) (eC (.int 191))))) (eVar 1))))))))
def T__law_of (cs : CS) : TS :=
  (sRet (eIx (eVar 1) (eCall cs 1 (aCons (eVar 0) (aCons (eB1 fLen (eVar 1)) aNil)))))
def T__law_names (cs : CS) : TS :=
  (sCons (sSet (gName 2) (eC (.str [97, 98, 99, 100, 101, 102, 103, 104, 105, 106, 107, 108, 109, 110, 112, 113, 114, 115, 116, 117, 118, 119, 120, 121, 122])))
    (sCons (sSet (gName 3) (eJoin (eC (.str [])) (eComp (iRange1 (eCall cs 1 (aCons (eVar 0) (aCons (eC (.int 6)) aNil)))) (gName 4) tYes (eCall cs 2 (aCons (eVar 0) (aCons (eVar 2) aNil))) [4])))
    (sCons (sSet (gTup [(gName 5), (gName 6)]) (eTup (aCons (eCall cs 1 (aCons (eVar 0) (aCons (eBin .add (eB1 fLen (eVar 3)) (eC (.int 1))) aNil))) (aCons (eCall cs 1 (aCons (eVar 0) (aCons (eC (.int 25)) aNil))) aNil))))
    (sCons (sSet (gName 7) (eCall cs 2 (aCons (eVar 0) (aCons (eLst (aCons (eC (.int 1)) (aCons (eC (.int 2)) (aCons (eC (.int 3)) (aCons (eC (.int 4)) (aCons (eC (.int 6)) (aCons (eC (.int 7)) (aCons (eC (.int 8)) (aCons (eC (.int 9)) (aCons (eC (.int 11)) (aCons (eC (.int 12)) aNil))))))))))) aNil))))
    (sRet (eComp (iRange1 (eVar 1)) (gName 4) tYes (eBin .add (eBin .add (eSl (eVar 3) none (some (eVar 5))) (eIx (eVar 2) (eBin .mod (eB1 fInt (eBin .add (eVar 6) (eBin .mul (eVar 4) (eVar 7)))) (eC (.int 25))))) (eSl (eVar 3) (some (eVar 5)) none)) [4]))))))
def T__law_mixed (cs : CS) : TS :=
  (sCons (sSet (gName 2) (eLstM aNil))
    (sCons (sFor (iE (eVar 1)) (gName 3)
    (sExpr (eInsert (eVar 2) (eCall cs 1 (aCons (eVar 0) (aCons (eBin .add (eB1 fLen (eVar 2)) (eC (.int 1))) aNil))) (eVar 3))))
    (sRet (eVar 2))))
def T__law_small (cs : CS) : TS :=
  (sRet (eCall cs 2 (aCons (eVar 0) (aCons (eLst (aCons (eC (.int 1)) (aCons (eC (.int 1)) (aCons (eNeg (eC (.int 1))) (aCons (eC (.int 2)) (aCons (eNeg (eC (.int 2))) (aCons (eC (.int 3)) (aCons (eNeg (eC (.int 3))) (aCons (eC (.int 4)) (aCons (eC (.int 0)) (aCons (eC (.int 6)) (aCons (eC (.int 5)) (aCons (eC (.int 12)) aNil))))))))))))) aNil))))
def T__law_big_factor (cs : CS) : TS :=
  (sRet (eIf (tCmp .gt (eCall cs 1 (aCons (eVar 0) (aCons (eC (.int 5)) aNil))) (eC (.int 0))) (eCall cs 3 (aCons (eVar 0) aNil)) (eBin .sub (eCall cs 1 (aCons (eVar 0) (aCons (eC (.int 2001)) aNil))) (eC (.int 1000)))))
def T__law_terms (cs : CS) : TS :=
  (sCons (sSet (gName 3) (eSl (eCall cs 17 (aCons (eVar 0) (aCons (eVar 1) aNil))) none (some (eCall cs 1 (aCons (eVar 0) (aCons (eBin .add (eVar 2) (eC (.int 1))) aNil))))))
    (sRet (eB1 fTuple (eComp (iE (eVar 3)) (gName 4) tYes (eTup (aCons (eVar 4) (aCons (eCall cs 4 (aCons (eVar 0) aNil)) aNil))) [4]))))
def T__law_modulus (cs : CS) : TS :=
  (sRet (eCall cs 2 (aCons (eVar 0) (aCons (eLst (aCons (eC (.int 0)) (aCons (eC (.int 0)) (aCons (eC (.int 0)) (aCons (eC (.int 2)) (aCons (eC (.int 3)) (aCons (eC (.int 4)) (aCons (eC (.int 6)) (aCons (eC (.int 5)) (aCons (eBin .add (eC (.int 2)) (eCall cs 1 (aCons (eVar 0) (aCons (eC (.int 40)) aNil)))) (aCons (eBin .add (eC (.int 2)) (eCall cs 1 (aCons (eVar 0) (aCons (eBin .sub (eBin .pow (eC (.int 10)) (eC (.int 6))) (eC (.int 1))) aNil)))) aNil))))))))))) aNil))))
def T_names_of (cs : CS) : TS :=
  (sRet (eSortedS (eComp (iE (eVar 0)) (gTup [(gName 1), (gName 2)]) tYes (eVar 1) [1, 2])))
def T_sum_of (cs : CS) : TS :=
  (sCons (sSet (gName 2) (eC (.int 0)))
    (sCons (sFor (iE (eVar 0)) (gTup [(gName 3), (gName 4)])
    (sCons (sIf (tDIn true (eVar 3) (eVar 1))
    (sRaise ⟨31, [61, 22], [85, 110, 107, 110, 111, 119, 110, 78, 97, 109, 101], 1⟩ (aCons (eVar 3) aNil))
    sNil)
    (sAddI 2 (eBin .mul (eVar 4) (eDGet (eVar 1) (eVar 3))))))
    (sRet (eVar 2))))
def T_divides (cs : CS) : TS :=
  (sCons (sIf (tCmp .eq (eVar 0) (eC (.int 0)))
    (sRet (eCmp .eq (eVar 1) (eC (.int 0))))
    sNil)
    (sRet (eCmp .eq (eBin .mod (eVar 1) (eVar 0)) (eC (.int 0)))))
def T_keeps (cs : CS) : TS :=
  (sRet (eCall cs 207 (aCons (eIx (eVar 0) (eC (.int 2))) (aCons (eBin .sub (eCall cs 206 (aCons (eIx (eVar 0) (eC (.int 0))) (aCons (eVar 1) aNil))) (eIx (eVar 0) (eC (.int 1)))) aNil))))
def T__law_same (cs : CS) : TS :=
  (sCons (sIf (tCmp .isN (eVar 1) (eC .non))
    (sRet (eCmp .isN (eVar 0) (eC .non)))
    sNil)
    (sCons (sIf (tOr (tOf (eB1 (fIsi [.bool]) (eVar 1))) (tOf (eB1 (fIsi [.bool]) (eVar 0))))
    (sRet (eAnd (eB1 (fIsi [.bool]) (eVar 1)) (eAnd (eB1 (fIsi [.bool]) (eVar 0)) (eCmp .eq (eVar 0) (eVar 1)))))
    sNil)
    (sCons (sIf (tOf (eB1 (fIsi [.int, .str]) (eVar 1)))
    (sRet (eAnd (eB1 (fIsi [.int, .str]) (eVar 0)) (eAnd (eCmp .eq (eB1 (fIsi [.int]) (eVar 0)) (eB1 (fIsi [.int]) (eVar 1))) (eCmp .eq (eVar 0) (eVar 1)))))
    sNil)
    (sCons (sIf (tOr (tCmp .ne (eB1 (fIsi [.list]) (eVar 1)) (eB1 (fIsi [.list]) (eVar 0))) (tCmp .ne (eB1 (fIsi [.tuple]) (eVar 1)) (eB1 (fIsi [.tuple]) (eVar 0))))
    (sRet (eC (.bl false)))
    sNil)
    (sCons (sIf (tOr (tNot (tOf (eB1 (fIsi [.list, .tuple]) (eVar 0)))) (tCmp .ne (eB1 fLen (eVar 0)) (eB1 fLen (eVar 1))))
    (sRet (eC (.bl false)))
    sNil)
    (sRet (eB1 fAll (eComp (iZip (eVar 0) (eVar 1)) (gTup [(gName 2), (gName 3)]) tYes (eCall cs 16 (aCons (eVar 2) (aCons (eVar 3) aNil))) [2, 3]))))))))
def T__law_fields (cs : CS) : TS :=
  (sCons (sIf (tCmp .isin (eXFld 22 (eVar 0)) (eLst (aCons (eC (.str [73, 110, 118, 97, 108, 105, 100, 70, 97, 99, 101])) (aCons (eC (.str [73, 110, 118, 97, 108, 105, 100, 84, 105, 101])) (aCons (eC (.str [73, 110, 118, 97, 108, 105, 100, 67, 104, 97, 110, 103, 101])) (aCons (eC (.str [73, 110, 118, 97, 108, 105, 100, 67, 111, 109, 109, 97, 110, 100])) aNil))))))
    (sRet (eTup (aCons (eXFld 42 (eVar 0)) aNil)))
    sNil)
    (sCons (sIf (tCmp .isin (eXFld 22 (eVar 0)) (eLst (aCons (eC (.str [68, 117, 112, 108, 105, 99, 97, 116, 101, 78, 97, 109, 101])) (aCons (eC (.str [85, 110, 107, 110, 111, 119, 110, 78, 97, 109, 101])) (aCons (eC (.str [83, 99, 97, 116, 116, 101, 114, 101, 100])) (aCons (eC (.str [73, 110, 118, 97, 108, 105, 100, 80, 114, 105, 99, 101])) aNil))))))
    (sRet (eTup (aCons (eXFld 61 (eVar 0)) aNil)))
    sNil)
    (sCons (sIf (tCmp .isin (eXFld 22 (eVar 0)) (eLst (aCons (eC (.str [70, 117, 108, 108])) (aCons (eC (.str [84, 111, 111, 87, 105, 100, 101])) aNil))))
    (sRet (eTup (aCons (eXFld 60 (eVar 0)) aNil)))
    sNil)
    (sCons (sIf (tCmp .isin (eXFld 22 (eVar 0)) (eLst (aCons (eC (.str [85, 110, 107, 110, 111, 119, 110, 72, 111, 117, 115, 101])) (aCons (eC (.str [78, 111, 116, 76, 101, 97, 102])) aNil))))
    (sRet (eTup (aCons (eXFld 40 (eVar 0)) aNil)))
    sNil)
    (sCons (sIf (tCmp .isin (eXFld 22 (eVar 0)) (eLst (aCons (eC (.str [73, 110, 118, 97, 108, 105, 100, 78, 97, 109, 101])) (aCons (eC (.str [73, 110, 118, 97, 108, 105, 100, 78, 117, 109, 98, 101, 114])) aNil))))
    (sRet (eTup (aCons (eXFld 36 (eVar 0)) aNil)))
    sNil)
    (sCons (sIf (tCmp .eq (eXFld 22 (eVar 0)) (eC (.str [85, 110, 107, 110, 111, 119, 110, 76, 97, 98, 101, 108])))
    (sRet (eTup (aCons (eXFld 49 (eVar 0)) aNil)))
    sNil)
    (sCons (sIf (tCmp .eq (eXFld 22 (eVar 0)) (eC (.str [78, 111, 116, 84, 105, 101, 100])))
    (sRet (eTup (aCons (eXFld 30 (eVar 0)) (aCons (eXFld 50 (eVar 0)) aNil))))
    sNil)
    (sCons (sIf (tCmp .eq (eXFld 22 (eVar 0)) (eC (.str [73, 110, 118, 97, 108, 105, 100, 84, 101, 120, 116])))
    (sRet (eTup (aCons (eXFld 55 (eVar 0)) aNil)))
    sNil)
    (sRet (eTup aNil))))))))))
def T__law_got (cs : CS) : TS :=
  (sTryR (eTup (aCons (eC (.str [])) (aCons (eAct cs (eVar 0)) aNil))) 1 2 (sRet (eTup (aCons (eXFld 22 (eVar 1)) (aCons (eCall cs 148 (aCons (eVar 1) aNil)) aNil)))))
def T__law_why (cs : CS) : TS :=
  (sCons (sSet (gName 1) (eCall cs 149 (aCons (eVar 0) aNil)))
    (sRet (eIf (tCmp .ne (eIx (eVar 1) (eC (.int 0))) (eC (.str []))) (eVar 1) (eTup (aCons (eC (.str [])) (aCons (eC .non) aNil))))))
def T__law_whys (cs : CS) : TS :=
  (sRet (eComp (iE (eVar 0)) (gName 1) tYes (eCall cs 150 (aCons (eVar 1) aNil)) [1]))
end VP
namespace VP
open VM
end VP
section
namespace VM
abbrev pvis (v : List Int) : List PV := v.map PV.int
abbrev ilst (v : List Int) : PV := .lst (v.map PV.int)
abbrev itup (v : List Int) : PV := .tup (v.map PV.int)
def D0 (k x : KV) : Ends := { nx := fun _ st => k .non st, rt := k, bk := fun _ _ => False, ct := fun _ _ => False, xk := x }
theorem call_of {FT : Nat → Option FD} {n f np ns : Nat} {body : CS → TS} {vs : List PV} {st : Store} {k x : KV} (hF : FT f = some ⟨np, ns, body⟩) (hl : vs.length = np)
    (h : body (callN FT n) (D0 k x) (vs.map some ++ List.replicate (ns - np) none) st) : callN FT (n + 1) f vs st k x := by
  unfold callN
  rw [hF]
  exact ⟨hl, h⟩
def At (FT : Nat → Option FD) (d : Nat) (S : CS → Prop) : Prop := ∀ n, d ≤ n → S (callN FT n)
theorem At.mono {FT : Nat → Option FD} {d d' : Nat} {S : CS → Prop} (h : At FT d S) (hd : d ≤ d') : At FT d' S := fun n hn => h n (Nat.le_trans hd hn)
theorem At.imp {FT : Nat → Option FD} {d : Nat} {S S' : CS → Prop} (h : At FT d S) (hi : ∀ cs, S cs → S' cs) : At FT d S' := fun n hn => hi _ (h n hn)
theorem at_of {FT : Nat → Option FD} {d f np ns : Nat} {body : CS → TS} {S : CS → Prop} {C : CS → Prop} (hF : FT f = some ⟨np, ns, body⟩) (hC : At FT d C)
    (h : ∀ cs cs' : CS, C cs → (∀ vs st k x, vs.length = np → body cs (D0 k x) (vs.map some ++ List.replicate (ns - np) none) st → cs' f vs st k x) → S cs') : At FT (d + 1) S := fun n hn => by
  obtain ⟨m, rfl⟩ : ∃ m, n = m + 1 := ⟨n - 1, by omega⟩
  exact h (callN FT m) _ (hC m (by omega)) fun vs st k x hl hb => call_of hF hl hb
def turn (g : TG) (t : TT) (e : TE) (ρ : Env) (st : Store) (v : PV) (k : Option PV → Store → Prop) : Prop :=
  g v ρ st fun ρ' st => t ρ' st (fun b st => if b = true then e ρ' st (fun y st => k (some y) st) (fun _ _ => False) else k none st) (fun _ _ => False)
theorem comp_pure {g : TG} {t : TT} {e : TE} {own : List Nat} {stay : Store → Prop} {ρ : Env} {k : List PV → Store → Prop} {st : Store} (f : PV → Option PV) (hst : stay st) : ∀ (xs acc : List PV),
    (∀ v ∈ xs, ∀ k' : Option PV → Store → Prop, k' (f v) st → turn g t e ρ st v k') → acc.length + xs.length ≤ SZ → k (acc ++ xs.filterMap f) st → compGo g t e own stay xs acc ρ st k
  | [], acc, h, hl, hk => by
    unfold compGo
    rw [List.filterMap_nil, List.append_nil] at hk
    exact ⟨hst, hk⟩
  | v :: r, acc, h, hl, hk => by
    unfold compGo
    rw [List.length_cons] at hl
    refine ⟨hst, ?_⟩
    refine h v (List.mem_cons_self ..) (fun o st => match o with | some y => acc.length < SZ ∧ compGo g t e own stay r (acc ++ [y]) ρ st k | none => compGo g t e own stay r acc ρ st k) ?_
    have hr : ∀ v ∈ r, ∀ k' : Option PV → Store → Prop, k' (f v) st → turn g t e ρ st v k' := fun x m => h x (List.mem_cons_of_mem _ m)
    cases e1 : f v with
    | none =>
      rw [List.filterMap_cons_none e1] at hk
      exact comp_pure f hst r acc hr (by omega) hk
    | some y =>
      rw [List.filterMap_cons_some e1] at hk
      refine ⟨by omega, comp_pure f hst r (acc ++ [y]) hr (by rw [List.length_append, List.length_singleton]; omega) ?_⟩
      rw [List.append_assoc]
      exact hk
theorem comp_map {g : TG} {t : TT} {e : TE} {own : List Nat} {stay : Store → Prop} {ρ : Env} {k : List PV → Store → Prop} {st : Store} (f : PV → PV) (hst : stay st) (xs : List PV)
    (h : ∀ v ∈ xs, ∀ k' : Option PV → Store → Prop, k' (some (f v)) st → turn g t e ρ st v k') (hl : xs.length ≤ SZ) (hk : k (xs.map f) st) : compGo g t e own stay xs [] ρ st k :=
  comp_pure (fun v => some (f v)) hst xs [] h (by simpa using hl) (by
    have e : xs.filterMap (fun v => some (f v)) = xs.map f := by rw [← List.filterMap_eq_map]; rfl
    rw [List.nil_append, e]
    exact hk)
theorem comp_inv {g : TG} {t : TT} {e : TE} {own : List Nat} {stay : Store → Prop} {ρ : Env} {k : List PV → Store → Prop} (J : List PV → List PV → Store → Prop)
    (hs : ∀ v r acc st, J (v :: r) acc st → stay st ∧ ∀ k' : Option PV → Store → Prop, (∀ o st', (match o with | some y => acc.length < SZ ∧ J r (acc ++ [y]) st' | none => J r acc st') → k' o st') → turn g t e ρ st v k')
    (hn : ∀ acc st, J [] acc st → stay st ∧ k acc st) : ∀ xs acc st, J xs acc st → compGo g t e own stay xs acc ρ st k
  | [], acc, st, j => by
    unfold compGo
    exact hn acc st j
  | v :: r, acc, st, j => by
    unfold compGo
    obtain ⟨h1, h2⟩ := hs v r acc st j
    refine ⟨h1, ?_⟩
    refine h2 (fun o st => match o with | some y => acc.length < SZ ∧ compGo g t e own stay r (acc ++ [y]) ρ st k | none => compGo g t e own stay r acc ρ st k) fun o st' ho => ?_
    cases o with
    | some y => exact ⟨ho.1, comp_inv J hs hn r _ st' ho.2⟩
    | none => exact comp_inv J hs hn r acc st' ho
theorem for_inv {g : TG} {b : TS} {stay : Store → Prop} {D : Ends} (J : List PV → Env → Store → Prop)
    (hs : ∀ v r ρ st, J (v :: r) ρ st → stay st ∧ ∀ D' : Ends, D'.rt = D.rt → D'.xk = D.xk → D'.bk = D.nx → (∀ ρ' st', J r ρ' st' → D'.nx ρ' st') → (∀ ρ' st', J r ρ' st' → D'.ct ρ' st') → g v ρ st fun ρ st => b D' ρ st)
    (hn : ∀ ρ st, J [] ρ st → stay st ∧ D.nx ρ st) : ∀ xs ρ st, J xs ρ st → forGo g b stay xs D ρ st
  | [], ρ, st, j => by
    unfold forGo
    exact hn ρ st j
  | v :: r, ρ, st, j => by
    unfold forGo
    obtain ⟨h1, h2⟩ := hs v r ρ st j
    exact ⟨h1, h2 { D with nx := forGo g b stay r D, ct := forGo g b stay r D, bk := D.nx } rfl rfl rfl (fun ρ' st' j' => for_inv J hs hn r ρ' st' j') fun ρ' st' j' => for_inv J hs hn r ρ' st' j'⟩
theorem log_lt {a : Nat} {e : Nat} (h : a < 2 ^ e) (he : 0 < e) : a.log2 < e := by
  by_cases h0 : a = 0
  · subst h0
    simpa using he
  · exact (Nat.log2_lt h0).mpr h
theorem mulOk_of {i j : Int} {a b : Nat} (hi : i.natAbs < 2 ^ a) (hj : j.natAbs < 2 ^ b) (ha : 0 < a) (hb : 0 < b) (h : a + b ≤ 100000000) : MulOk i j := by
  have h1 := log_lt hi ha
  have h2 := log_lt hj hb
  unfold MulOk
  omega
theorem mulOk64 {i j : Int} (hi : i.natAbs < 2 ^ 64) (hj : j.natAbs < 2 ^ 64) : MulOk i j := mulOk_of hi hj (by decide) (by decide) (by decide)
end VM
end
section
namespace VP
open VM
abbrev M0 : Int := 2147483549
def bagL (cells : List Int) (i dig mixed turn : Int) : List PV := [ilst cells, .int i, .int dig, .int mixed, .int turn]
def Bag (st : Store) (r b : Nat) : Prop := ∃ (cells : List Int) (i : Nat) (dig mixed : Int) (turn : Nat), st[r]? = some (.lst (bagL cells i dig mixed turn)) ∧ cells.length ≤ 63 ∧ i ≤ 63 ∧ 0 ≤ mixed ∧ mixed < M0 ∧ turn + b < 2 ^ 60
def Keep (r : Nat) (st st' : Store) : Prop := st.length ≤ st'.length ∧ ∀ i, i ≠ r → i < st.length → st'[i]? = st[i]?
theorem Keep.refl {r : Nat} {st : Store} : Keep r st st := ⟨Nat.le_refl _, fun _ _ _ => rfl⟩
theorem Keep.trans {r : Nat} {st st1 st2 : Store} (h : Keep r st st1) (h' : Keep r st1 st2) : Keep r st st2 := ⟨Nat.le_trans h.1 h'.1, fun i hi hl => (h'.2 i hi (Nat.lt_of_lt_of_le hl h.1)).trans (h.2 i hi hl)⟩
theorem Keep.set {r : Nat} {st : Store} {o : SO} : Keep r st (st.set r o) := ⟨by simp, fun i hi _ => List.getElem?_set_ne (Ne.symm hi)⟩
theorem Keep.app {r : Nat} {st : Store} {o : SO} : Keep r st (st ++ [o]) := ⟨by simp, fun i _ hl => List.getElem?_append_left hl⟩
theorem Bag.le {st : Store} {r b b' : Nat} (h : Bag st r b) (hb : b' ≤ b) : Bag st r b' := by
  obtain ⟨c, i, d, m, t, h1, h2, h3, h4, h5, h6⟩ := h
  exact ⟨c, i, d, m, t, h1, h2, h3, h4, h5, by omega⟩
theorem Bag.lt {st : Store} {r b : Nat} (h : Bag st r b) : r < st.length := by
  obtain ⟨c, i, d, m, t, h1, _⟩ := h
  exact (List.getElem?_eq_some_iff.mp h1).1
theorem Bag.app {st : Store} {r b : Nat} {o : SO} (h : Bag st r b) : Bag (st ++ [o]) r b := by
  have hl := h.lt
  obtain ⟨c, i, d, m, t, h1, h2⟩ := h
  exact ⟨c, i, d, m, t, by rw [List.getElem?_append_left hl]; exact h1, h2⟩
def Draws (cs : CS) (f : Nat) (args : List PV) (r c : Nat) (R : PV → Prop) : Prop := ∀ (st : Store) (b : Nat) (k x : KV), Bag st r (b + c) → (∀ v st', R v → Bag st' r b → Keep r st st' → k v st') → cs f (.ref r :: args) st k x
def SpTake (cs : CS) : Prop := ∀ (r : Nat) (many : Int), 0 < many → Draws cs 1 [.int many] r 1 fun v => ∃ d : Int, v = .int d ∧ 0 ≤ d ∧ d < many
theorem fmodM (a : Int) : 0 ≤ a.fmod M0 ∧ a.fmod M0 < M0 := ⟨Int.fmod_nonneg_of_pos a (by decide), Int.fmod_lt_of_pos a (by decide)⟩
theorem nat_lt_pow {a : Int} (h0 : 0 ≤ a) (h : a < M0) : a.natAbs < 2 ^ 64 := by
  have : (M0 : Int) = 2147483549 := rfl
  omega
theorem set_self {st : Store} {r : Nat} {o o' : SO} (h : st[r]? = some o) : (st.set r o')[r]? = some o' := List.getElem?_set_self (List.getElem?_eq_some_iff.mp h).1
def takeTail : TS := (sCons (sIf (tCmp .gt (eIx (eVar 0) (eC (.int 2))) (eC (.int 1))) (sCons (sSet (gName 3) (eBin .mod (eB1 fInt (eIx (eVar 0) (eC (.int 2)))) (eVar 1))) (sCons (sSetIx (eVar 0) (eC (.int 2)) (eBin .fdiv (eIx (eVar 0) (eC (.int 2))) (eVar 1))) (sRet (eVar 3)))) sNil)
        (sCons (sSet (gName 4) (eBin .mod (eB1 fInt (eBin .add (eIx (eVar 0) (eC (.int 3))) (eBin .mul (eIx (eVar 0) (eC (.int 4))) (eC (.int 9547))))) (eC (.int 2147483549))))
        (sCons (sSetIx (eVar 0) (eC (.int 3)) (eBin .mod (eB1 fInt (eBin .add (eBin .add (eBin .mul (eVar 4) (eVar 4)) (eBin .mul (eVar 4) (eC (.int 33757)))) (eC (.int 90263)))) (eC (.int 2147483549))))
        (sRet (eBin .mod (eB1 fInt (eBin .add (eBin .fdiv (eIx (eVar 0) (eC (.int 3))) (eC (.int 71))) (eBin .mul (eBin .mod (eB1 fInt (eIx (eVar 0) (eC (.int 3)))) (eC (.int 7877))) (eC (.int 191))))) (eVar 1))))))
theorem take_tail {st : Store} {r b : Nat} {many : Int} {a2 a3 a4 : Option PV} {D : Ends} (hm : 0 < many) (hb : Bag st r b)
    (hk : ∀ d st', 0 ≤ d → d < many → Bag st' r b → Keep r st st' → D.rt (.int d) st') : takeTail D [some (.ref r), some (.int many), a2, a3, a4] st := by
  obtain ⟨cells, i, dig, mixed, turn, h1, h2, h3, h4, h5, h6⟩ := hb
  have e2 : ix 5 2 = some 2 := rfl
  have e3 : ix 5 3 = some 3 := rfl
  have e4 : ix 5 4 = some 4 := rfl
  unfold bagL at h1
  by_cases hd : 1 < dig
  · simp only [takeTail, VM.sNil, VM.sCons, VM.sSet, VM.sPar, VM.sSetIx, VM.setIx, VM.sExpr, VM.sRet, VM.sRetN, VM.sIf, VM.sBreak, VM.sCont, VM.sFor, VM.gName, VM.gTup, VM.gEach, VM.eVar, VM.eC, VM.eBin, VM.eNeg, VM.eCmp, VM.eChain, VM.tOf, VM.tCmp, VM.tChain, VM.tAnd, VM.tOr, VM.tNot, VM.tYes, VM.eTest, VM.eAnd, VM.eOr, VM.eNot, VM.eIf, VM.aNil, VM.aCons, VM.eLst, VM.eLstM, VM.eTup, VM.eCall, VM.eIx, VM.getIx, VM.eSl, VM.getSl, VM.iE, VM.iRange1, VM.iRange2, VM.iZip, VM.iRev, VM.eComp, VM.eCompM, VM.eAppend, VM.eInsert, VM.eB1, VM.fLen, VM.fAbs, VM.fInt, VM.fList, VM.fListM, VM.fTuple, VM.fSum, VM.fAll, VM.fAny, VM.fIsi, VM.bLen, VM.seqOf, VM.sq, VM.asL, VM.items, VM.isSeq, VM.truth, VM.opBin, VM.opAdd, VM.opSub, VM.opMul, VM.opFdiv, VM.opMod, VM.opPow, VM.opCm, VM.opEq, VM.frz, VM.isD, VM.eqv, VM.isNon, VM.kdOf, VM.D0, VM.turn, List.map_cons, List.map_nil, List.replicate_succ, List.replicate_zero, List.cons_append, List.nil_append, List.getElem?_cons_zero, List.getElem?_cons_succ, List.set_cons_zero, List.set_cons_succ, Nat.reduceSub, VM.wipe, List.length_cons, List.length_nil, Nat.reduceAdd, h1, e2, hd, decide_true, if_true]
    refine ⟨by omega, by unfold DivOk; omega, ?_⟩
    exact hk _ _ (Int.fmod_nonneg_of_pos _ hm) (Int.fmod_lt_of_pos _ hm) ⟨cells, i, _, mixed, turn, set_self h1, h2, h3, h4, h5, h6⟩ Keep.set
  · simp only [takeTail, VM.sNil, VM.sCons, VM.sSet, VM.sPar, VM.sSetIx, VM.setIx, VM.sExpr, VM.sRet, VM.sRetN, VM.sIf, VM.sBreak, VM.sCont, VM.sFor, VM.gName, VM.gTup, VM.gEach, VM.eVar, VM.eC, VM.eBin, VM.eNeg, VM.eCmp, VM.eChain, VM.tOf, VM.tCmp, VM.tChain, VM.tAnd, VM.tOr, VM.tNot, VM.tYes, VM.eTest, VM.eAnd, VM.eOr, VM.eNot, VM.eIf, VM.aNil, VM.aCons, VM.eLst, VM.eLstM, VM.eTup, VM.eCall, VM.eIx, VM.getIx, VM.eSl, VM.getSl, VM.iE, VM.iRange1, VM.iRange2, VM.iZip, VM.iRev, VM.eComp, VM.eCompM, VM.eAppend, VM.eInsert, VM.eB1, VM.fLen, VM.fAbs, VM.fInt, VM.fList, VM.fListM, VM.fTuple, VM.fSum, VM.fAll, VM.fAny, VM.fIsi, VM.bLen, VM.seqOf, VM.sq, VM.asL, VM.items, VM.isSeq, VM.truth, VM.opBin, VM.opAdd, VM.opSub, VM.opMul, VM.opFdiv, VM.opMod, VM.opPow, VM.opCm, VM.opEq, VM.frz, VM.isD, VM.eqv, VM.isNon, VM.kdOf, VM.D0, VM.turn, List.map_cons, List.map_nil, List.replicate_succ, List.replicate_zero, List.cons_append, List.nil_append, List.getElem?_cons_zero, List.getElem?_cons_succ, List.set_cons_zero, List.set_cons_succ, Nat.reduceSub, VM.wipe, List.length_cons, List.length_nil, Nat.reduceAdd, h1, e2, e3, e4, hd, decide_false, Bool.false_eq_true, if_false]
    have f1 := fmodM (mixed + (turn : Int) * 9547)
    have f2 := fmodM ((mixed + (turn : Int) * 9547).fmod 2147483549 * (mixed + (turn : Int) * 9547).fmod 2147483549 + (mixed + (turn : Int) * 9547).fmod 2147483549 * 33757 + 90263)
    have g1 := nat_lt_pow f1.1 f1.2
    have g2 := nat_lt_pow f2.1 f2.2
    refine ⟨mulOk64 (by omega) (by decide), by decide, mulOk64 g1 g1, mulOk64 g1 (by decide), by decide, ?_⟩
    simp only [set_self h1, VM.sNil, VM.sCons, VM.sSet, VM.sPar, VM.sSetIx, VM.setIx, VM.sExpr, VM.sRet, VM.sRetN, VM.sIf, VM.sBreak, VM.sCont, VM.sFor, VM.gName, VM.gTup, VM.gEach, VM.eVar, VM.eC, VM.eBin, VM.eNeg, VM.eCmp, VM.eChain, VM.tOf, VM.tCmp, VM.tChain, VM.tAnd, VM.tOr, VM.tNot, VM.tYes, VM.eTest, VM.eAnd, VM.eOr, VM.eNot, VM.eIf, VM.aNil, VM.aCons, VM.eLst, VM.eLstM, VM.eTup, VM.eCall, VM.eIx, VM.getIx, VM.eSl, VM.getSl, VM.iE, VM.iRange1, VM.iRange2, VM.iZip, VM.iRev, VM.eComp, VM.eCompM, VM.eAppend, VM.eInsert, VM.eB1, VM.fLen, VM.fAbs, VM.fInt, VM.fList, VM.fListM, VM.fTuple, VM.fSum, VM.fAll, VM.fAny, VM.fIsi, VM.bLen, VM.seqOf, VM.sq, VM.asL, VM.items, VM.isSeq, VM.truth, VM.opBin, VM.opAdd, VM.opSub, VM.opMul, VM.opFdiv, VM.opMod, VM.opPow, VM.opCm, VM.opEq, VM.frz, VM.isD, VM.eqv, VM.isNon, VM.kdOf, VM.D0, VM.turn, List.map_cons, List.map_nil, List.replicate_succ, List.replicate_zero, List.cons_append, List.nil_append, List.getElem?_cons_zero, List.getElem?_cons_succ, List.set_cons_zero, List.set_cons_succ, Nat.reduceSub, VM.wipe, List.length_cons, List.length_nil, Nat.reduceAdd, e3]
    refine ⟨by unfold DivOk; decide, by decide, mulOk64 ?_ (by decide), by omega, ?_⟩
    · have q1 := Int.fmod_nonneg_of_pos (((mixed + (turn : Int) * 9547).fmod 2147483549 * (mixed + (turn : Int) * 9547).fmod 2147483549 + (mixed + (turn : Int) * 9547).fmod 2147483549 * 33757 + 90263).fmod 2147483549) (show (0 : Int) < 7877 by decide)
      have q2 := Int.fmod_lt_of_pos (((mixed + (turn : Int) * 9547).fmod 2147483549 * (mixed + (turn : Int) * 9547).fmod 2147483549 + (mixed + (turn : Int) * 9547).fmod 2147483549 * 33757 + 90263).fmod 2147483549) (show (0 : Int) < 7877 by decide)
      omega
    · exact hk _ _ (Int.fmod_nonneg_of_pos _ hm) (Int.fmod_lt_of_pos _ hm) ⟨cells, i, dig, _, turn, set_self h1, h2, h3, f2.1, f2.2, h6⟩ Keep.set
set_option maxHeartbeats 2000000 in
theorem take_at {FT : Nat → Option FD} (hF : FT 1 = some ⟨2, 5, T__law_take⟩) : At FT 1 SpTake := at_of (C := fun _ => True) hF (fun _ _ => trivial) fun cs cs' _ go => by
  intro r many hm st b k x hb hk
  obtain ⟨cells, i, dig, mixed, turn, h1, h2, h3, h4, h5, h6⟩ := hb
  refine go _ _ _ _ rfl ?_
  have e0 : ix 5 0 = some 0 := rfl
  have e1 : ix 5 1 = some 1 := rfl
  have e2 : ix 5 2 = some 2 := rfl
  have e3 : ix 5 3 = some 3 := rfl
  have e4 : ix 5 4 = some 4 := rfl
  unfold bagL at h1
  have s1 := set_self (o' := .lst [ilst cells, .int i, .int dig, .int mixed, .int ((turn : Int) + 1)]) h1
  have hB : ∀ (i' : Nat) (dig' mixed' : Int) (st' : Store), st'[r]? = some (.lst (bagL cells i' dig' mixed' ((turn : Int) + 1))) → i' ≤ 63 → 0 ≤ mixed' → mixed' < M0 → Bag st' r b := fun i' dig' mixed' st' q1 q2 q3 q4 => ⟨cells, i', dig', mixed', turn + 1, by rw [q1]; rfl, h2, q2, q3, q4, by omega⟩
  have fin : ∀ (st1 : Store) (a2 a3 a4 : Option PV), Bag st1 r b → Keep r st st1 → takeTail (D0 k x) [some (.ref r), some (.int many), a2, a3, a4] st1 := fun st1 a2 a3 a4 hb1 kp => take_tail hm hb1 fun d st' d0 d1 b' kp' => hk _ _ ⟨d, rfl, d0, d1⟩ b' (kp.trans kp')
  show sCons _ (sCons _ takeTail) _ _ _
  by_cases hc : dig < 2 ∧ (i : Int) < (cells.length : Int)
  · obtain ⟨hc1, hc2⟩ := hc
    have hi : i < cells.length := by omega
    have ei : ix cells.length (i : Int) = some i := by unfold ix; rw [if_pos (by omega), if_pos hc2]; simp
    obtain ⟨cell, ec⟩ : ∃ cell, cells[i]? = some cell := ⟨cells[i], by simp [hi]⟩
    have hs : ∀ o, (st.set r o)[r]? = some o := fun o => set_self h1
    have p0 : PowOk 10 18 := ⟨by decide, by decide, by decide⟩
    have q1 := Int.fmod_nonneg_of_pos cell (show (0 : Int) < 2147483497 by decide)
    have q2 := Int.fmod_lt_of_pos cell (show (0 : Int) < 2147483497 by decide)
    simp only [VM.sNil, VM.sCons, VM.sSet, VM.sPar, VM.sSetIx, VM.setIx, VM.sExpr, VM.sRet, VM.sRetN, VM.sIf, VM.sBreak, VM.sCont, VM.sFor, VM.gName, VM.gTup, VM.gEach, VM.eVar, VM.eC, VM.eBin, VM.eNeg, VM.eCmp, VM.eChain, VM.tOf, VM.tCmp, VM.tChain, VM.tAnd, VM.tOr, VM.tNot, VM.tYes, VM.eTest, VM.eAnd, VM.eOr, VM.eNot, VM.eIf, VM.aNil, VM.aCons, VM.eLst, VM.eLstM, VM.eTup, VM.eCall, VM.eIx, VM.getIx, VM.eSl, VM.getSl, VM.iE, VM.iRange1, VM.iRange2, VM.iZip, VM.iRev, VM.eComp, VM.eCompM, VM.eAppend, VM.eInsert, VM.eB1, VM.fLen, VM.fAbs, VM.fInt, VM.fList, VM.fListM, VM.fTuple, VM.fSum, VM.fAll, VM.fAny, VM.fIsi, VM.bLen, VM.seqOf, VM.sq, VM.asL, VM.items, VM.isSeq, VM.truth, VM.opBin, VM.opAdd, VM.opSub, VM.opMul, VM.opFdiv, VM.opMod, VM.opPow, VM.opCm, VM.opEq, VM.frz, VM.isD, VM.eqv, VM.isNon, VM.kdOf, VM.D0, VM.turn, List.map_cons, List.map_nil, List.replicate_succ, List.replicate_zero, List.cons_append, List.nil_append, List.getElem?_cons_zero, List.getElem?_cons_succ, List.set_cons_zero, List.set_cons_succ, Nat.reduceSub, VM.wipe, List.length_cons, List.length_nil, Nat.reduceAdd, h1, hs, e0, e1, e2, e3, e4, hc1, hc2, decide_true, if_true, List.length_map, ei, List.getElem?_map, ec, Option.map_some, List.set_set]
    have f := fmodM (mixed * 40063 + cell.fmod 2147483497 * 61 + ((i : Int) + 1))
    refine ⟨mulOk64 (nat_lt_pow h4 h5) (by decide), by decide, mulOk64 (by omega) (by decide), by decide, p0, ?_⟩
    by_cases hd : (10 : Int) ^ Int.toNat 18 ≤ cell
    · simp only [hd, decide_true, if_true]
      exact fin _ _ _ _ (hB (i + 1) _ _ _ (hs _) (by omega) f.1 f.2) Keep.set
    · simp only [hd, decide_false, Bool.false_eq_true, if_false]
      exact fin _ _ _ _ (hB (i + 1) _ _ _ (hs _) (by omega) f.1 f.2) Keep.set
  · have hs : ∀ o, (st.set r o)[r]? = some o := fun o => set_self h1
    have key := fin _ none none none (hB i dig mixed _ (hs _) h3 h4 h5) Keep.set
    by_cases hc1 : dig < 2
    · have hc2 : ¬ (i : Int) < (cells.length : Int) := fun z => hc ⟨hc1, z⟩
      simp only [VM.sNil, VM.sCons, VM.sSet, VM.sPar, VM.sSetIx, VM.setIx, VM.sExpr, VM.sRet, VM.sRetN, VM.sIf, VM.sBreak, VM.sCont, VM.sFor, VM.gName, VM.gTup, VM.gEach, VM.eVar, VM.eC, VM.eBin, VM.eNeg, VM.eCmp, VM.eChain, VM.tOf, VM.tCmp, VM.tChain, VM.tAnd, VM.tOr, VM.tNot, VM.tYes, VM.eTest, VM.eAnd, VM.eOr, VM.eNot, VM.eIf, VM.aNil, VM.aCons, VM.eLst, VM.eLstM, VM.eTup, VM.eCall, VM.eIx, VM.getIx, VM.eSl, VM.getSl, VM.iE, VM.iRange1, VM.iRange2, VM.iZip, VM.iRev, VM.eComp, VM.eCompM, VM.eAppend, VM.eInsert, VM.eB1, VM.fLen, VM.fAbs, VM.fInt, VM.fList, VM.fListM, VM.fTuple, VM.fSum, VM.fAll, VM.fAny, VM.fIsi, VM.bLen, VM.seqOf, VM.sq, VM.asL, VM.items, VM.isSeq, VM.truth, VM.opBin, VM.opAdd, VM.opSub, VM.opMul, VM.opFdiv, VM.opMod, VM.opPow, VM.opCm, VM.opEq, VM.frz, VM.isD, VM.eqv, VM.isNon, VM.kdOf, VM.D0, VM.turn, List.map_cons, List.map_nil, List.replicate_succ, List.replicate_zero, List.cons_append, List.nil_append, List.getElem?_cons_zero, List.getElem?_cons_succ, List.set_cons_zero, List.set_cons_succ, Nat.reduceSub, VM.wipe, List.length_cons, List.length_nil, Nat.reduceAdd, h1, hs, e0, e1, e2, e3, e4, hc1, hc2, decide_true, decide_false, Bool.false_eq_true, if_true, if_false, List.length_map]
      exact key
    · simp only [VM.sNil, VM.sCons, VM.sSet, VM.sPar, VM.sSetIx, VM.setIx, VM.sExpr, VM.sRet, VM.sRetN, VM.sIf, VM.sBreak, VM.sCont, VM.sFor, VM.gName, VM.gTup, VM.gEach, VM.eVar, VM.eC, VM.eBin, VM.eNeg, VM.eCmp, VM.eChain, VM.tOf, VM.tCmp, VM.tChain, VM.tAnd, VM.tOr, VM.tNot, VM.tYes, VM.eTest, VM.eAnd, VM.eOr, VM.eNot, VM.eIf, VM.aNil, VM.aCons, VM.eLst, VM.eLstM, VM.eTup, VM.eCall, VM.eIx, VM.getIx, VM.eSl, VM.getSl, VM.iE, VM.iRange1, VM.iRange2, VM.iZip, VM.iRev, VM.eComp, VM.eCompM, VM.eAppend, VM.eInsert, VM.eB1, VM.fLen, VM.fAbs, VM.fInt, VM.fList, VM.fListM, VM.fTuple, VM.fSum, VM.fAll, VM.fAny, VM.fIsi, VM.bLen, VM.seqOf, VM.sq, VM.asL, VM.items, VM.isSeq, VM.truth, VM.opBin, VM.opAdd, VM.opSub, VM.opMul, VM.opFdiv, VM.opMod, VM.opPow, VM.opCm, VM.opEq, VM.frz, VM.isD, VM.eqv, VM.isNon, VM.kdOf, VM.D0, VM.turn, List.map_cons, List.map_nil, List.replicate_succ, List.replicate_zero, List.cons_append, List.nil_append, List.getElem?_cons_zero, List.getElem?_cons_succ, List.set_cons_zero, List.set_cons_succ, Nat.reduceSub, VM.wipe, List.length_cons, List.length_nil, Nat.reduceAdd, h1, hs, e0, e1, e2, e3, e4, hc1, decide_false, Bool.false_eq_true, if_false, List.length_map]
      exact key
end VP
end
section
namespace VP
open VM
def Dr (cs : CS) (f : Nat) (args : List PV) (r c : Nat) (st : Store) (R : PV → Store → Prop) : Prop := ∀ (b : Nat) (k x : KV), Bag st r (b + c) → (∀ v st', R v st' → Bag st' r b → Keep r st st' → k v st') → cs f (.ref r :: args) st k x
def SpOf (cs : CS) : Prop := ∀ (r : Nat) (things : PV) (xs : List PV) (st : Store), asL st things = some xs → xs ≠ [] → things ≠ .ref r → (∀ j, things = .ref j → j < st.length) → Dr cs 2 [things] r 1 st fun v _ => v ∈ xs
theorem asL_keep {r : Nat} {st st' : Store} {u : PV} {xs : List PV} (h : asL st u = some xs) (hr : u ≠ .ref r) (k : Keep r st st') : asL st' u = some xs := by
  cases u <;> simp only [asL] at h ⊢ <;> try exact h
  rename_i i
  have hi : i < st.length := by
    cases e : st[i]? with
    | none => rw [e] at h; cases h
    | some o => exact (List.getElem?_eq_some_iff.mp e).1
  rw [k.2 i (fun z => hr (by rw [z])) hi]
  exact h
theorem bLen_asL {st : Store} {u : PV} {xs : List PV} (h : asL st u = some xs) : bLen u st = some xs.length := by
  cases u <;> simp only [asL] at h <;> first | (cases h; done) | skip
  · cases h; rfl
  · simp only [bLen, asL, h]
theorem getIx_asL {st : Store} {u : PV} {xs : List PV} {i : Int} {n : Nat} {y : PV} {k : KV} (h : asL st u = some xs) (hi : ix xs.length i = some n) (hy : xs[n]? = some y) (hk : k y st) : getIx u (.int i) st k := by
  have e : getIx u (.int i) st k = match asL st u with | some xs => (match ix xs.length i with | some n => (match xs[n]? with | some y => k y st | none => False) | none => False) | none => False := by
    cases u <;> simp only [asL] at h <;> first | (cases h; done) | rfl
  rw [e, h]
  simp only [hi, hy]
  exact hk
theorem ixN {n : Nat} {i : Int} (h0 : 0 ≤ i) (h : i < n) : ix n i = some i.toNat := by
  unfold ix
  rw [if_pos h0, if_pos h]
theorem of_at {FT : Nat → Option FD} {d : Nat} (hF : FT 2 = some ⟨2, 2, T__law_of⟩) (h1 : At FT d SpTake) : At FT (d + 1) SpOf := at_of hF h1 fun cs cs' tk go => by
  intro r things xs st hx hne hr hlt b k x hb hk
  refine go _ _ _ _ rfl ?_
  have hl : (0 : Int) < (xs.length : Int) := by
    cases xs with
    | nil => exact (hne rfl).elim
    | cons => simp
  simp only [T__law_of, VM.sRet, VM.eIx, VM.eCall, VM.aCons, VM.aNil, VM.eVar, VM.eB1, VM.fLen, List.map_cons, List.map_nil, List.cons_append, List.nil_append, List.getElem?_cons_zero, List.getElem?_cons_succ, bLen_asL hx]
  refine tk r _ hl st b _ _ hb fun v st' hv hb' kp => ?_
  obtain ⟨dd, rfl, d0, d1⟩ := hv
  have hi := ixN d0 (by simpa using d1)
  have hn : dd.toNat < xs.length := by omega
  exact getIx_asL (asL_keep hx hr kp) hi (List.getElem?_eq_getElem hn) (hk _ _ (List.getElem_mem hn) hb' kp)
def SpSmall (cs : CS) : Prop := ∀ (r : Nat) (st : Store), Dr cs 3 [] r 1 st fun v _ => ∃ c : Int, v = .int c ∧ c.natAbs ≤ 12
theorem small_at {FT : Nat → Option FD} {d : Nat} (hF : FT 3 = some ⟨1, 1, T__law_small⟩) (h1 : At FT d SpOf) : At FT (d + 1) SpSmall := at_of hF h1 fun cs cs' of go => by
  intro r st b k x hb hk
  refine go _ _ _ _ rfl ?_
  simp only [T__law_small, VM.sNil, VM.sCons, VM.sSet, VM.sPar, VM.sSetIx, VM.setIx, VM.sExpr, VM.sRet, VM.sRetN, VM.sIf, VM.sBreak, VM.sCont, VM.sFor, VM.gName, VM.gTup, VM.gEach, VM.eVar, VM.eC, VM.eBin, VM.eNeg, VM.eCmp, VM.eChain, VM.tOf, VM.tCmp, VM.tChain, VM.tAnd, VM.tOr, VM.tNot, VM.tYes, VM.eTest, VM.eAnd, VM.eOr, VM.eNot, VM.eIf, VM.aNil, VM.aCons, VM.eLst, VM.eLstM, VM.eTup, VM.eCall, VM.eIx, VM.getIx, VM.eSl, VM.getSl, VM.iE, VM.iRange1, VM.iRange2, VM.iZip, VM.iRev, VM.eComp, VM.eCompM, VM.eAppend, VM.eInsert, VM.eB1, VM.fLen, VM.fAbs, VM.fInt, VM.fList, VM.fListM, VM.fTuple, VM.fSum, VM.fAll, VM.fAny, VM.fIsi, VM.bLen, VM.seqOf, VM.sq, VM.asL, VM.items, VM.isSeq, VM.truth, VM.opBin, VM.opAdd, VM.opSub, VM.opMul, VM.opFdiv, VM.opMod, VM.opPow, VM.opCm, VM.opEq, VM.frz, VM.isD, VM.eqv, VM.isNon, VM.kdOf, VM.D0, VM.turn, List.map_cons, List.map_nil, List.replicate_succ, List.replicate_zero, List.cons_append, List.nil_append, List.getElem?_cons_zero, List.getElem?_cons_succ, List.set_cons_zero, List.set_cons_succ, Nat.reduceSub, VM.wipe, List.length_cons, List.length_nil, Nat.reduceAdd]
  refine ⟨by decide, ?_⟩
  refine of r (.lst _) _ st rfl (by simp) (by simp) (fun _ e => by cases e) b _ _ hb fun v st' hv hb' kp => ?_
  refine hk _ _ ?_ hb' kp
  simp only [List.mem_cons, List.not_mem_nil, or_false] at hv
  rcases hv with h | h | h | h | h | h | h | h | h | h | h | h <;> exact ⟨_, h, by decide⟩
def SpBig (cs : CS) : Prop := ∀ (r : Nat) (st : Store), Dr cs 4 [] r 2 st fun v _ => ∃ c : Int, v = .int c ∧ c.natAbs ≤ 1000
theorem big_at {FT : Nat → Option FD} {d : Nat} (hF : FT 4 = some ⟨1, 1, T__law_big_factor⟩) (h1 : At FT d SpTake) (h2 : At FT d SpSmall) : At FT (d + 1) SpBig := at_of (C := fun cs => SpTake cs ∧ SpSmall cs) hF (fun n hn => ⟨h1 n hn, h2 n hn⟩) fun cs cs' C go => by
  obtain ⟨tk, sm⟩ := C
  intro r st b k x hb hk
  refine go _ _ _ _ rfl ?_
  simp only [T__law_big_factor, VM.sNil, VM.sCons, VM.sSet, VM.sPar, VM.sSetIx, VM.setIx, VM.sExpr, VM.sRet, VM.sRetN, VM.sIf, VM.sBreak, VM.sCont, VM.sFor, VM.gName, VM.gTup, VM.gEach, VM.eVar, VM.eC, VM.eBin, VM.eNeg, VM.eCmp, VM.eChain, VM.tOf, VM.tCmp, VM.tChain, VM.tAnd, VM.tOr, VM.tNot, VM.tYes, VM.eTest, VM.eAnd, VM.eOr, VM.eNot, VM.eIf, VM.aNil, VM.aCons, VM.eLst, VM.eLstM, VM.eTup, VM.eCall, VM.eIx, VM.getIx, VM.eSl, VM.getSl, VM.iE, VM.iRange1, VM.iRange2, VM.iZip, VM.iRev, VM.eComp, VM.eCompM, VM.eAppend, VM.eInsert, VM.eB1, VM.fLen, VM.fAbs, VM.fInt, VM.fList, VM.fListM, VM.fTuple, VM.fSum, VM.fAll, VM.fAny, VM.fIsi, VM.bLen, VM.seqOf, VM.sq, VM.asL, VM.items, VM.isSeq, VM.truth, VM.opBin, VM.opAdd, VM.opSub, VM.opMul, VM.opFdiv, VM.opMod, VM.opPow, VM.opCm, VM.opEq, VM.frz, VM.isD, VM.eqv, VM.isNon, VM.kdOf, VM.D0, VM.turn, List.map_cons, List.map_nil, List.replicate_succ, List.replicate_zero, List.cons_append, List.nil_append, List.getElem?_cons_zero, List.getElem?_cons_succ, List.set_cons_zero, List.set_cons_succ, Nat.reduceSub, VM.wipe, List.length_cons, List.length_nil, Nat.reduceAdd]
  refine tk r 5 (by decide) st (b + 1) _ _ hb fun v st1 hv hb1 k1 => ?_
  obtain ⟨dd, rfl, d0, d1⟩ := hv
  simp only []
  by_cases h : (0 : Int) < dd
  · simp only [h, decide_true, if_true]
    exact sm r st1 b _ _ hb1 fun v st2 hv hb2 k2 => hk _ _ (by obtain ⟨c, rfl, hc⟩ := hv; exact ⟨c, rfl, by omega⟩) hb2 (k1.trans k2)
  · simp only [h, decide_false, Bool.false_eq_true, if_false]
    refine tk r 2001 (by decide) st1 b _ _ hb1 fun v st2 hv hb2 k2 => ?_
    obtain ⟨ee, rfl, e0, e1⟩ := hv
    simp only []
    exact hk _ _ ⟨_, rfl, by omega⟩ hb2 (k1.trans k2)
def Rows (w : Nat) (B : Nat) (vs : List (List Int)) : Prop := ∀ v ∈ vs, v.length = w ∧ ∀ a ∈ v, a.natAbs ≤ B
theorem Rows.mono {w B B' : Nat} {vs : List (List Int)} (h : Rows w B vs) (hb : B ≤ B') : Rows w B' vs := fun v m => ⟨(h v m).1, fun a ha => Nat.le_trans ((h v m).2 a ha) hb⟩
end VP
end
section
namespace VP
open VM
theorem mem_ints {v : List Int} {a : PV} (h : a ∈ pvis v) : ∃ z, a = .int z ∧ z ∈ v := by
  obtain ⟨z, hz, rfl⟩ := List.mem_map.mp h
  exact ⟨z, rfl, hz⟩
theorem mem_range {n : Nat} {v : PV} (h : v ∈ (List.range n).map fun (i : Nat) => PV.int (i : Int)) : ∃ i : Nat, i < n ∧ v = .int i := by
  obtain ⟨i, hi, rfl⟩ := List.mem_map.mp h
  exact ⟨i, List.mem_range.mp hi, rfl⟩
end VP
end
section
namespace VP
open VM
def SpBag0 (cs : CS) : Prop := ∀ (is : List Int) (st : Store) (k x : KV), is.length ≤ 63 → (∀ st', Bag st' st.length (2 ^ 59) → st'.length = st.length + 1 → (∀ i, i < st.length → st'[i]? = st[i]?) → k (.ref st.length) st') → cs 0 [.scr is] st k x
theorem take63 (is : List Int) (h : is.length ≤ 63) : slc (pvis is) none (some 63) = pvis is := by
  unfold slc cutIx
  simp only [List.drop_zero, Nat.sub_zero]
  rw [if_neg (by decide)]
  exact List.take_of_length_le (by rw [List.length_map]; show _ ≤ min 63 is.length; omega)
set_option maxHeartbeats 2000000 in
theorem bag_at {FT : Nat → Option FD} (hF : FT 0 = some ⟨1, 4, T__law_bag⟩) : At FT 1 SpBag0 := at_of (C := fun _ => True) hF (fun _ _ => trivial) fun cs cs' _ go => by
  intro is st k x hl hk
  refine go _ _ _ _ rfl ?_
  simp only [T__law_bag, VM.sNil, VM.sCons, VM.sSet, VM.sPar, VM.sSetIx, VM.setIx, VM.sExpr, VM.sRet, VM.sRetN, VM.sIf, VM.sBreak, VM.sCont, VM.sFor, VM.gName, VM.gTup, VM.gEach, VM.eVar, VM.eC, VM.eBin, VM.eNeg, VM.eCmp, VM.eChain, VM.tOf, VM.tCmp, VM.tChain, VM.tAnd, VM.tOr, VM.tNot, VM.tYes, VM.eTest, VM.eAnd, VM.eOr, VM.eNot, VM.eIf, VM.aNil, VM.aCons, VM.eLst, VM.eLstM, VM.eTup, VM.eCall, VM.eIx, VM.getIx, VM.eSl, VM.getSl, VM.iE, VM.iRange1, VM.iRange2, VM.iZip, VM.iRev, VM.eComp, VM.eCompM, VM.eAppend, VM.eInsert, VM.eB1, VM.fLen, VM.fAbs, VM.fInt, VM.fList, VM.fListM, VM.fTuple, VM.fSum, VM.fAll, VM.fAny, VM.fIsi, VM.bLen, VM.seqOf, VM.sq, VM.asL, VM.items, VM.isSeq, VM.truth, VM.opBin, VM.opAdd, VM.opSub, VM.opMul, VM.opFdiv, VM.opMod, VM.opPow, VM.opCm, VM.opEq, VM.frz, VM.isD, VM.eqv, VM.isNon, VM.kdOf, VM.D0, VM.turn, List.map_cons, List.map_nil, List.replicate_succ, List.replicate_zero, List.cons_append, List.nil_append, List.getElem?_cons_zero, List.getElem?_cons_succ, List.set_cons_zero, List.set_cons_succ, Nat.reduceSub, VM.wipe, List.length_cons, List.length_nil, Nat.reduceAdd, take63 is hl]
  refine ⟨trivial, comp_map (fun v => v) trivial _ (fun v hv k' hk' => ?_) (by rw [List.length_map]; show _ ≤ 16777216; omega) ?_⟩
  · obtain ⟨a, rfl, _⟩ := mem_ints hv
    simp only [VM.sNil, VM.sCons, VM.sSet, VM.sPar, VM.sSetIx, VM.setIx, VM.sExpr, VM.sRet, VM.sRetN, VM.sIf, VM.sBreak, VM.sCont, VM.sFor, VM.gName, VM.gTup, VM.gEach, VM.eVar, VM.eC, VM.eBin, VM.eNeg, VM.eCmp, VM.eChain, VM.tOf, VM.tCmp, VM.tChain, VM.tAnd, VM.tOr, VM.tNot, VM.tYes, VM.eTest, VM.eAnd, VM.eOr, VM.eNot, VM.eIf, VM.aNil, VM.aCons, VM.eLst, VM.eLstM, VM.eTup, VM.eCall, VM.eIx, VM.getIx, VM.eSl, VM.getSl, VM.iE, VM.iRange1, VM.iRange2, VM.iZip, VM.iRev, VM.eComp, VM.eCompM, VM.eAppend, VM.eInsert, VM.eB1, VM.fLen, VM.fAbs, VM.fInt, VM.fList, VM.fListM, VM.fTuple, VM.fSum, VM.fAll, VM.fAny, VM.fIsi, VM.bLen, VM.seqOf, VM.sq, VM.asL, VM.items, VM.isSeq, VM.truth, VM.opBin, VM.opAdd, VM.opSub, VM.opMul, VM.opFdiv, VM.opMod, VM.opPow, VM.opCm, VM.opEq, VM.frz, VM.isD, VM.eqv, VM.isNon, VM.kdOf, VM.D0, VM.turn, List.map_cons, List.map_nil, List.replicate_succ, List.replicate_zero, List.cons_append, List.nil_append, List.getElem?_cons_zero, List.getElem?_cons_succ, List.set_cons_zero, List.set_cons_succ, Nat.reduceSub, VM.wipe, List.length_cons, List.length_nil, Nat.reduceAdd, if_true]
    exact hk'
  · rw [List.map_id']
    simp only [VM.sNil, VM.sCons, VM.sSet, VM.sPar, VM.sSetIx, VM.setIx, VM.sExpr, VM.sRet, VM.sRetN, VM.sIf, VM.sBreak, VM.sCont, VM.sFor, VM.gName, VM.gTup, VM.gEach, VM.eVar, VM.eC, VM.eBin, VM.eNeg, VM.eCmp, VM.eChain, VM.tOf, VM.tCmp, VM.tChain, VM.tAnd, VM.tOr, VM.tNot, VM.tYes, VM.eTest, VM.eAnd, VM.eOr, VM.eNot, VM.eIf, VM.aNil, VM.aCons, VM.eLst, VM.eLstM, VM.eTup, VM.eCall, VM.eIx, VM.getIx, VM.eSl, VM.getSl, VM.iE, VM.iRange1, VM.iRange2, VM.iZip, VM.iRev, VM.eComp, VM.eCompM, VM.eAppend, VM.eInsert, VM.eB1, VM.fLen, VM.fAbs, VM.fInt, VM.fList, VM.fListM, VM.fTuple, VM.fSum, VM.fAll, VM.fAny, VM.fIsi, VM.bLen, VM.seqOf, VM.sq, VM.asL, VM.items, VM.isSeq, VM.truth, VM.opBin, VM.opAdd, VM.opSub, VM.opMul, VM.opFdiv, VM.opMod, VM.opPow, VM.opCm, VM.opEq, VM.frz, VM.isD, VM.eqv, VM.isNon, VM.kdOf, VM.D0, VM.turn, List.map_cons, List.map_nil, List.replicate_succ, List.replicate_zero, List.cons_append, List.nil_append, List.getElem?_cons_zero, List.getElem?_cons_succ, List.set_cons_zero, List.set_cons_succ, Nat.reduceSub, VM.wipe, List.length_cons, List.length_nil, Nat.reduceAdd, List.length_map]
    refine ⟨mulOk64 (by decide) (by omega), trivial, ?_⟩
    refine for_inv (fun rem ρ st' => ∃ (m : Int) (a2 : Option PV), ρ = [some (.scr is), some (.lst (pvis is)), a2, some (.int m)] ∧ 0 ≤ m ∧ m < M0 ∧ st' = st ∧ ∀ y ∈ rem, ∃ z, y = .int z) ?_ ?_ _ _ _ ⟨_, _, rfl, by omega, by show _ < (2147483549 : Int); omega, rfl, fun y hy => by obtain ⟨z, rfl, _⟩ := mem_ints hy; exact ⟨z, rfl⟩⟩
    · rintro v rem ρ st' ⟨m, a2, rfl, m0, m1, rfl, hz⟩
      refine ⟨trivial, fun D' d1 d2 d3 d4 d5 => ?_⟩
      obtain ⟨z, rfl⟩ := hz _ (List.mem_cons_self ..)
      simp only [VM.sNil, VM.sCons, VM.sSet, VM.sPar, VM.sSetIx, VM.setIx, VM.sExpr, VM.sRet, VM.sRetN, VM.sIf, VM.sBreak, VM.sCont, VM.sFor, VM.gName, VM.gTup, VM.gEach, VM.eVar, VM.eC, VM.eBin, VM.eNeg, VM.eCmp, VM.eChain, VM.tOf, VM.tCmp, VM.tChain, VM.tAnd, VM.tOr, VM.tNot, VM.tYes, VM.eTest, VM.eAnd, VM.eOr, VM.eNot, VM.eIf, VM.aNil, VM.aCons, VM.eLst, VM.eLstM, VM.eTup, VM.eCall, VM.eIx, VM.getIx, VM.eSl, VM.getSl, VM.iE, VM.iRange1, VM.iRange2, VM.iZip, VM.iRev, VM.eComp, VM.eCompM, VM.eAppend, VM.eInsert, VM.eB1, VM.fLen, VM.fAbs, VM.fInt, VM.fList, VM.fListM, VM.fTuple, VM.fSum, VM.fAll, VM.fAny, VM.fIsi, VM.bLen, VM.seqOf, VM.sq, VM.asL, VM.items, VM.isSeq, VM.truth, VM.opBin, VM.opAdd, VM.opSub, VM.opMul, VM.opFdiv, VM.opMod, VM.opPow, VM.opCm, VM.opEq, VM.frz, VM.isD, VM.eqv, VM.isNon, VM.kdOf, VM.D0, VM.turn, List.map_cons, List.map_nil, List.replicate_succ, List.replicate_zero, List.cons_append, List.nil_append, List.getElem?_cons_zero, List.getElem?_cons_succ, List.set_cons_zero, List.set_cons_succ, Nat.reduceSub, VM.wipe, List.length_cons, List.length_nil, Nat.reduceAdd]
      refine ⟨mulOk64 (nat_lt_pow m0 m1) (by decide), by decide, d4 _ _ ⟨_, _, rfl, (fmodM _).1, (fmodM _).2, rfl, fun y hy => hz y (List.mem_cons_of_mem _ hy)⟩⟩
    · rintro ρ st' ⟨m, a2, rfl, m0, m1, rfl, hz⟩
      refine ⟨trivial, ?_⟩
      simp only [VM.sNil, VM.sCons, VM.sSet, VM.sPar, VM.sSetIx, VM.setIx, VM.sExpr, VM.sRet, VM.sRetN, VM.sIf, VM.sBreak, VM.sCont, VM.sFor, VM.gName, VM.gTup, VM.gEach, VM.eVar, VM.eC, VM.eBin, VM.eNeg, VM.eCmp, VM.eChain, VM.tOf, VM.tCmp, VM.tChain, VM.tAnd, VM.tOr, VM.tNot, VM.tYes, VM.eTest, VM.eAnd, VM.eOr, VM.eNot, VM.eIf, VM.aNil, VM.aCons, VM.eLst, VM.eLstM, VM.eTup, VM.eCall, VM.eIx, VM.getIx, VM.eSl, VM.getSl, VM.iE, VM.iRange1, VM.iRange2, VM.iZip, VM.iRev, VM.eComp, VM.eCompM, VM.eAppend, VM.eInsert, VM.eB1, VM.fLen, VM.fAbs, VM.fInt, VM.fList, VM.fListM, VM.fTuple, VM.fSum, VM.fAll, VM.fAny, VM.fIsi, VM.bLen, VM.seqOf, VM.sq, VM.asL, VM.items, VM.isSeq, VM.truth, VM.opBin, VM.opAdd, VM.opSub, VM.opMul, VM.opFdiv, VM.opMod, VM.opPow, VM.opCm, VM.opEq, VM.frz, VM.isD, VM.eqv, VM.isNon, VM.kdOf, VM.D0, VM.turn, List.map_cons, List.map_nil, List.replicate_succ, List.replicate_zero, List.cons_append, List.nil_append, List.getElem?_cons_zero, List.getElem?_cons_succ, List.set_cons_zero, List.set_cons_succ, Nat.reduceSub, VM.wipe, List.length_cons, List.length_nil, Nat.reduceAdd]
      refine ⟨by decide, hk _ ⟨is, 0, 0, m, 0, by simp [bagL], hl, by omega, m0, m1, by decide⟩ (by simp) fun i hi => List.getElem?_append_left hi⟩
def SpMixed (cs : CS) : Prop := ∀ (r : Nat) (things : PV) (xs : List PV) (st : Store), asL st things = some xs → things ≠ .ref r → xs.length ≤ 1000 → Dr cs 17 [things] r xs.length st fun v st' => ∃ ys : List PV, v = .ref st.length ∧ st'[st.length]? = some (.lst ys) ∧ ys.Perm xs
theorem items_asL {st : Store} {u : PV} {xs : List PV} (h : asL st u = some xs) : items st u = some xs ∧ isSeq st u = true := by
  cases u <;> simp only [asL] at h <;> first | (cases h; done) | skip
  · cases h; exact ⟨rfl, rfl⟩
  · rename_i i
    cases e : st[i]? with
    | none => rw [e] at h; cases h
    | some o =>
      rw [e] at h
      cases o <;> first | (cases h; done) | skip
      cases h
      simp only [items, isSeq, e]
      exact ⟨trivial, trivial⟩
theorem stays_keep {r : Nat} {st st0 st' : Store} {u : PV} {xs : List PV} (h : asL st u = some xs) (hr : u ≠ .ref r) (hs : ∀ i, i ≠ r → i < st.length → st'[i]? = st[i]?) (h0 : ∀ i, i < st.length → st0[i]? = st[i]?) : stays st0 u st' := by
  cases u <;> simp only [asL] at h <;> first | (cases h; done) | skip
  · trivial
  · rename_i i
    have hi : i < st.length := by
      cases e : st[i]? with
      | none => rw [e] at h; cases h
      | some o => exact (List.getElem?_eq_some_iff.mp e).1
    exact (hs i (fun z => hr (by rw [z])) hi).trans (h0 i hi).symm
theorem Bag.put {st : Store} {r b j : Nat} {o : SO} (h : Bag st r b) (hj : j ≠ r) : Bag (st.set j o) r b := by
  obtain ⟨c, i, dg, m, t, g1, g2⟩ := h
  exact ⟨c, i, dg, m, t, by rw [List.getElem?_set_ne hj]; exact g1, g2⟩
theorem Keep.put {r j : Nat} {st st' : Store} {o : SO} (k : Keep r st st') (hj : st.length ≤ j) : Keep r st (st'.set j o) := ⟨by rw [List.length_set]; exact k.1, fun i hi hl => by rw [List.getElem?_set_ne (by omega)]; exact k.2 i hi hl⟩
set_option maxHeartbeats 2000000 in
theorem mixed_at {FT : Nat → Option FD} {d : Nat} (hF : FT 17 = some ⟨2, 4, T__law_mixed⟩) (h1 : At FT d SpTake) : At FT (d + 1) SpMixed := at_of hF h1 fun cs cs' tk go => by
  intro r things xs st hx hr hl b k x hb hk
  refine go _ _ _ _ rfl ?_
  have hr0 := hb.lt
  have hx1 : asL (st ++ [.lst []]) things = some xs := asL_keep hx hr (Keep.app (r := r))
  obtain ⟨i1, i2⟩ := items_asL hx1
  simp only [T__law_mixed, VM.sNil, VM.sCons, VM.sSet, VM.sPar, VM.sSetIx, VM.setIx, VM.sExpr, VM.sRet, VM.sRetN, VM.sIf, VM.sBreak, VM.sCont, VM.sFor, VM.gName, VM.gTup, VM.gEach, VM.eVar, VM.eC, VM.eBin, VM.eNeg, VM.eCmp, VM.eChain, VM.tOf, VM.tCmp, VM.tChain, VM.tAnd, VM.tOr, VM.tNot, VM.tYes, VM.eTest, VM.eAnd, VM.eOr, VM.eNot, VM.eIf, VM.aNil, VM.aCons, VM.eLst, VM.eLstM, VM.eTup, VM.eCall, VM.eIx, VM.eSl, VM.iE, VM.iRange1, VM.iRange2, VM.iZip, VM.iRev, VM.eComp, VM.eCompM, VM.eAppend, VM.eInsert, VM.eB1, VM.fLen, VM.fAbs, VM.fInt, VM.fList, VM.fListM, VM.fTuple, VM.fSum, VM.fAll, VM.fAny, VM.fIsi, VM.opBin, VM.opAdd, VM.opSub, VM.opMul, VM.opFdiv, VM.opMod, VM.opPow, VM.opCm, VM.frz, VM.isD, VM.eqv, VM.isNon, VM.D0, VM.turn, List.map_cons, List.map_nil, List.replicate_succ, List.replicate_zero, List.cons_append, List.nil_append, List.getElem?_cons_zero, List.getElem?_cons_succ, List.set_cons_zero, List.set_cons_succ, Nat.reduceSub, VM.wipe, List.length_cons, List.length_nil, Nat.reduceAdd]
  refine ⟨by decide, ?_⟩
  simp only [i1, i2]
  refine ⟨trivial, ?_⟩
  generalize hj : st.length = j at hk
  have hjr : j ≠ r := by omega
  refine for_inv (fun rem ρ st' => ∃ (a3 : Option PV) (ys pre : List PV), ρ = [some (.ref r), some things, some (.ref j), a3] ∧ Bag st' r (b + rem.length) ∧ Keep r st st' ∧ j < st'.length ∧ st'[j]? = some (.lst ys) ∧ ys.Perm pre ∧ pre ++ rem = xs) ?_ ?_ _ _ _ ⟨_, [], [], rfl, hb.app, Keep.app, by simp [hj], by rw [← hj]; simp, List.Perm.refl _, rfl⟩
  · rintro v rem ρ st' ⟨a3, ys, pre, rfl, q1, q2, q3, q4, q5, q6⟩
    refine ⟨stays_keep hx hr q2.2 (fun i hi => List.getElem?_append_left hi), fun D' d1 d2 d3 d4 d5 => ?_⟩
    have ly : ys.length < xs.length := by
      rw [q5.length_eq, ← q6]
      simp
    simp only [VM.sNil, VM.sCons, VM.sSet, VM.sPar, VM.sSetIx, VM.setIx, VM.sExpr, VM.sRet, VM.sRetN, VM.sIf, VM.sBreak, VM.sCont, VM.sFor, VM.gName, VM.gTup, VM.gEach, VM.eVar, VM.eC, VM.eBin, VM.eNeg, VM.eCmp, VM.eChain, VM.tOf, VM.tCmp, VM.tChain, VM.tAnd, VM.tOr, VM.tNot, VM.tYes, VM.eTest, VM.eAnd, VM.eOr, VM.eNot, VM.eIf, VM.aNil, VM.aCons, VM.eLst, VM.eLstM, VM.eTup, VM.eCall, VM.eIx, VM.getIx, VM.eSl, VM.getSl, VM.iE, VM.iRange1, VM.iRange2, VM.iZip, VM.iRev, VM.eComp, VM.eCompM, VM.eAppend, VM.eInsert, VM.eB1, VM.fLen, VM.fAbs, VM.fInt, VM.fList, VM.fListM, VM.fTuple, VM.fSum, VM.fAll, VM.fAny, VM.fIsi, VM.bLen, VM.seqOf, VM.sq, VM.asL, VM.items, VM.isSeq, VM.truth, VM.opBin, VM.opAdd, VM.opSub, VM.opMul, VM.opFdiv, VM.opMod, VM.opPow, VM.opCm, VM.opEq, VM.frz, VM.isD, VM.eqv, VM.isNon, VM.kdOf, VM.D0, VM.turn, List.map_cons, List.map_nil, List.replicate_succ, List.replicate_zero, List.cons_append, List.nil_append, List.getElem?_cons_zero, List.getElem?_cons_succ, List.set_cons_zero, List.set_cons_succ, Nat.reduceSub, VM.wipe, List.length_cons, List.length_nil, Nat.reduceAdd, q4]
    refine ⟨rfl, ?_⟩
    rw [List.length_cons] at q1
    refine tk r ((ys.length : Int) + 1) (by omega) st' (b + rem.length) _ _ q1 fun z st2 hz hb2 k2 => ?_
    obtain ⟨dd, rfl, e0, e1⟩ := hz
    have e4 : st2[j]? = some (.lst ys) := (k2.2 j hjr q3).trans q4
    simp only [e4]
    refine ⟨e0, by omega, by show _ < 16777216; omega, d4 _ _ ⟨_, _, pre ++ [v], rfl, hb2.put hjr, (q2.trans k2).put (by omega), by rw [List.length_set]; exact Nat.lt_of_lt_of_le q3 k2.1, set_self e4, ?_, by rw [List.append_assoc]; exact q6⟩⟩
    have p1 : (ys.take dd.toNat ++ [v] ++ ys.drop dd.toNat).Perm ([v] ++ ys) := by
      have := (List.perm_append_comm (l₁ := ys.take dd.toNat) (l₂ := [v])).append_right (ys.drop dd.toNat)
      rw [List.append_assoc [v], List.take_append_drop] at this
      exact this
    exact p1.trans ((List.perm_append_comm (l₁ := [v]) (l₂ := ys)).trans (q5.append_right [v]))
  · rintro ρ st' ⟨a3, ys, pre, rfl, q1, q2, q3, q4, q5, q6⟩
    refine ⟨stays_keep hx hr q2.2 (fun i hi => List.getElem?_append_left hi), ?_⟩
    simp only [VM.sNil, VM.sCons, VM.sSet, VM.sPar, VM.sSetIx, VM.setIx, VM.sExpr, VM.sRet, VM.sRetN, VM.sIf, VM.sBreak, VM.sCont, VM.sFor, VM.gName, VM.gTup, VM.gEach, VM.eVar, VM.eC, VM.eBin, VM.eNeg, VM.eCmp, VM.eChain, VM.tOf, VM.tCmp, VM.tChain, VM.tAnd, VM.tOr, VM.tNot, VM.tYes, VM.eTest, VM.eAnd, VM.eOr, VM.eNot, VM.eIf, VM.aNil, VM.aCons, VM.eLst, VM.eLstM, VM.eTup, VM.eCall, VM.eIx, VM.getIx, VM.eSl, VM.getSl, VM.iE, VM.iRange1, VM.iRange2, VM.iZip, VM.iRev, VM.eComp, VM.eCompM, VM.eAppend, VM.eInsert, VM.eB1, VM.fLen, VM.fAbs, VM.fInt, VM.fList, VM.fListM, VM.fTuple, VM.fSum, VM.fAll, VM.fAny, VM.fIsi, VM.bLen, VM.seqOf, VM.sq, VM.asL, VM.items, VM.isSeq, VM.truth, VM.opBin, VM.opAdd, VM.opSub, VM.opMul, VM.opFdiv, VM.opMod, VM.opPow, VM.opCm, VM.opEq, VM.frz, VM.isD, VM.eqv, VM.isNon, VM.kdOf, VM.D0, VM.turn, List.map_cons, List.map_nil, List.replicate_succ, List.replicate_zero, List.cons_append, List.nil_append, List.getElem?_cons_zero, List.getElem?_cons_succ, List.set_cons_zero, List.set_cons_succ, Nat.reduceSub, VM.wipe, List.length_cons, List.length_nil, Nat.reduceAdd]
    rw [List.append_nil] at q6
    exact hk _ _ ⟨ys, rfl, q4, q6 ▸ q5⟩ (q1.le (by simp)) q2
end VP
end
section
namespace ML
abbrev Vec := List Int
def nth (u : Vec) (i : Nat) : Int := u.getD i 0
def sub1 (u v : Vec) (c : Int) : Vec := List.zipWith (fun a b => a - b * c) u v
def zv (w : Nat) : Vec := List.replicate w 0
theorem sub1_len {u v : Vec} {c : Int} (h : u.length = v.length) : (sub1 u v c).length = u.length := by simp [sub1, h]
theorem nth_sub1 {u v : Vec} {c : Int} (h : u.length = v.length) (i : Nat) : nth (sub1 u v c) i = nth u i - nth v i * c := by
  unfold nth sub1
  simp only [List.getD_eq_getElem?_getD, List.getElem?_zipWith]
  by_cases hi : i < u.length
  · have hv : i < v.length := by omega
    simp [hi, hv]
  · have hv : ¬ i < v.length := by omega
    simp [hi, hv]
theorem nth_zv {w i : Nat} : nth (zv w) i = 0 := by
  unfold nth zv
  simp only [List.getD_eq_getElem?_getD, List.getElem?_replicate]
  split <;> rfl
theorem nth_ge {u : Vec} {i : Nat} (h : u.length ≤ i) : nth u i = 0 := by
  unfold nth
  simp [List.getD_eq_getElem?_getD, List.getElem?_eq_none h]
theorem nth_get {u : Vec} {i : Nat} (h : i < u.length) : u[i]? = some (nth u i) := by
  unfold nth
  simp [List.getD_eq_getElem?_getD, h]
theorem vext {u v : Vec} (h : u.length = v.length) (e : ∀ i, i < u.length → nth u i = nth v i) : u = v := by
  apply List.ext_getElem?
  intro i
  by_cases hi : i < u.length
  · rw [nth_get hi, nth_get (h ▸ hi), e i hi]
  · rw [List.getElem?_eq_none (by omega), List.getElem?_eq_none (by omega)]
inductive Span (w : Nat) (vs : List Vec) : Vec → Prop where
  | zero : Span w vs (zv w)
  | step {u v : Vec} (c : Int) (h : Span w vs u) (m : v ∈ vs) : Span w vs (sub1 u v c)
def Len (w : Nat) (vs : List Vec) : Prop := ∀ v ∈ vs, v.length = w
section
variable {w : Nat} {vs vs' : List Vec} {u v : Vec}
theorem Span.len (hl : Len w vs) (h : Span w vs u) : u.length = w := by
  induction h with
  | zero => simp [zv]
  | step c h m ih => rw [sub1_len (ih.trans (hl _ m).symm)]; exact ih
theorem sub_zv (h : u.length = w) (c : Int) : sub1 u (zv w) c = u := by
  have hl : u.length = (zv w).length := by simp [zv, h]
  exact vext (sub1_len hl) fun i _ => by rw [nth_sub1 hl, nth_zv]; simp
theorem Span.sub (hl : Len w vs) (hu : Span w vs u) (hv : Span w vs v) (c : Int) : Span w vs (sub1 u v c) := by
  induction hv generalizing c with
  | zero => rw [sub_zv (hu.len hl)]; exact hu
  | @step v' x d hv m ih =>
    have l1 := hu.len hl
    have l2 := hv.len hl
    have l3 := hl _ m
    have e : sub1 u (sub1 v' x d) c = sub1 (sub1 u v' c) x (-(d * c)) := by
      have a1 : v'.length = x.length := l2.trans l3.symm
      have a2 : u.length = (sub1 v' x d).length := by rw [sub1_len a1]; exact l1.trans l2.symm
      have a3 : u.length = v'.length := l1.trans l2.symm
      have a4 : (sub1 u v' c).length = x.length := by rw [sub1_len a3]; exact l1.trans l3.symm
      refine vext (by rw [sub1_len a2, sub1_len a4, sub1_len a3]) fun i _ => ?_
      rw [nth_sub1 a2, nth_sub1 a1, nth_sub1 a4, nth_sub1 a3, Int.sub_mul, Int.mul_neg, Int.mul_assoc]
      omega
    rw [e]
    exact Span.step _ (ih c) m
theorem Span.mem (hl : Len w vs) (m : v ∈ vs) : Span w vs v := by
  have l := hl v m
  have lz : (zv w).length = v.length := by simp [zv, l]
  have e : v = sub1 (zv w) v (-1) := vext (by rw [sub1_len lz, lz]) fun i _ => by
    rw [nth_sub1 lz, nth_zv]
    omega
  rw [e]
  exact Span.step _ .zero m
theorem Span.mono (hl : Len w vs') (h : ∀ v ∈ vs, Span w vs' v) (hu : Span w vs u) : Span w vs' u := by
  induction hu with
  | zero => exact .zero
  | step c _ m ih => exact ih.sub hl (h _ m) c
theorem Span.imp (h : ∀ v ∈ vs, v ∈ vs') (hu : Span w vs u) : Span w vs' u := by
  induction hu with
  | zero => exact .zero
  | step c _ m ih => exact .step c ih (h _ m)
theorem Span.nth0 (hl : Len w vs) {i : Nat} (h : ∀ v ∈ vs, nth v i = 0) (hu : Span w vs u) : nth u i = 0 := by
  induction hu with
  | zero => exact nth_zv
  | step c hu m ih => rw [nth_sub1 ((hu.len hl).trans (hl _ m).symm), ih, h _ m]; simp
theorem span_cons {a : Vec} (hl : Len w (a :: vs)) (h : Span w (a :: vs) v) : ∃ c u, Span w vs u ∧ v = sub1 u a c := by
  have la : a.length = w := hl a (List.mem_cons_self ..)
  have lv : Len w vs := fun x m => hl x (List.mem_cons_of_mem _ m)
  induction h with
  | zero => exact ⟨0, zv w, .zero, vext (by rw [sub1_len (by simp [zv, la])]) fun i _ => by rw [nth_sub1 (by simp [zv, la])]; simp⟩
  | @step x y d hx m ih =>
    obtain ⟨c, u, hu, rfl⟩ := ih
    have lu := hu.len lv
    have a1 : u.length = a.length := lu.trans la.symm
    rcases List.mem_cons.mp m with rfl | m
    · refine ⟨c + d, u, hu, vext ?_ fun i _ => ?_⟩
      · rw [sub1_len (by rw [sub1_len a1]; exact a1), sub1_len a1, sub1_len a1]
      · rw [nth_sub1 (by rw [sub1_len a1]; exact a1), nth_sub1 a1, nth_sub1 a1, Int.mul_add]
        omega
    · have ly : y.length = w := lv _ m
      have a2 : u.length = y.length := lu.trans ly.symm
      have a3 : (sub1 u y d).length = a.length := by rw [sub1_len a2]; exact a1
      refine ⟨c, sub1 u y d, .step d hu m, vext ?_ fun i _ => ?_⟩
      · rw [sub1_len (by rw [sub1_len a1]; exact a2), sub1_len a1, sub1_len a3, sub1_len a2]
      · rw [nth_sub1 (by rw [sub1_len a1]; exact a2), nth_sub1 a1, nth_sub1 a3, nth_sub1 a2]
        omega
end
abbrev Ps := List (Nat × Vec)
def Z (p : Nat) (v : Vec) : Prop := ∀ i, i < p → nth v i = 0
structure Lat (w : Nat) (L : Vec → Prop) : Prop where
  len : ∀ v, L v → v.length = w
  sub : ∀ u v c, L u → L v → L (sub1 u v c)
structure Tri (w : Nat) (L : Vec → Prop) (ps : Ps) : Prop where
  sorted : ps.Pairwise (fun x y => x.1 < y.1)
  row : ∀ p a, (p, a) ∈ ps → p < w ∧ L a ∧ Z p a ∧ nth a p ≠ 0
  div : ∀ p v, p < w → L v → Z p v → (∀ a, (p, a) ∈ ps → nth a p ∣ nth v p) ∧ ((∀ a, (p, a) ∉ ps) → nth v p = 0)
structure Form (w : Nat) (L : Vec → Prop) (ps : Ps) : Prop extends Tri w L ps where
  pos : ∀ p a, (p, a) ∈ ps → 0 < nth a p
  red : ∀ p a q b, (p, a) ∈ ps → (q, b) ∈ ps → p < q → 0 ≤ nth a q ∧ nth a q < nth b q
theorem dvd_eq {a b : Int} (ha : 0 < a) (hb : 0 < b) (h1 : a ∣ b) (h2 : b ∣ a) : a = b := by
  have l1 := Int.le_of_dvd hb h1
  have l2 := Int.le_of_dvd ha h2
  omega
theorem dvd_small {a b : Int} (h : a ∣ b) (hl : b.natAbs < a.natAbs) : b = 0 := by
  obtain ⟨k, rfl⟩ := h
  by_cases hk : k = 0
  · subst hk; simp
  · rw [Int.natAbs_mul] at hl
    have : 1 ≤ k.natAbs := by omega
    have := Nat.mul_le_mul_left a.natAbs this
    omega
section
variable {w : Nat} {L : Vec → Prop} {ps qs : Ps}
theorem Tri.has (t : Tri w L ps) {p : Nat} {v : Vec} (hp : p < w) (hv : L v) (hz : Z p v) (hn : nth v p ≠ 0) : ∃ a, (p, a) ∈ ps := by
  refine Classical.byContradiction fun h => ?_
  exact hn ((t.div p v hp hv hz).2 fun a m => h ⟨a, m⟩)
theorem Form.head (t : Form w L ps) (t' : Form w L qs) {p : Nat} {a b : Vec} (ha : (p, a) ∈ ps) (hb : (p, b) ∈ qs) : nth a p = nth b p := by
  obtain ⟨h1, h2, h3, _⟩ := t.row p a ha
  obtain ⟨_, h5, h6, _⟩ := t'.row p b hb
  exact dvd_eq (t.pos p a ha) (t'.pos p b hb) ((t.div p b h1 h5 h6).1 a ha) ((t'.div p a h1 h2 h3).1 b hb)
theorem Form.same (hL : Lat w L) (t : Form w L ps) (t' : Form w L qs) {p : Nat} {a : Vec} (ha : (p, a) ∈ ps) : (p, a) ∈ qs := by
  obtain ⟨h1, h2, h3, h4⟩ := t.row p a ha
  obtain ⟨b, hb⟩ := t'.toTri.has h1 h2 h3 h4
  obtain ⟨_, h5, h6, h7⟩ := t'.row p b hb
  have la := hL.len a h2
  have lb := hL.len b h5
  have lab : a.length = b.length := la.trans lb.symm
  have hd : L (sub1 a b 1) := hL.sub a b 1 h2 h5
  have z : ∀ n i, i < n → i < w → nth a i = nth b i := by
    intro n
    induction n with
    | zero => intro i hi; omega
    | succ n ih =>
      intro i hi hw
      by_cases hin : i < n
      · exact ih i hin hw
      have hz : Z i (sub1 a b 1) := fun j hj => by rw [nth_sub1 lab, ih j (by omega) (by omega)]; omega
      have ed : nth (sub1 a b 1) i = nth a i - nth b i := by rw [nth_sub1 lab]; omega
      by_cases hip : i < p
      · rw [h3 i hip, h6 i hip]
      by_cases hie : i = p
      · subst hie
        exact t.head t' ha hb
      have hpi : p < i := by omega
      have dv := t.div i _ hw hd hz
      by_cases hc : ∃ c, (i, c) ∈ ps
      · obtain ⟨c, hc⟩ := hc
        obtain ⟨_, k2, k3, k4⟩ := t.row i c hc
        obtain ⟨c', hc'⟩ := t'.toTri.has hw k2 k3 k4
        have e := t.head t' hc hc'
        have r1 := t.red p a i c ha hc hpi
        have r2 := t'.red p b i c' hb hc' hpi
        have := dvd_small (dv.1 c hc) (by rw [ed]; omega)
        omega
      · have := dv.2 fun c m => hc ⟨c, m⟩
        omega
  have : a = b := vext lab fun i hi => z (i + 1) i (by omega) (by omega)
  rw [this]
  exact hb
theorem Form.congr {L' : Vec → Prop} (t : Form w L ps) (h : ∀ v, L v ↔ L' v) : Form w L' ps where
  sorted := t.sorted
  row := fun p a m => by
    obtain ⟨h1, h2, h3⟩ := t.row p a m
    exact ⟨h1, (h a).mp h2, h3⟩
  div := fun p v hp hv hz => t.div p v hp ((h v).mpr hv) hz
  pos := t.pos
  red := t.red
end
section
variable {w : Nat} {L : Vec → Prop} {ps qs : Ps}
end
end ML
end
section
namespace ML
def Bb (e : Nat) (v : Vec) : Prop := ∀ a ∈ v, a.natAbs < 2 ^ e
theorem Bb.mono {e e' : Nat} {v : Vec} (h : Bb e v) (he : e ≤ e') : Bb e' v := fun a m => Nat.lt_of_lt_of_le (h a m) (Nat.pow_le_pow_right (by decide) he)
theorem Bb.nth {e : Nat} {v : Vec} (h : Bb e v) (i : Nat) : (nth v i).natAbs < 2 ^ e := by
  by_cases hi : i < v.length
  · exact h _ (List.mem_of_getElem? (nth_get hi))
  · rw [nth_ge (by omega)]
    exact Nat.two_pow_pos e
theorem mem_sub1 {u v : Vec} {c z : Int} (h : z ∈ sub1 u v c) : ∃ a b, a ∈ u ∧ b ∈ v ∧ z = a - b * c := by
  obtain ⟨i, hi, e⟩ := List.mem_iff_getElem.mp h
  unfold sub1 at hi e
  rw [List.getElem_zipWith] at e
  exact ⟨_, _, List.getElem_mem _, List.getElem_mem _, e.symm⟩
def red (at_ : Nat) (s head : Vec) : Vec := sub1 s head ((nth s at_).fdiv (nth head at_))
theorem fdiv_facts {s h : Int} (hh : 0 < h) : s = h * s.fdiv h + s.fmod h ∧ 0 ≤ s.fmod h ∧ s.fmod h < h ∧ (s.fdiv h).natAbs ≤ s.natAbs := by
  have e := Int.mul_fdiv_add_fmod s h
  have h1 := Int.fmod_nonneg_of_pos s hh
  have h2 := Int.fmod_lt_of_pos s hh
  refine ⟨e.symm, h1, h2, ?_⟩
  generalize s.fdiv h = q at e
  generalize s.fmod h = r at e h1 h2
  by_cases hq : 0 ≤ q
  · have : q * 1 ≤ h * q := by rw [Int.mul_comm h q]; exact Int.mul_le_mul_of_nonneg_left (by omega) hq
    omega
  · have : (-q - 1) * 1 ≤ (-q - 1) * h := Int.mul_le_mul_of_nonneg_left (by omega) (by omega)
    have e2 : (-q - 1) * h = -(h * q) - h := by rw [Int.sub_mul, Int.neg_mul, Int.mul_comm q h]; omega
    omega
theorem fdiv_sign {s h σ : Int} (hσ : σ = 1 ∨ σ = -1) (hh : 0 < σ * h) : 0 ≤ σ * (s - h * s.fdiv h) ∧ σ * (s - h * s.fdiv h) < σ * h ∧ (s.fdiv h).natAbs ≤ s.natAbs := by
  rcases hσ with rfl | rfl
  · have f := fdiv_facts (s := s) (h := h) (by omega)
    refine ⟨by omega, by omega, f.2.2.2⟩
  · have f := fdiv_facts (s := -s) (h := -h) (by omega)
    have e : (-s).fdiv (-h) = s.fdiv h := Int.neg_fdiv_neg _ _
    rw [e] at f
    have e2 : -h * s.fdiv h = -(h * s.fdiv h) := Int.neg_mul _ _
    rw [e2] at f
    refine ⟨by omega, by omega, by have := f.2.2.2; omega⟩
structure Itr (at_ : Nat) (head : Vec) (left rest late rest' : List Vec) : Prop where
  l1 : head ∈ late
  l2 : ∀ r ∈ late, r = head ∨ ∃ s ∈ left, r = red at_ s head ∧ nth r at_ ≠ 0
  l3 : ∀ r ∈ rest', r ∈ rest ∨ ∃ s ∈ left, r = red at_ s head ∧ nth r at_ = 0
  l4 : ∀ s ∈ left, s = head ∨ red at_ s head ∈ late ++ rest'
  l5 : ∀ r ∈ rest, r ∈ rest'
  l6 : late.length + rest'.length ≤ left.length + rest.length
  l7 : ∃ stay, late = head :: stay ∧ ∀ r ∈ stay, ∃ s ∈ left, r = red at_ s head ∧ nth r at_ ≠ 0
def Jn (C : Nat) (z a z' a' : Int) : Prop := z.natAbs * a'.natAbs ≤ C ∧ (0 ≤ z → z' ≤ 0 → z * a' - z' * a ≤ (C : Int)) ∧ (z ≤ 0 → 0 ≤ z' → z' * a - z * a' ≤ (C : Int))
def Ph (at_ e : Nat) (left : List Vec) : Prop := ∃ σ : Int, (σ = 1 ∨ σ = -1) ∧ (∀ r ∈ left, 0 < σ * nth r at_) ∧ ∀ i, ∀ r ∈ left, ∀ s ∈ left, Jn (6 * (2 ^ e * 2 ^ e)) (nth r i) (σ * nth r at_) (nth s i) (σ * nth s at_)
structure Cl (w at_ e : Nat) (rows left rest : List Vec) : Prop where
  lw : Len w (left ++ rest)
  nz : ∀ r ∈ left, nth r at_ ≠ 0
  zr : ∀ r ∈ rest, nth r at_ = 0
  s1 : ∀ r ∈ left ++ rest, Span w rows r
  s2 : ∀ r ∈ rows, Span w (left ++ rest) r
  cnt : left.length + rest.length ≤ rows.length
  bl : (∀ r ∈ left, Bb e r) ∨ Ph at_ e left
  br : ∀ r ∈ rest, Bb (2 * e + 3) r
theorem red_nth {at_ : Nat} {s head : Vec} (h : s.length = head.length) : nth (red at_ s head) at_ = nth s at_ - nth head at_ * (nth s at_).fdiv (nth head at_) := nth_sub1 h at_
theorem six_lt (e : Nat) : 6 * (2 ^ e * 2 ^ e) < 2 ^ (2 * e + 3) := by
  have e1 : 2 ^ (2 * e + 3) = 8 * (2 ^ e * 2 ^ e) := by rw [show 2 * e + 3 = e + e + 3 by omega, Nat.pow_add, Nat.pow_add]; omega
  have e2 : 0 < 2 ^ e * 2 ^ e := Nat.mul_pos (Nat.two_pow_pos e) (Nat.two_pow_pos e)
  omega
theorem bb_of {n : Nat} {v : Vec} (h : ∀ i, (nth v i).natAbs < 2 ^ n) : Bb n v := fun a m => by
  obtain ⟨i, hi, e⟩ := List.mem_iff_getElem.mp m
  have := h i
  have g := nth_get hi
  rw [List.getElem?_eq_getElem hi, e] at g
  rw [Option.some.inj g]
  exact this
structure Low (h : Int) (zh z a z' a' : Int) : Prop where
  q0 : ∃ q : Int, 0 ≤ q ∧ z' = z - q * zh ∧ a = q * h + a'
  a0 : 0 ≤ a'
  ah : a' < h
theorem jn_neg {C : Nat} {z a z' a' : Int} (h : Jn C z a z' a') : Jn C (-z) a (-z') a' := by
  obtain ⟨h1, h2, h3⟩ := h
  refine ⟨by rw [Int.natAbs_neg]; exact h1, fun p q => ?_, fun p q => ?_⟩
  · have := h3 (by omega) (by omega)
    rw [Int.neg_mul, Int.neg_mul]
    omega
  · have := h2 (by omega) (by omega)
    rw [Int.neg_mul, Int.neg_mul]
    omega
theorem nat_of {C : Nat} {x y : Int} (hy : 0 ≤ y) (h1 : x * y ≤ C) (h2 : -x * y ≤ C) : x.natAbs * y.natAbs ≤ C := by
  have e : ((x.natAbs * y.natAbs : Nat) : Int) = (x.natAbs : Int) * y := by
    rw [Int.natCast_mul]
    congr 1
    omega
  have : (x.natAbs : Int) * y ≤ C := by
    rcases Int.le_total 0 x with h | h
    · rw [show (x.natAbs : Int) = x by omega]; exact h1
    · rw [show (x.natAbs : Int) = -x by omega]; exact h2
  omega
theorem of_nat {C : Nat} {x y : Int} (hy : 0 ≤ y) (h : x.natAbs * y.natAbs ≤ C) : x * y ≤ C ∧ -x * y ≤ C := by
  have e : ((x.natAbs * y.natAbs : Nat) : Int) = (x.natAbs : Int) * y := by
    rw [Int.natCast_mul]
    congr 1
    omega
  have h' : (x.natAbs : Int) * y ≤ C := by omega
  have m1 : x * y ≤ (x.natAbs : Int) * y := Int.mul_le_mul_of_nonneg_right (by omega) hy
  have m2 : -x * y ≤ (x.natAbs : Int) * y := Int.mul_le_mul_of_nonneg_right (by omega) hy
  omega
theorem low_head {C : Nat} {h zh z a z' a' : Int} (h0 : 0 < h) (z0 : 0 ≤ zh) (L : Low h zh z a z' a') (J : Jn C z a zh h) (J' : Jn C zh h z a) : z'.natAbs * h.natAbs ≤ C ∧ (z' ≤ 0 → zh * a' - z' * h ≤ (C : Int)) := by
  obtain ⟨⟨q, q0, e1, e2⟩, a0, ah⟩ := L
  have qz : 0 ≤ q * zh := Int.mul_nonneg q0 z0
  have qh : 0 ≤ q * h := Int.mul_nonneg q0 (by omega)
  -- the product with the head does not change
  have det : zh * a' - z' * h = zh * a - z * h := by
    rw [e1, e2, Int.mul_add, Int.sub_mul, Int.mul_assoc q zh h, Int.mul_left_comm zh q h]
    omega
  have j1 := of_nat (by omega : (0 : Int) ≤ h) J.1
  have j2 := of_nat (show (0 : Int) ≤ a by omega) J'.1
  have zha : zh * a' ≤ zh * a := Int.mul_le_mul_of_nonneg_left (by omega) z0
  have zha0 : 0 ≤ zh * a' := Int.mul_nonneg z0 a0
  have key : z' ≤ 0 → zh * a' - z' * h ≤ (C : Int) := fun hz' => by
    rw [det]
    rcases Int.le_total z 0 with hz | hz
    · exact J'.2.1 z0 hz
    · have : 0 ≤ z * h := Int.mul_nonneg hz (by omega)
      omega
  refine ⟨nat_of (by omega) ?_ ?_, key⟩
  · rcases Int.le_total z' 0 with hz' | hz'
    · have : z' * h ≤ 0 := Int.mul_nonpos_of_nonpos_of_nonneg hz' (by omega)
      omega
    · have : z' * h ≤ z * h := Int.mul_le_mul_of_nonneg_right (by omega) (by omega)
      omega
  · rcases Int.le_total z' 0 with hz' | hz'
    · have := key hz'
      rw [Int.neg_mul]
      omega
    · have : 0 ≤ z' * h := Int.mul_nonneg hz' (by omega)
      rw [Int.neg_mul]
      omega
theorem low_two {C : Nat} {h zh z a z' a' y b y' b' : Int} (h0 : 0 < h) (z0 : 0 ≤ zh) (L : Low h zh z a z' a') (M : Low h zh y b y' b') (Jy : Jn C y b zh h) (Jy' : Jn C zh h y b) (J : Jn C z a y b) (hz : 0 ≤ z') (hy : y' ≤ 0) : z' * b' - y' * a' ≤ (C : Int) := by
  have K := (low_head h0 z0 M Jy Jy').2 hy
  obtain ⟨⟨q, q0, e1, e2⟩, a0, ah⟩ := L
  obtain ⟨⟨p, p0, f1, f2⟩, b0, bh⟩ := M
  have qz : 0 ≤ q * zh := Int.mul_nonneg q0 z0
  rcases Int.le_total (z' * h) (zh * a') with c | c
  · -- T h ≤ C a'
    have t1 : z' * h * b' ≤ zh * a' * b' := Int.mul_le_mul_of_nonneg_right c b0
    have t2 : (zh * b' - y' * h) * a' ≤ C * a' := Int.mul_le_mul_of_nonneg_right K a0
    have t3 : (C : Int) * a' ≤ C * h := Int.mul_le_mul_of_nonneg_left (by omega) (by omega)
    have e3 : (z' * b' - y' * a') * h = z' * h * b' - y' * h * a' := by
      rw [Int.sub_mul, Int.mul_right_comm z' b' h, Int.mul_right_comm y' a' h]
    have e4 : (zh * b' - y' * h) * a' = zh * a' * b' - y' * h * a' := by
      rw [Int.sub_mul, Int.mul_right_comm zh b' a']
    have t4 : (z' * b' - y' * a') * h ≤ C * h := by omega
    exact Int.le_of_mul_le_mul_right t4 h0
  · -- the product with the head is not below 0
    have d1 : 0 ≤ z' * h - zh * a' := by omega
    have d2 : 0 ≤ zh * b' - y' * h := by
      have : 0 ≤ zh * b' := Int.mul_nonneg z0 b0
      have : y' * h ≤ 0 := Int.mul_nonpos_of_nonpos_of_nonneg hy (by omega)
      omega
    have m1 : 0 ≤ p * (z' * h - zh * a') := Int.mul_nonneg p0 d1
    have m2 : 0 ≤ q * (zh * b' - y' * h) := Int.mul_nonneg q0 d2
    have ez : z = z' + q * zh := by omega
    have ey : y = y' + p * zh := by omega
    have e5 : z * b - y * a = z' * b' - y' * a' + p * (z' * h - zh * a') + q * (zh * b' - y' * h) := by
      rw [ez, ey, e2, f2]
      simp only [Int.add_mul, Int.mul_add, Int.mul_sub, Int.sub_mul]
      have x1 : z' * (p * h) = p * (z' * h) := Int.mul_left_comm ..
      have x2 : q * zh * (p * h) = p * zh * (q * h) := by
        rw [Int.mul_assoc, Int.mul_assoc, Int.mul_left_comm zh p h, Int.mul_left_comm q p, Int.mul_left_comm zh q h]
      have x3 : y' * (q * h) = q * (y' * h) := Int.mul_left_comm ..
      have x4 : q * zh * b' = q * (zh * b') := Int.mul_assoc ..
      have x5 : p * zh * a' = p * (zh * a') := Int.mul_assoc ..
      omega
    have zz : 0 ≤ z := by omega
    have T : z * b - y * a ≤ C := by
      rcases Int.le_total y 0 with hy0 | hy0
      · exact J.2.1 zz hy0
      · have h1 := (of_nat (show (0 : Int) ≤ b by have := Int.mul_nonneg p0 (show (0 : Int) ≤ h by omega); omega) J.1).1
        have : 0 ≤ y * a := Int.mul_nonneg hy0 (by have := Int.mul_nonneg q0 (show (0 : Int) ≤ h by omega); omega)
        omega
    omega
theorem jn_two {C : Nat} {h zh z a z' a' y b y' b' : Int} (h0 : 0 < h) (L : Low h zh z a z' a') (M : Low h zh y b y' b') (Jz : Jn C z a zh h) (Jz' : Jn C zh h z a) (Jy : Jn C y b zh h) (Jy' : Jn C zh h y b) (J : Jn C z a y b) (J' : Jn C y b z a) :
    z'.natAbs * h.natAbs ≤ C ∧ Jn C z' a' y' b' ∧ Jn C zh h z' a' ∧ Jn C z' a' zh h := by
  have gen : ∀ {zh z z' y y' : Int}, 0 ≤ zh → Low h zh z a z' a' → Low h zh y b y' b' → Jn C z a zh h → Jn C zh h z a → Jn C y b zh h → Jn C zh h y b → Jn C z a y b → Jn C y b z a →
      z'.natAbs * h.natAbs ≤ C ∧ Jn C z' a' y' b' ∧ Jn C zh h z' a' ∧ Jn C z' a' zh h := by
    intro zh z z' y y' z0 L M Jz Jz' Jy Jy' J J'
    obtain ⟨k1, k2⟩ := low_head h0 z0 L Jz Jz'
    have bb := M.ah
    have b0 := M.a0
    have a0 := L.a0
    have ah := L.ah
    have aa : a'.natAbs ≤ a.natAbs := by
      obtain ⟨q, q0, _, e2⟩ := L.q0
      have := Int.mul_nonneg q0 (show (0 : Int) ≤ h by omega)
      omega
    have zero : zh ≤ 0 → zh = 0 := fun h => by omega
    refine ⟨k1, ⟨Nat.le_trans (Nat.mul_le_mul_left _ (by omega)) k1, fun p q => low_two h0 z0 L M Jy Jy' J p q, fun p q => low_two h0 z0 M L Jz Jz' J' q p⟩, ⟨Nat.le_trans (Nat.mul_le_mul_left _ aa) Jz'.1, fun _ q => k2 q, fun p q => ?_⟩, ⟨k1, fun p q => ?_, fun p q => k2 p⟩⟩
    · rw [zero p, Int.zero_mul, Int.sub_zero]
      exact (of_nat (by omega) k1).1
    · rw [zero q, Int.zero_mul, Int.sub_zero]
      exact (of_nat (by omega) k1).1
  rcases Int.le_total 0 zh with z0 | z0
  · exact gen z0 L M Jz Jz' Jy Jy' J J'
  · have neg : ∀ {z a z' a' : Int}, Low h zh z a z' a' → Low h (-zh) (-z) a (-z') a' := fun L => ⟨by
      obtain ⟨q, q0, e1, e2⟩ := L.q0
      exact ⟨q, q0, by rw [e1, Int.mul_neg]; omega, e2⟩, L.a0, L.ah⟩
    have := gen (by omega : 0 ≤ -zh) (neg L) (neg M) (jn_neg Jz) (jn_neg Jz') (jn_neg Jy) (jn_neg Jy') (jn_neg J) (jn_neg J')
    obtain ⟨g1, g2, g3, g4⟩ := this
    have n2 := jn_neg g2
    have n3 := jn_neg g3
    have n4 := jn_neg g4
    simp only [Int.neg_neg] at n2 n3 n4
    rw [Int.natAbs_neg] at g1
    exact ⟨g1, n2, n3, n4⟩
theorem first_z {B : Nat} {h zh z a : Int} {q : Int} (h0 : 0 < h) (hz : z.natAbs ≤ B) (hzh : zh.natAbs ≤ B) (ha : a.natAbs ≤ B) (hh : h.natAbs ≤ a.natAbs) (h1 : 0 ≤ a - q * h) (h2 : a - q * h < h) : (z - q * zh).natAbs * h.natAbs ≤ 3 * (B * B) := by
  have q1 : q.natAbs * h.natAbs ≤ 2 * B := by
    rw [← Int.natAbs_mul]
    omega
  have t1 : (z - q * zh).natAbs ≤ z.natAbs + q.natAbs * zh.natAbs := by
    have := Int.natAbs_sub_le z (q * zh)
    rw [Int.natAbs_mul] at this
    exact this
  have t2 : (z - q * zh).natAbs * h.natAbs ≤ (z.natAbs + q.natAbs * zh.natAbs) * h.natAbs := Nat.mul_le_mul_right _ t1
  have t3 : z.natAbs * h.natAbs ≤ B * B := Nat.mul_le_mul hz (by omega)
  have t4 : q.natAbs * zh.natAbs * h.natAbs ≤ 2 * B * B := by
    rw [Nat.mul_right_comm]
    exact Nat.mul_le_mul q1 hzh
  have t5 : 2 * B * B = 2 * (B * B) := Nat.mul_assoc ..
  rw [Nat.add_mul] at t2
  omega
theorem jn_of {K : Nat} {h z a z' a' : Int} (ha : 0 ≤ a) (hah : a ≤ h) (ha' : 0 ≤ a') (hah' : a' ≤ h) (h1 : z.natAbs * h.natAbs ≤ K) (h2 : z'.natAbs * h.natAbs ≤ K) : Jn (2 * K) z a z' a' := by
  have b1 : z.natAbs * a'.natAbs ≤ K := Nat.le_trans (Nat.mul_le_mul_left _ (by omega)) h1
  have b2 : z'.natAbs * a.natAbs ≤ K := Nat.le_trans (Nat.mul_le_mul_left _ (by omega)) h2
  have c1 := of_nat ha' b1
  have c2 := of_nat ha b2
  refine ⟨by omega, fun _ _ => ?_, fun _ _ => ?_⟩
  · have : -z' * a = -(z' * a) := Int.neg_mul ..
    omega
  · have : -z * a' = -(z * a') := Int.neg_mul ..
    omega
theorem Cl.step {w at_ e : Nat} {rows left rest late rest' : List Vec} {head : Vec} (hr : Len w rows) (c : Cl w at_ e rows left rest) (hm : head ∈ left) (hl : ∀ s ∈ left, (nth head at_).natAbs ≤ (nth s at_).natAbs) (I : Itr at_ head left rest late rest') : Cl w at_ e rows late rest' := by
  have lh : head.length = w := c.lw head (List.mem_append_left _ hm)
  have ls : ∀ s ∈ left, s.length = head.length := fun s m => (c.lw s (List.mem_append_left _ m)).trans lh.symm
  have lr : ∀ s ∈ left, (red at_ s head).length = w := fun s m => (sub1_len (ls s m)).trans ((ls s m).trans lh)
  have sr : ∀ s ∈ left, Span w rows (red at_ s head) := fun s m => (c.s1 s (List.mem_append_left _ m)).sub hr (c.s1 head (List.mem_append_left _ hm)) _
  have LW : Len w (late ++ rest') := fun r m => by
    rcases List.mem_append.mp m with m | m
    · rcases I.l2 r m with rfl | ⟨s, hs, rfl, _⟩
      · exact lh
      · exact lr s hs
    · rcases I.l3 r m with m | ⟨s, hs, rfl, _⟩
      · exact c.lw r (List.mem_append_right _ m)
      · exact lr s hs
  have nzh := c.nz head hm
  obtain ⟨σ0, hσ0, hp0⟩ : ∃ σ : Int, (σ = 1 ∨ σ = -1) ∧ 0 < σ * nth head at_ := by
    by_cases h : 0 < nth head at_
    · exact ⟨1, .inl rfl, by omega⟩
    · exact ⟨-1, .inr rfl, by omega⟩
  refine ⟨LW, fun r m => ?_, fun r m => ?_, fun r m => ?_, fun r m => ?_, Nat.le_trans I.l6 c.cnt, ?_, fun r m => ?_⟩
  · rcases I.l2 r m with rfl | ⟨s, hs, _, h⟩
    · exact nzh
    · exact h
  · rcases I.l3 r m with m | ⟨s, hs, _, h⟩
    · exact c.zr r m
    · exact h
  · rcases List.mem_append.mp m with m | m
    · rcases I.l2 r m with rfl | ⟨s, hs, rfl, _⟩
      · exact c.s1 _ (List.mem_append_left _ hm)
      · exact sr s hs
    · rcases I.l3 r m with m | ⟨s, hs, rfl, _⟩
      · exact c.s1 r (List.mem_append_right _ m)
      · exact sr s hs
  · refine Span.mono LW (fun v mv => ?_) (c.s2 r m)
    have hS : Span w (late ++ rest') head := Span.mem LW (List.mem_append_left _ I.l1)
    rcases List.mem_append.mp mv with mv | mv
    · rcases I.l4 v mv with rfl | h
      · exact hS
      · have := (Span.mem LW h).sub LW hS (-((nth v at_).fdiv (nth head at_)))
        have e1 : sub1 (red at_ v head) head (-((nth v at_).fdiv (nth head at_))) = v := by
          have lv := ls v mv
          refine vext (by rw [sub1_len ((lr v mv).trans lh.symm), lr v mv]; exact (lv.trans lh).symm) fun i _ => ?_
          rw [nth_sub1 ((lr v mv).trans lh.symm)]
          unfold red
          rw [nth_sub1 lv, Int.mul_neg]
          omega
        rw [e1] at this
        exact this
    · exact Span.mem LW (List.mem_append_right _ (I.l5 v mv))
  · right
    -- the quotients
    have quo : ∀ {σ : Int}, (σ = 1 ∨ σ = -1) → 0 < σ * nth head at_ → ∀ s ∈ left, ∃ q : Int, (∀ i, nth (red at_ s head) i = nth s i - q * nth head i) ∧ 0 ≤ σ * nth s at_ - q * (σ * nth head at_) ∧ σ * nth s at_ - q * (σ * nth head at_) < σ * nth head at_ := fun {σ} hσ hp s hs => by
      have f := fdiv_sign (s := nth s at_) hσ hp
      refine ⟨(nth s at_).fdiv (nth head at_), fun i => by unfold red; rw [nth_sub1 (ls s hs), Int.mul_comm], ?_, ?_⟩
      · have e : σ * nth s at_ - (nth s at_).fdiv (nth head at_) * (σ * nth head at_) = σ * (nth s at_ - nth head at_ * (nth s at_).fdiv (nth head at_)) := by
          rw [Int.mul_sub, ← Int.mul_assoc σ, Int.mul_comm (σ * nth head at_)]
        rw [e]
        exact f.1
      · have e : σ * nth s at_ - (nth s at_).fdiv (nth head at_) * (σ * nth head at_) = σ * (nth s at_ - nth head at_ * (nth s at_).fdiv (nth head at_)) := by
          rw [Int.mul_sub, ← Int.mul_assoc σ, Int.mul_comm (σ * nth head at_)]
        rw [e]
        exact f.2.1
    have mulq : ∀ (σ x q y : Int), σ * (x - q * y) = σ * x - q * (σ * y) := fun σ x q y => by rw [Int.mul_sub, Int.mul_left_comm]
    rcases c.bl with b1 | ⟨σ, hσ, hp, hJ⟩
    · refine ⟨σ0, hσ0, fun r m => ?_, fun i r m s ms => ?_⟩
      · rcases I.l2 r m with rfl | ⟨s, hs, rfl, hn⟩
        · exact hp0
        · obtain ⟨q, e1, e2, e3⟩ := quo hσ0 hp0 s hs
          rw [e1, mulq] at *
          have : σ0 * nth s at_ - q * (σ0 * nth head at_) ≠ 0 := by
            rw [← mulq]
            rcases hσ0 with rfl | rfl <;> omega
          omega
      · have B : ∀ t ∈ left, ∀ i, (nth t i).natAbs ≤ 2 ^ e := fun t mt i => Nat.le_of_lt ((b1 t mt).nth i)
        have ab : ∀ t : Vec, (σ0 * nth t at_).natAbs = (nth t at_).natAbs := fun t => by rcases hσ0 with rfl | rfl <;> omega
        have one : ∀ r ∈ late, 0 ≤ σ0 * nth r at_ ∧ σ0 * nth r at_ ≤ σ0 * nth head at_ ∧ (nth r i).natAbs * (σ0 * nth head at_).natAbs ≤ 3 * (2 ^ e * 2 ^ e) := fun r m => by
          rcases I.l2 r m with rfl | ⟨s, hs, rfl, hn⟩
          · refine ⟨by omega, Int.le_refl _, ?_⟩
            have := Nat.mul_le_mul (B r hm i) (B r hm at_)
            rw [ab]
            omega
          · obtain ⟨q, e1, e2, e3⟩ := quo hσ0 hp0 s hs
            rw [e1, e1, mulq]
            refine ⟨e2, by omega, first_z hp0 (B s hs i) (B head hm i) (by rw [ab]; exact B s hs at_) (by rw [ab, ab]; exact hl s hs) e2 e3⟩
        obtain ⟨r1, r2, r3⟩ := one r m
        obtain ⟨s1, s2, s3⟩ := one s ms
        have := jn_of r1 r2 s1 s2 r3 s3
        rw [show 2 * (3 * (2 ^ e * 2 ^ e)) = 6 * (2 ^ e * 2 ^ e) by omega] at this
        exact this
    · have hh := hp head hm
      have low : ∀ s ∈ left, ∀ i, Low (σ * nth head at_) (nth head i) (nth s i) (σ * nth s at_) (nth (red at_ s head) i) (σ * nth (red at_ s head) at_) := fun s hs i => by
        obtain ⟨q, e1, e2, e3⟩ := quo hσ hh s hs
        refine ⟨⟨q, ?_, e1 i, ?_⟩, ?_, ?_⟩
        · refine Classical.byContradiction fun hn => ?_
          have h1 := hp s hs
          have h2 := hl s hs
          have : q * (σ * nth head at_) ≤ -1 * (σ * nth head at_) := Int.mul_le_mul_of_nonneg_right (by omega) (by omega)
          have a1 : (σ * nth head at_).natAbs = (nth head at_).natAbs := by rcases hσ with rfl | rfl <;> omega
          have a2 : (σ * nth s at_).natAbs = (nth s at_).natAbs := by rcases hσ with rfl | rfl <;> omega
          omega
        · rw [e1, mulq]; omega
        · rw [e1, mulq]; exact e2
        · rw [e1, mulq]; exact e3
      have J2 : ∀ s ∈ left, ∀ t ∈ left, ∀ i, _ := fun s hs t ht i => jn_two hh (low s hs i) (low t ht i) (hJ i s hs head hm) (hJ i head hm s hs) (hJ i t ht head hm) (hJ i head hm t ht) (hJ i s hs t ht) (hJ i t ht s hs)
      refine ⟨σ, hσ, fun r m => ?_, fun i r m s ms => ?_⟩
      · rcases I.l2 r m with rfl | ⟨s, hs, rfl, hn⟩
        · exact hh
        · have h1 := (low s hs at_).a0
          have : σ * nth (red at_ s head) at_ ≠ 0 := by rcases hσ with rfl | rfl <;> omega
          omega
      · rcases I.l2 r m with rfl | ⟨r', hr', rfl, _⟩
        · rcases I.l2 s ms with rfl | ⟨s', hs', rfl, _⟩
          · exact hJ i _ hm _ hm
          · exact (J2 s' hs' s' hs' i).2.2.1
        · rcases I.l2 s ms with rfl | ⟨s', hs', rfl, _⟩
          · exact (J2 r' hr' r' hr' i).2.2.2
          · exact (J2 r' hr' s' hs' i).2.1
  · rcases I.l3 r m with m | ⟨s, hs, rfl, hz⟩
    · exact c.br r m
    · have six := six_lt e
      have fd := fun {σ : Int} (hσ : σ = 1 ∨ σ = -1) (hp : 0 < σ * nth head at_) => fdiv_sign (s := nth s at_) hσ hp
      have mulq : ∀ (σ x q y : Int), σ * (x - q * y) = σ * x - q * (σ * y) := fun σ x q y => by rw [Int.mul_sub, Int.mul_left_comm]
      have quo : ∀ {σ : Int}, (σ = 1 ∨ σ = -1) → 0 < σ * nth head at_ → ∃ q : Int, (∀ i, nth (red at_ s head) i = nth s i - q * nth head i) ∧ 0 ≤ σ * nth s at_ - q * (σ * nth head at_) ∧ σ * nth s at_ - q * (σ * nth head at_) < σ * nth head at_ := fun {σ} hσ hp => by
        have f := fd hσ hp
        have e : σ * nth s at_ - (nth s at_).fdiv (nth head at_) * (σ * nth head at_) = σ * (nth s at_ - nth head at_ * (nth s at_).fdiv (nth head at_)) := by
          rw [Int.mul_sub, ← Int.mul_assoc σ, Int.mul_comm (σ * nth head at_)]
        exact ⟨(nth s at_).fdiv (nth head at_), fun i => by unfold red; rw [nth_sub1 (ls s hs), Int.mul_comm], by rw [e]; exact f.1, by rw [e]; exact f.2.1⟩
      have fin : ∀ {h : Int}, 0 < h → (∀ i, (nth (red at_ s head) i).natAbs * h.natAbs ≤ 6 * (2 ^ e * 2 ^ e)) → Bb (2 * e + 3) (red at_ s head) := fun {h} h0 hb => bb_of fun i => by
        have h1 := hb i
        have h3 : (nth (red at_ s head) i).natAbs * 1 ≤ (nth (red at_ s head) i).natAbs * h.natAbs := Nat.mul_le_mul_left _ (by omega)
        omega
      rcases c.bl with b1 | ⟨σ, hσ, hp, hJ⟩
      · obtain ⟨q, e1, e2, e3⟩ := quo hσ0 hp0
        have B : ∀ t ∈ left, ∀ i, (nth t i).natAbs ≤ 2 ^ e := fun t mt i => Nat.le_of_lt ((b1 t mt).nth i)
        have ab : ∀ t : Vec, (σ0 * nth t at_).natAbs = (nth t at_).natAbs := fun t => by rcases hσ0 with rfl | rfl <;> omega
        refine fin hp0 fun i => ?_
        rw [e1]
        have := first_z hp0 (B s hs i) (B head hm i) (by rw [ab]; exact B s hs at_) (by rw [ab, ab]; exact hl s hs) e2 e3
        omega
      · have hh := hp head hm
        obtain ⟨q, e1, e2, e3⟩ := quo hσ hh
        have low : ∀ i, Low (σ * nth head at_) (nth head i) (nth s i) (σ * nth s at_) (nth (red at_ s head) i) (σ * nth (red at_ s head) at_) := fun i => by
          refine ⟨⟨q, ?_, e1 i, ?_⟩, ?_, ?_⟩
          · refine Classical.byContradiction fun hn => ?_
            have h1 := hp s hs
            have h2 := hl s hs
            have : q * (σ * nth head at_) ≤ -1 * (σ * nth head at_) := Int.mul_le_mul_of_nonneg_right (by omega) (by omega)
            have a1 : (σ * nth head at_).natAbs = (nth head at_).natAbs := by rcases hσ with rfl | rfl <;> omega
            have a2 : (σ * nth s at_).natAbs = (nth s at_).natAbs := by rcases hσ with rfl | rfl <;> omega
            omega
          · rw [e1, mulq]; omega
          · rw [e1, mulq]; exact e2
          · rw [e1, mulq]; exact e3
        exact fin hh fun i => (jn_two hh (low i) (low i) (hJ i s hs head hm) (hJ i head hm s hs) (hJ i s hs head hm) (hJ i head hm s hs) (hJ i s hs s hs) (hJ i s hs s hs)).1
theorem Itr.less {w at_ e : Nat} {rows left rest late rest' : List Vec} {head : Vec} (c : Cl w at_ e rows left rest) (hm : head ∈ left) (I : Itr at_ head left rest late rest') (h : 1 < late.length) : ∃ r ∈ late, (nth r at_).natAbs < (nth head at_).natAbs := by
  obtain ⟨stay, rfl, hs⟩ := I.l7
  have nzh := c.nz head hm
  obtain ⟨σ0, hσ0, hp0⟩ : ∃ σ : Int, (σ = 1 ∨ σ = -1) ∧ 0 < σ * nth head at_ := by
    by_cases h : 0 < nth head at_
    · exact ⟨1, .inl rfl, by omega⟩
    · exact ⟨-1, .inr rfl, by omega⟩
  cases stay with
  | nil => simp at h
  | cons r stay =>
    obtain ⟨s, hms, rfl, hn⟩ := hs r (List.mem_cons_self ..)
    refine ⟨_, List.mem_cons_of_mem _ (List.mem_cons_self ..), ?_⟩
    have ls : s.length = head.length := (c.lw s (List.mem_append_left _ hms)).trans (c.lw head (List.mem_append_left _ hm)).symm
    have f := fdiv_sign (s := nth s at_) hσ0 hp0
    rw [red_nth ls]
    rw [red_nth ls] at hn
    rcases hσ0 with rfl | rfl <;> omega
end ML
end
section
namespace VP
open VM ML
theorem comp_of {α : Type} {g : TG} {t : TT} {e : TE} {own : List Nat} {stay : Store → Prop} {ρ : Env} {k : List PV → Store → Prop} {st : Store} (enc : α → PV) (f : α → Option PV) (hst : stay st) (ys : List α)
    (h : ∀ y ∈ ys, ∀ k' : Option PV → Store → Prop, k' (f y) st → turn g t e ρ st (enc y) k') (hl : ys.length ≤ SZ) (hk : k (ys.filterMap f) st) : compGo g t e own stay (ys.map enc) [] ρ st k := by
  have key : ∀ (ys : List α) (acc : List PV), (∀ y ∈ ys, ∀ k' : Option PV → Store → Prop, k' (f y) st → turn g t e ρ st (enc y) k') → acc.length + ys.length ≤ SZ → k (acc ++ ys.filterMap f) st → compGo g t e own stay (ys.map enc) acc ρ st k := by
    intro ys
    induction ys with
    | nil =>
      intro acc _ _ hk
      rw [List.filterMap_nil, List.append_nil] at hk
      exact ⟨hst, hk⟩
    | cons y ys ih =>
      intro acc h hl hk
      rw [List.length_cons] at hl
      rw [List.map_cons]
      unfold compGo
      refine ⟨hst, ?_⟩
      have hr : ∀ y ∈ ys, ∀ k' : Option PV → Store → Prop, k' (f y) st → turn g t e ρ st (enc y) k' := fun x m => h x (List.mem_cons_of_mem _ m)
      refine h y (List.mem_cons_self ..) (fun o st => match o with | some y => acc.length < SZ ∧ compGo g t e own stay (ys.map enc) (acc ++ [y]) ρ st k | none => compGo g t e own stay (ys.map enc) acc ρ st k) ?_
      cases e1 : f y with
      | none =>
        rw [List.filterMap_cons_none e1] at hk
        exact ih acc hr (by omega) hk
      | some z =>
        rw [List.filterMap_cons_some e1] at hk
        refine ⟨by omega, ih (acc ++ [z]) hr (by rw [List.length_append, List.length_singleton]; omega) ?_⟩
        rw [List.append_assoc]
        exact hk
  exact key ys [] h (by simpa using hl) hk
abbrev rl (rows : List Vec) : PV := .lst (rows.map ilst)
end VP
end
section
namespace VP
open VM
def Sm : Nat → PV → Prop
  | _, .non => True
  | _, .bl _ => True
  | _, .int _ => True
  | _, .str _ => True
  | n + 1, .lst xs => xs.length ≤ SZ ∧ ∀ x ∈ xs, Sm n x
  | n + 1, .tup xs => xs.length ≤ SZ ∧ ∀ x ∈ xs, Sm n x
  | _, _ => False
def SpSame (n : Nat) (cs : CS) : Prop := ∀ (y : PV) (st : Store) (k x : KV), Sm n y → k (.bl true) st → cs 16 [y, y] st k x
theorem all_true (n : Nat) : allBl (List.replicate n (PV.bl true)) = some (List.replicate n true) := by
  induction n with
  | zero => rfl
  | succ n ih => rw [List.replicate_succ, allBl, ih]; rfl
theorem all_true2 (n : Nat) : (List.replicate n true).all id = true := by
  induction n with
  | zero => rfl
  | succ n ih => rw [List.replicate_succ, List.all_cons, ih]; rfl
theorem zip_self (xs : List PV) : List.zipWith (fun x y => PV.tup [x, y]) xs xs = xs.map fun x => PV.tup [x, x] := by
  induction xs with
  | nil => rfl
  | cons x xs ih => simp [ih]
theorem same_at {FT : Nat → Option FD} (hF : FT 16 = some ⟨2, 4, T__law_same⟩) : ∀ n, At FT (n + 1) (SpSame n) := by
  intro n
  induction n with
  | zero =>
    refine at_of (C := fun _ => True) hF (fun _ _ => trivial) fun cs cs' _ go => ?_
    intro y st k x hy hk
    refine go _ _ _ _ rfl ?_
    cases y <;> first | (exact hy.elim) | (simp [T__law_same, VM.sNil, VM.sCons, VM.sSet, VM.sPar, VM.sSetIx, VM.setIx, VM.sExpr, VM.sRet, VM.sRetN, VM.sIf, VM.sBreak, VM.sCont, VM.sFor, VM.gName, VM.gTup, VM.gEach, VM.eVar, VM.eC, VM.eBin, VM.eNeg, VM.eCmp, VM.eChain, VM.tOf, VM.tCmp, VM.tChain, VM.tAnd, VM.tOr, VM.tNot, VM.tYes, VM.eTest, VM.eAnd, VM.eOr, VM.eNot, VM.eIf, VM.aNil, VM.aCons, VM.eLst, VM.eLstM, VM.eTup, VM.eCall, VM.eIx, VM.getIx, VM.eSl, VM.getSl, VM.iE, VM.iRange1, VM.iRange2, VM.iZip, VM.iRev, VM.eComp, VM.eCompM, VM.eAppend, VM.eInsert, VM.eB1, VM.fLen, VM.fAbs, VM.fInt, VM.fList, VM.fListM, VM.fTuple, VM.fSum, VM.fAll, VM.fAny, VM.fIsi, VM.bLen, VM.seqOf, VM.sq, VM.asL, VM.items, VM.isSeq, VM.truth, VM.opBin, VM.opAdd, VM.opSub, VM.opMul, VM.opFdiv, VM.opMod, VM.opPow, VM.opCm, VM.opEq, VM.frz, VM.isD, VM.eqv, VM.isNon, VM.kdOf, VM.D0, VM.turn, List.map_cons, List.map_nil, List.replicate_succ, List.replicate_zero, List.cons_append, List.nil_append, List.getElem?_cons_zero, List.getElem?_cons_succ, List.set_cons_zero, List.set_cons_succ, Nat.reduceSub, VM.wipe, List.length_cons, List.length_nil, Nat.reduceAdd, kdIs]; exact hk)
  | succ n ih =>
    refine at_of hF ih fun cs cs' ih go => ?_
    intro y st k x hy hk
    refine go _ _ _ _ rfl ?_
    cases y <;> first | (exact hy.elim) | (simp [T__law_same, VM.sNil, VM.sCons, VM.sSet, VM.sPar, VM.sSetIx, VM.setIx, VM.sExpr, VM.sRet, VM.sRetN, VM.sIf, VM.sBreak, VM.sCont, VM.sFor, VM.gName, VM.gTup, VM.gEach, VM.eVar, VM.eC, VM.eBin, VM.eNeg, VM.eCmp, VM.eChain, VM.tOf, VM.tCmp, VM.tChain, VM.tAnd, VM.tOr, VM.tNot, VM.tYes, VM.eTest, VM.eAnd, VM.eOr, VM.eNot, VM.eIf, VM.aNil, VM.aCons, VM.eLst, VM.eLstM, VM.eTup, VM.eCall, VM.eIx, VM.getIx, VM.eSl, VM.getSl, VM.iE, VM.iRange1, VM.iRange2, VM.iZip, VM.iRev, VM.eComp, VM.eCompM, VM.eAppend, VM.eInsert, VM.eB1, VM.fLen, VM.fAbs, VM.fInt, VM.fList, VM.fListM, VM.fTuple, VM.fSum, VM.fAll, VM.fAny, VM.fIsi, VM.bLen, VM.seqOf, VM.sq, VM.asL, VM.items, VM.isSeq, VM.truth, VM.opBin, VM.opAdd, VM.opSub, VM.opMul, VM.opFdiv, VM.opMod, VM.opPow, VM.opCm, VM.opEq, VM.frz, VM.isD, VM.eqv, VM.isNon, VM.kdOf, VM.D0, VM.turn, List.map_cons, List.map_nil, List.replicate_succ, List.replicate_zero, List.cons_append, List.nil_append, List.getElem?_cons_zero, List.getElem?_cons_succ, List.set_cons_zero, List.set_cons_succ, Nat.reduceSub, VM.wipe, List.length_cons, List.length_nil, Nat.reduceAdd, kdIs]; exact hk) | skip
    · rename_i xs
      obtain ⟨h1, h2⟩ := hy
      have fin : compGo (gTup [gName 2, gName 3]) tYes (eCall cs 16 (aCons (eVar 2) (aCons (eVar 3) aNil))) [2, 3] (fun st' => stays st (.tup xs) st' ∧ stays st (.tup xs) st') (List.zipWith (fun x y => PV.tup [x, y]) xs xs) [] [some (.tup xs), some (.tup xs), none, none] st
          (fun ys st => match allBl ys with | some bs => k (.bl (bs.all id)) st | none => False) := by
        rw [zip_self]
        refine comp_of (fun z => PV.tup [z, z]) (fun _ => some (.bl true)) ⟨trivial, trivial⟩ xs (fun z hz k' hk' => ?_) h1 ?_
        · simp only [VM.sNil, VM.sCons, VM.sSet, VM.sPar, VM.sSetIx, VM.setIx, VM.sExpr, VM.sRet, VM.sRetN, VM.sIf, VM.sBreak, VM.sCont, VM.sFor, VM.gName, VM.gTup, VM.gEach, VM.eVar, VM.eC, VM.eBin, VM.eNeg, VM.eCmp, VM.eChain, VM.tOf, VM.tCmp, VM.tChain, VM.tAnd, VM.tOr, VM.tNot, VM.tYes, VM.eTest, VM.eAnd, VM.eOr, VM.eNot, VM.eIf, VM.aNil, VM.aCons, VM.eLst, VM.eLstM, VM.eTup, VM.eCall, VM.eIx, VM.getIx, VM.eSl, VM.getSl, VM.iE, VM.iRange1, VM.iRange2, VM.iZip, VM.iRev, VM.eComp, VM.eCompM, VM.eAppend, VM.eInsert, VM.eB1, VM.fLen, VM.fAbs, VM.fInt, VM.fList, VM.fListM, VM.fTuple, VM.fSum, VM.fAll, VM.fAny, VM.fIsi, VM.bLen, VM.seqOf, VM.sq, VM.asL, VM.items, VM.isSeq, VM.truth, VM.opBin, VM.opAdd, VM.opSub, VM.opMul, VM.opFdiv, VM.opMod, VM.opPow, VM.opCm, VM.opEq, VM.frz, VM.isD, VM.eqv, VM.isNon, VM.kdOf, VM.D0, VM.turn, List.map_cons, List.map_nil, List.replicate_succ, List.replicate_zero, List.cons_append, List.nil_append, List.getElem?_cons_zero, List.getElem?_cons_succ, List.set_cons_zero, List.set_cons_succ, Nat.reduceSub, VM.wipe, List.length_cons, List.length_nil, Nat.reduceAdd, if_true]
          exact ⟨trivial, ih z st _ _ (h2 z hz) hk'⟩
        · have e : xs.filterMap (fun _ => some (PV.bl true)) = List.replicate xs.length (.bl true) := by
            rw [show (fun _ : PV => some (PV.bl true)) = some ∘ (fun _ => PV.bl true) from rfl, List.filterMap_eq_map, List.map_const']
          rw [e, all_true]
          show k _ _
          rw [all_true2]
          exact hk
      simp only [and_self, zip_self] at fin
      simp [T__law_same, VM.sNil, VM.sCons, VM.sSet, VM.sPar, VM.sSetIx, VM.setIx, VM.sExpr, VM.sRet, VM.sRetN, VM.sIf, VM.sBreak, VM.sCont, VM.sFor, VM.gName, VM.gTup, VM.gEach, VM.eVar, VM.eC, VM.eBin, VM.eNeg, VM.eCmp, VM.eChain, VM.tOf, VM.tCmp, VM.tChain, VM.tAnd, VM.tOr, VM.tNot, VM.tYes, VM.eTest, VM.eAnd, VM.eOr, VM.eNot, VM.eIf, VM.aNil, VM.aCons, VM.eLst, VM.eLstM, VM.eTup, VM.eCall, VM.eIx, VM.getIx, VM.eSl, VM.getSl, VM.iE, VM.iRange1, VM.iRange2, VM.iZip, VM.iRev, VM.eComp, VM.eCompM, VM.eAppend, VM.eInsert, VM.eB1, VM.fLen, VM.fAbs, VM.fInt, VM.fList, VM.fListM, VM.fTuple, VM.fSum, VM.fAll, VM.fAny, VM.fIsi, VM.bLen, VM.seqOf, VM.sq, VM.asL, VM.items, VM.isSeq, VM.truth, VM.opBin, VM.opAdd, VM.opSub, VM.opMul, VM.opFdiv, VM.opMod, VM.opPow, VM.opCm, VM.opEq, VM.frz, VM.isD, VM.eqv, VM.isNon, VM.kdOf, VM.D0, VM.turn, List.map_cons, List.map_nil, List.replicate_succ, List.replicate_zero, List.cons_append, List.nil_append, List.getElem?_cons_zero, List.getElem?_cons_succ, List.set_cons_zero, List.set_cons_succ, Nat.reduceSub, VM.wipe, List.length_cons, List.length_nil, Nat.reduceAdd, kdIs, zip_self]
      exact fin
    · rename_i xs
      obtain ⟨h1, h2⟩ := hy
      have fin : compGo (gTup [gName 2, gName 3]) tYes (eCall cs 16 (aCons (eVar 2) (aCons (eVar 3) aNil))) [2, 3] (fun st' => stays st (.lst xs) st' ∧ stays st (.lst xs) st') (List.zipWith (fun x y => PV.tup [x, y]) xs xs) [] [some (.lst xs), some (.lst xs), none, none] st
          (fun ys st => match allBl ys with | some bs => k (.bl (bs.all id)) st | none => False) := by
        rw [zip_self]
        refine comp_of (fun z => PV.tup [z, z]) (fun _ => some (.bl true)) ⟨trivial, trivial⟩ xs (fun z hz k' hk' => ?_) h1 ?_
        · simp only [VM.sNil, VM.sCons, VM.sSet, VM.sPar, VM.sSetIx, VM.setIx, VM.sExpr, VM.sRet, VM.sRetN, VM.sIf, VM.sBreak, VM.sCont, VM.sFor, VM.gName, VM.gTup, VM.gEach, VM.eVar, VM.eC, VM.eBin, VM.eNeg, VM.eCmp, VM.eChain, VM.tOf, VM.tCmp, VM.tChain, VM.tAnd, VM.tOr, VM.tNot, VM.tYes, VM.eTest, VM.eAnd, VM.eOr, VM.eNot, VM.eIf, VM.aNil, VM.aCons, VM.eLst, VM.eLstM, VM.eTup, VM.eCall, VM.eIx, VM.getIx, VM.eSl, VM.getSl, VM.iE, VM.iRange1, VM.iRange2, VM.iZip, VM.iRev, VM.eComp, VM.eCompM, VM.eAppend, VM.eInsert, VM.eB1, VM.fLen, VM.fAbs, VM.fInt, VM.fList, VM.fListM, VM.fTuple, VM.fSum, VM.fAll, VM.fAny, VM.fIsi, VM.bLen, VM.seqOf, VM.sq, VM.asL, VM.items, VM.isSeq, VM.truth, VM.opBin, VM.opAdd, VM.opSub, VM.opMul, VM.opFdiv, VM.opMod, VM.opPow, VM.opCm, VM.opEq, VM.frz, VM.isD, VM.eqv, VM.isNon, VM.kdOf, VM.D0, VM.turn, List.map_cons, List.map_nil, List.replicate_succ, List.replicate_zero, List.cons_append, List.nil_append, List.getElem?_cons_zero, List.getElem?_cons_succ, List.set_cons_zero, List.set_cons_succ, Nat.reduceSub, VM.wipe, List.length_cons, List.length_nil, Nat.reduceAdd, if_true]
          exact ⟨trivial, ih z st _ _ (h2 z hz) hk'⟩
        · have e : xs.filterMap (fun _ => some (PV.bl true)) = List.replicate xs.length (.bl true) := by
            rw [show (fun _ : PV => some (PV.bl true)) = some ∘ (fun _ => PV.bl true) from rfl, List.filterMap_eq_map, List.map_const']
          rw [e, all_true]
          show k _ _
          rw [all_true2]
          exact hk
      simp only [and_self, zip_self] at fin
      simp [T__law_same, VM.sNil, VM.sCons, VM.sSet, VM.sPar, VM.sSetIx, VM.setIx, VM.sExpr, VM.sRet, VM.sRetN, VM.sIf, VM.sBreak, VM.sCont, VM.sFor, VM.gName, VM.gTup, VM.gEach, VM.eVar, VM.eC, VM.eBin, VM.eNeg, VM.eCmp, VM.eChain, VM.tOf, VM.tCmp, VM.tChain, VM.tAnd, VM.tOr, VM.tNot, VM.tYes, VM.eTest, VM.eAnd, VM.eOr, VM.eNot, VM.eIf, VM.aNil, VM.aCons, VM.eLst, VM.eLstM, VM.eTup, VM.eCall, VM.eIx, VM.getIx, VM.eSl, VM.getSl, VM.iE, VM.iRange1, VM.iRange2, VM.iZip, VM.iRev, VM.eComp, VM.eCompM, VM.eAppend, VM.eInsert, VM.eB1, VM.fLen, VM.fAbs, VM.fInt, VM.fList, VM.fListM, VM.fTuple, VM.fSum, VM.fAll, VM.fAny, VM.fIsi, VM.bLen, VM.seqOf, VM.sq, VM.asL, VM.items, VM.isSeq, VM.truth, VM.opBin, VM.opAdd, VM.opSub, VM.opMul, VM.opFdiv, VM.opMod, VM.opPow, VM.opCm, VM.opEq, VM.frz, VM.isD, VM.eqv, VM.isNon, VM.kdOf, VM.D0, VM.turn, List.map_cons, List.map_nil, List.replicate_succ, List.replicate_zero, List.cons_append, List.nil_append, List.getElem?_cons_zero, List.getElem?_cons_succ, List.set_cons_zero, List.set_cons_succ, Nat.reduceSub, VM.wipe, List.length_cons, List.length_nil, Nat.reduceAdd, kdIs, zip_self]
      exact fin
end VP
end
section
namespace VP
open VM
structure ShOf (n : Nat) (p q a b : Int) : Prop where
  cr : p * b = a * q
  q1 : 1 ≤ q
  b1 : 1 ≤ b
  g : Int.gcd p q = 1
  sp : p.natAbs < 2 ^ n
  sq : q.natAbs < 2 ^ n
theorem ShOf.of {n : Nat} {t b : Int} (hb : 1 ≤ b) (h1 : t.natAbs < 2 ^ n) (h2 : b.natAbs < 2 ^ n) : ShOf n (t.fdiv (Int.gcd t b)) (b.fdiv (Int.gcd t b)) t b := by
  have g0 : 0 < Int.gcd t b := Int.gcd_pos_of_ne_zero_right _ (by omega)
  rw [Int.fdiv_eq_ediv_of_nonneg _ (by omega), Int.fdiv_eq_ediv_of_nonneg _ (by omega)]
  have gg := Int.gcd_ediv_gcd_ediv_gcd g0
  have d1 : t / (Int.gcd t b : Int) * (Int.gcd t b : Int) = t := Int.ediv_mul_cancel (Int.gcd_dvd_left t b)
  have d2 : b / (Int.gcd t b : Int) * (Int.gcd t b : Int) = b := Int.ediv_mul_cancel (Int.gcd_dvd_right t b)
  revert gg d1 d2
  generalize hg : (Int.gcd t b : Int) = g
  have g1 : 1 ≤ g := by omega
  generalize t / g = p
  generalize b / g = q
  intro gg d1 d2
  have np : p.natAbs ≤ t.natAbs := by
    rw [← d1, Int.natAbs_mul]
    exact Nat.le_mul_of_pos_right _ (by omega)
  have nq : q.natAbs ≤ b.natAbs := by
    rw [← d2, Int.natAbs_mul]
    exact Nat.le_mul_of_pos_right _ (by omega)
  refine ⟨?_, ?_, hb, gg, by omega, by omega⟩
  · rw [← d2]
    conv => rhs; rw [← d1]
    grind
  · rcases Int.lt_or_le q 1 with h | h
    · have := Int.mul_le_mul_of_nonneg_right (show q ≤ 0 by omega) (show 0 ≤ g by omega)
      omega
    · exact h
theorem ShOf.to {n : Nat} {p q a b c d : Int} (h : ShOf n p q a b) (hd : 1 ≤ d) (e : a * d = c * b) : ShOf n p q c d := by
  refine ⟨?_, h.q1, hd, h.g, h.sp, h.sq⟩
  have h1 := h.cr
  have hb : b ≠ 0 := by have := h.b1; omega
  apply Int.eq_of_mul_eq_mul_right hb
  grind
theorem ShOf.mono {n m : Nat} {p q a b : Int} (h : ShOf n p q a b) (hm : n ≤ m) : ShOf m p q a b :=
  ⟨h.cr, h.q1, h.b1, h.g, Nat.lt_of_lt_of_le h.sp (Nat.pow_le_pow_right (by decide) hm), Nat.lt_of_lt_of_le h.sq (Nat.pow_le_pow_right (by decide) hm)⟩
theorem dvd1 {p q r : Int} (h : q ∣ p * r) (g : Int.gcd p q = 1) : q ∣ r := by
  have e := Int.dvd_gcd_mul_iff_dvd_mul (k := q) (n := p) (m := r)
  rw [Int.gcd_comm, g] at e
  simpa using e.mpr h
theorem ShOf.eq_iff {n m : Nat} {p q a b p' q' c d : Int} (h : ShOf n p q a b) (h' : ShOf m p' q' c d) : (p = p' ∧ q = q') ↔ a * d = c * b := by
  have h1 := h.cr
  have h2 := h'.cr
  have q1 := h.q1
  have q2 := h'.q1
  have b1 := h.b1
  have d1 := h'.b1
  constructor
  · rintro ⟨rfl, rfl⟩
    apply Int.eq_of_mul_eq_mul_right (show q ≠ 0 by omega)
    grind
  · intro e
    have x : p * q' = p' * q := by
      apply Int.eq_of_mul_eq_mul_right (show b * d ≠ 0 from Int.mul_ne_zero (by omega) (by omega))
      have e1 : p * q' * (b * d) = (p * b) * (q' * d) := by grind
      have e2 : p' * q * (b * d) = (p' * d) * (q * b) := by grind
      rw [e1, e2, h1, h2]
      grind
    have d1 : q ∣ q' := by
      have : q ∣ p * q' := ⟨p', by grind⟩
      exact dvd1 this h.g
    have d2 : q' ∣ q := by
      have : q' ∣ p' * q := ⟨p, by grind⟩
      exact dvd1 this h'.g
    have eq : q = q' := Int.le_antisymm (Int.le_of_dvd (by omega) d1) (Int.le_of_dvd (by omega) d2)
    refine ⟨?_, eq⟩
    rw [← eq] at x
    exact Int.eq_of_mul_eq_mul_right (show q ≠ 0 by omega) x
theorem ShOf.int {p q a b i : Int} {n : Nat} (h : ShOf n p q a b) : (q = 1 ∧ p = i) ↔ a = i * b := by
  have e := h.eq_iff (ShOf.of (n := i.natAbs + 1) (t := i) (b := 1) (by decide) (by
    have := Nat.lt_two_pow_self (n := i.natAbs + 1)
    omega) (by
    have := Nat.lt_two_pow_self (n := i.natAbs + 1)
    show 1 < _
    omega))
  have g1 : Int.gcd i 1 = 1 := Int.gcd_one_right i
  rw [g1] at e
  rw [show i.fdiv ((1 : Nat) : Int) = i from Int.fdiv_one i, show (1 : Int).fdiv ((1 : Nat) : Int) = 1 from rfl, Int.mul_one] at e
  rw [← e]
  exact And.comm
theorem sz_mono {n m : Nat} {i : Int} (hi : i.natAbs < 2 ^ n) (h : n ≤ m) : i.natAbs < 2 ^ m := Nat.lt_of_lt_of_le hi (Nat.pow_le_pow_right (by decide) h)
theorem mo {n m : Nat} {i j : Int} (hi : i.natAbs < 2 ^ n) (hj : j.natAbs < 2 ^ m) (h : n + m ≤ 1000000) : MulOk i j :=
  mulOk_of (a := n + 1) (b := m + 1) (sz_mono hi (by omega)) (sz_mono hj (by omega)) (by omega) (by omega) (by omega)
abbrev shv (p q : Int) : PV := .obj 0 [85, 69] [.int p, .int q]
def isI : PV → Bool
  | .int _ => true
  | _ => false
def SpWh (cs : CS) : Prop := ∀ (v : PV) (st : Store) (k x : KV), isFlat v = true → k (.bl (isI v)) st → cs 27 [v] st k x
def SpInit (cs : CS) : Prop := ∀ (t b : Int) (st : Store) (i : Nat) (k x : KV), st[i]? = some (.ins 0 [] []) → 1 ≤ b → k .non (st.set i (.ins 0 [85, 69] [.int (t.fdiv (Int.gcd t b)), .int (b.fdiv (Int.gcd t b))])) → cs 28 [.ref i, .int t, .int b] st k x
structure CsS (cs : CS) : Prop where
  wh : SpWh cs
  ini : SpInit cs
end VP
end
section
namespace VP
open VM
structure SpEq (cs : CS) : Prop where
  ss : ∀ (n m : Nat) (p q a b p' q' c d : Int) (st : Store) (k x : KV), ShOf n p q a b → ShOf m p' q' c d → k (.bl (decide (a * d = c * b))) st → cs 39 [shv p q, shv p' q'] st k x
  si : ∀ (n : Nat) (p q a b i : Int) (st : Store) (k x : KV), ShOf n p q a b → k (.bl (decide (a = i * b))) st → cs 39 [shv p q, .int i] st k x
  so : ∀ (p q : Int) (v : PV) (st : Store) (k x : KV), isFlat v = true → isI v = false → k (.bl false) st → cs 39 [shv p q, v] st k x
end VP
end
section
namespace VP
open VM
def LET : List Nat := [97, 98, 99, 100, 101, 102, 103, 104, 105, 106, 107, 108, 109, 110, 111, 112, 113, 114, 115, 116, 117, 118, 119, 120, 121, 122]
def nmS (s : List Nat) : Bool := decide (1 ≤ s.length) && decide (s.length ≤ 6) && s.all fun c => decide (c ∈ LET)
end VP
end
section
namespace VP
open VM
theorem ix_tup {xs : List PV} {i : Nat} {x : PV} {st : Store} {k : KV} (h : xs[i]? = some x) (hk : k x st) : getIx (.tup xs) (.int i) st k := by
  have hl : i < xs.length := (List.getElem?_eq_some_iff.mp h).1
  have e : ix xs.length (i : Int) = some i := by
    unfold ix
    rw [if_pos (by omega), if_pos (by omega)]
    rfl
  unfold getIx
  simp only [e, h]
  exact hk
theorem asStrs_map (ss : List (List Nat)) : asStrs (ss.map PV.str) = some ss := by
  induction ss with
  | nil => rfl
  | cons s ss ih => rw [List.map_cons, asStrs, ih]
end VP
end
section
namespace VP
open VM
def SpMd (cs : CS) : Prop := ∀ (r : Nat) (st : Store), Dr cs 22 [] r 3 st fun v _ => ∃ m : Int, v = .int m ∧ 0 ≤ m ∧ m ≤ 1000000 ∧ m ≠ 1
theorem md_at {FT : Nat → Option FD} {d : Nat} (hF : FT 22 = some ⟨1, 1, T__law_modulus⟩) (h1 : At FT d SpTake) (h2 : At FT d SpOf) : At FT (d + 1) SpMd := at_of (C := fun cs => SpTake cs ∧ SpOf cs) hF (fun n hn => ⟨h1 n hn, h2 n hn⟩) fun cs cs' C go => by
  obtain ⟨tk, of⟩ := C
  intro r st b k x hb hk
  refine go _ _ _ _ rfl ?_
  have p6 : PowOk 10 6 := ⟨by decide, by decide, by decide⟩
  have e6 : (10 : Int) ^ Int.toNat 6 - 1 = 999999 := by decide
  simp only [T__law_modulus, VM.sNil, VM.sCons, VM.sSet, VM.sPar, VM.sSetIx, VM.setIx, VM.sExpr, VM.sRet, VM.sRetN, VM.sIf, VM.sBreak, VM.sCont, VM.sFor, VM.gName, VM.gTup, VM.gEach, VM.eVar, VM.eC, VM.eBin, VM.eNeg, VM.eCmp, VM.eChain, VM.tOf, VM.tCmp, VM.tChain, VM.tAnd, VM.tOr, VM.tNot, VM.tYes, VM.eTest, VM.eAnd, VM.eOr, VM.eNot, VM.eIf, VM.aNil, VM.aCons, VM.eLst, VM.eLstM, VM.eTup, VM.eCall, VM.eIx, VM.getIx, VM.eSl, VM.getSl, VM.iE, VM.iRange1, VM.iRange2, VM.iZip, VM.iRev, VM.eComp, VM.eCompM, VM.eAppend, VM.eInsert, VM.eB1, VM.fLen, VM.fAbs, VM.fInt, VM.fList, VM.fListM, VM.fTuple, VM.fSum, VM.fAll, VM.fAny, VM.fIsi, VM.bLen, VM.seqOf, VM.sq, VM.asL, VM.items, VM.isSeq, VM.truth, VM.opBin, VM.opAdd, VM.opSub, VM.opMul, VM.opFdiv, VM.opMod, VM.opPow, VM.opCm, VM.opEq, VM.frz, VM.isD, VM.eqv, VM.isNon, VM.kdOf, VM.D0, VM.turn, List.map_cons, List.map_nil, List.replicate_succ, List.replicate_zero, List.cons_append, List.nil_append, List.getElem?_cons_zero, List.getElem?_cons_succ, List.set_cons_zero, List.set_cons_succ, Nat.reduceSub, VM.wipe, List.length_cons, List.length_nil, Nat.reduceAdd]
  refine tk r 40 (by decide) st (b + 2) _ _ hb fun v st1 hv hb1 k1 => ?_
  obtain ⟨d1, rfl, d10, d11⟩ := hv
  simp only []
  refine ⟨p6, ?_⟩
  rw [e6]
  refine tk r 999999 (by decide) st1 (b + 1) _ _ hb1 fun v st2 hv hb2 k2 => ?_
  obtain ⟨d2, rfl, d20, d21⟩ := hv
  simp only []
  refine ⟨by decide, ?_⟩
  refine of r (.lst _) _ st2 rfl (by simp) (by simp) (fun _ e => by cases e) b _ _ hb2 fun v st3 hv hb3 k3 => ?_
  refine hk _ _ ?_ hb3 ((k1.trans k2).trans k3)
  simp only [List.mem_cons, List.not_mem_nil, or_false] at hv
  rcases hv with h | h | h | h | h | h | h | h | h | h <;> exact ⟨_, h, by omega, by omega, by omega⟩
def SpOfS (cs : CS) : Prop := ∀ (r : Nat) (s : List Nat) (st : Store), s ≠ [] → Dr cs 2 [.str s] r 1 st fun v _ => ∃ c ∈ s, v = .str [c]
theorem ofS_at {FT : Nat → Option FD} {d : Nat} (hF : FT 2 = some ⟨2, 2, T__law_of⟩) (h1 : At FT d SpTake) : At FT (d + 1) SpOfS := at_of hF h1 fun cs cs' tk go => by
  intro r s st hne b k x hb hk
  refine go _ _ _ _ rfl ?_
  have hl : (0 : Int) < (s.length : Int) := by
    cases s with
    | nil => exact (hne rfl).elim
    | cons => simp
  simp only [T__law_of, sRet, eIx, eCall, aCons, aNil, eVar, eB1, fLen, List.map_cons, List.map_nil, List.cons_append, List.nil_append, List.getElem?_cons_zero, List.getElem?_cons_succ, bLen]
  refine tk r _ hl st b _ _ hb fun v st' hv hb' kp => ?_
  obtain ⟨dd, rfl, d0, d1⟩ := hv
  have hi := ixN d0 (by simpa using d1)
  have hn : dd.toNat < s.length := by omega
  simp only [getIx, hi, List.getElem?_eq_getElem hn]
  exact hk _ _ ⟨_, List.getElem_mem hn, rfl⟩ hb' kp
theorem comp_signs {g : TG} {t : TT} {e : TE} {own : List Nat} {ρ : Env} {st : Store} {r c b : Nat} {S : List Nat} {k : List PV → Store → Prop} (xs : List PV)
    (hf : ∀ v (st : Store) (b : Nat) (k' : Option PV → Store → Prop), Bag st r (b + c) → (∀ z st', z ∈ S → Bag st' r b → Keep r st st' → k' (some (.str [z])) st') → turn g t e ρ st v k')
    (hl : xs.length ≤ SZ) (hb : Bag st r (b + xs.length * c)) (hk : ∀ (s : List Nat) st', s.length = xs.length → (∀ z ∈ s, z ∈ S) → Bag st' r b → Keep r st st' → k (s.map fun z => .str [z]) st') :
    compGo g t e own (fun _ => True) xs [] ρ st k := by
  refine comp_inv (fun rem acc st' => ∃ s : List Nat, acc = s.map (fun z => .str [z]) ∧ s.length + rem.length = xs.length ∧ (∀ z ∈ s, z ∈ S) ∧ Bag st' r (b + rem.length * c) ∧ Keep r st st') ?_ ?_ xs [] st ⟨[], rfl, by simp, by simp, hb, Keep.refl⟩
  · rintro v rem acc st' ⟨u, rfl, h2, h3, h4, h5⟩
    refine ⟨trivial, fun k' hk' => ?_⟩
    rw [List.length_cons] at h2 h4
    refine hf v st' (b + rem.length * c) _ (by rw [Nat.add_mul, Nat.one_mul, ← Nat.add_assoc] at h4; exact h4) fun z st2 hz hb2 k2 => ?_
    refine hk' _ _ ⟨by rw [List.length_map]; omega, u ++ [z], by simp, by rw [List.length_append, List.length_singleton]; omega, fun w hw => ?_, hb2, h5.trans k2⟩
    rcases List.mem_append.mp hw with hw | hw
    · exact h3 w hw
    · rw [List.mem_singleton.mp hw]; exact hz
  · rintro acc st' ⟨u, rfl, h2, h3, h4, h5⟩
    exact ⟨trivial, hk u st' (by simpa using h2) h3 (h4.le (by simp)) h5⟩
theorem join_signs (s : List Nat) : joinS [] (s.map fun z => [z]) = s := by
  induction s with
  | nil => rfl
  | cons z s ih =>
    cases s with
    | nil => rfl
    | cons y s =>
      show [z] ++ [] ++ joinS [] ((y :: s).map fun z => [z]) = _
      rw [ih]
      rfl
theorem sum_signs (s : List Nat) : ((s.map fun z => [z]).map List.length).sum = s.length := by
  induction s with
  | nil => rfl
  | cons z s ih =>
    rw [List.map_cons, List.map_cons, List.sum_cons, ih]
    show 1 + s.length = s.length + 1
    omega
theorem strs_signs (s : List Nat) : asStrs (s.map fun z => PV.str [z]) = some (s.map fun z => [z]) := by
  have := asStrs_map (s.map fun z => [z])
  rw [List.map_map] at this
  exact this
def L25 : List Nat := [97, 98, 99, 100, 101, 102, 103, 104, 105, 106, 107, 108, 109, 110, 112, 113, 114, 115, 116, 117, 118, 119, 120, 121, 122]
def nth25 (i : Int) : Nat := L25.getD i.toNat 0
theorem nth25_mem {i : Int} (h0 : 0 ≤ i) (h1 : i < 25) : nth25 i ∈ L25 := by
  have h : i.toNat < L25.length := by show i.toNat < 25; omega
  unfold nth25
  rw [List.getD_eq_getElem?_getD, List.getElem?_eq_getElem h]
  exact List.getElem_mem h
theorem nth25_inj {i j : Int} (h0 : 0 ≤ i) (h1 : i < 25) (g0 : 0 ≤ j) (g1 : j < 25) (e : nth25 i = nth25 j) : i = j := by
  have key : ∀ a : Fin 25, ∀ b : Fin 25, L25.getD a 0 = L25.getD b 0 → a = b := by decide
  have := key ⟨i.toNat, by omega⟩ ⟨j.toNat, by omega⟩ e
  have := congrArg Fin.val this
  simp only at this
  omega
theorem L25_let : ∀ c ∈ L25, c ∈ LET ∧ c ≠ 111 := by decide
def stepsL : List Int := [1, 2, 3, 4, 6, 7, 8, 9, 11, 12]
def nameK (s : List Nat) (at' : Nat) (f t : Int) (k : Nat) : List Nat := s.take at' ++ [nth25 ((f + k * t).fmod 25)] ++ s.drop at'
theorem nameK_inj {s : List Nat} {a : Nat} {f t : Int} (ht : t ∈ stepsL) {i j : Nat} (hi : i < 11) (hj : j < 11) (e : nameK s a f t i = nameK s a f t j) : i = j := by
  unfold nameK at e
  have e1 := List.append_cancel_left (List.append_cancel_right e)
  have e2 : nth25 ((f + i * t).fmod 25) = nth25 ((f + j * t).fmod 25) := by simpa using e1
  have e3 := nth25_inj (Int.fmod_nonneg_of_pos _ (by decide)) (Int.fmod_lt_of_pos _ (by decide)) (Int.fmod_nonneg_of_pos _ (by decide)) (Int.fmod_lt_of_pos _ (by decide)) e2
  rw [Int.fmod_eq_emod_of_nonneg _ (by decide), Int.fmod_eq_emod_of_nonneg _ (by decide)] at e3
  unfold stepsL at ht
  simp only [List.mem_cons, List.not_mem_nil, or_false] at ht
  rcases ht with h | h | h | h | h | h | h | h | h | h <;> subst h <;> omega
theorem nameK_ok {s : List Nat} {a : Nat} {f t : Int} (hs : s.length ≤ 5) (hm : ∀ c ∈ s, c ∈ L25) (k : Nat) : nmS (nameK s a f t k) = true ∧ 111 ∉ nameK s a f t k := by
  have hl : (nameK s a f t k).length = s.length + 1 := by
    unfold nameK
    rw [List.length_append, List.length_append, List.length_take, List.length_drop, List.length_singleton]
    omega
  have hc : ∀ c ∈ nameK s a f t k, c ∈ L25 := by
    intro c hc
    unfold nameK at hc
    rcases List.mem_append.mp hc with hc | hc
    · rcases List.mem_append.mp hc with hc | hc
      · exact hm c (List.mem_of_mem_take hc)
      · rw [List.mem_singleton.mp hc]
        exact nth25_mem (Int.fmod_nonneg_of_pos _ (by decide)) (Int.fmod_lt_of_pos _ (by decide))
    · exact hm c (List.mem_of_mem_drop hc)
  constructor
  · unfold nmS
    rw [hl, decide_eq_true (by omega), decide_eq_true (by omega)]
    simp only [Bool.true_and, List.all_eq_true, decide_eq_true_iff]
    exact fun c m => (L25_let c (hc c m)).1
  · exact fun m => (L25_let 111 (hc _ m)).2 rfl
theorem slc_to {s : List Nat} {a : Int} (h0 : 0 ≤ a) (h1 : a ≤ s.length) : slc s none (some a) = s.take a.toNat := by
  unfold slc cutIx
  simp only []
  rw [if_neg (by omega)]
  show (s.drop 0).take (min a.toNat s.length - 0) = _
  rw [List.drop_zero, Nat.min_eq_left (by omega), Nat.sub_zero]
theorem slc_from {s : List Nat} {a : Int} (h0 : 0 ≤ a) (h1 : a ≤ s.length) : slc s (some a) none = s.drop a.toNat := by
  unfold slc cutIx
  simp only []
  rw [if_neg (by omega), Nat.min_eq_left (by omega)]
  rw [List.take_of_length_le]
  rw [List.length_drop]
  omega
def SpNames (cs : CS) : Prop := ∀ (r : Nat) (st : Store), Dr cs 46 [.int 11] r 9 st fun v _ => ∃ ss : List (List Nat), v = .lst (ss.map .str) ∧ ss.length = 11 ∧ ss.Nodup ∧ ∀ s ∈ ss, nmS s = true ∧ 111 ∉ s
theorem names_at {FT : Nat → Option FD} {d : Nat} (hF : FT 46 = some ⟨2, 8, T__law_names⟩) (h1 : At FT d SpTake) (h2 : At FT d SpOf) (h3 : At FT d SpOfS) : At FT (d + 1) SpNames := at_of (C := fun cs => SpTake cs ∧ SpOf cs ∧ SpOfS cs) hF (fun n hn => ⟨h1 n hn, h2 n hn, h3 n hn⟩) fun cs cs' C go => by
  obtain ⟨tk, of, ofS⟩ := C
  intro r st b k x hb hk
  refine go _ _ _ _ rfl ?_
  simp only [T__law_names, sCons, sSet, eJoin, eComp, iRange1, eCall, aCons, aNil, eVar, eC, gName, isStr, List.map_cons, List.map_nil, List.replicate_succ, List.replicate_zero, List.cons_append, List.nil_append, Nat.reduceSub, List.getElem?_cons_zero, List.getElem?_cons_succ, List.set_cons_zero, List.set_cons_succ, true_and]
  refine tk r 6 (by decide) st (b + 8) _ _ hb fun v st1 hv hb1 k1 => ?_
  obtain ⟨m, rfl, m0, m1⟩ := hv
  refine ⟨by unfold i62; omega, ?_⟩
  have hn : ((List.range m.toNat).map fun i : Nat => PV.int (i : Int)).length = m.toNat := by rw [List.length_map, List.length_range]
  refine comp_signs (r := r) (c := 1) (b := b + 3) (S := L25) _ (fun v st' b' k' hb' hk' => ?_) (by rw [hn]; show _ ≤ 16777216; omega) (by rw [hn]; exact hb1.le (by omega)) fun s st2 hs sm hb2 k2 => ?_
  · simp only [turn, gName, tYes, wipe, List.set_cons_zero, List.set_cons_succ, if_true, eCall, aCons, aNil, eVar, List.getElem?_cons_zero, List.getElem?_cons_succ]
    refine ofS r L25 st' (by decide) b' _ _ hb' fun z st3 hz hb3 k3 => ?_
    obtain ⟨c, hc, rfl⟩ := hz
    exact hk' c st3 hc hb3 k3
  rw [hn] at hs
  simp only [seqOf, asL, strs_signs]
  refine ⟨by rw [sum_signs, List.length_map]; show _ ≤ 16777216; simp; omega, ?_⟩
  rw [join_signs]
  simp only [wipe, List.set_cons_zero, List.set_cons_succ, sCons, sSet, eTup, eCall, aCons, aNil, eBin, eB1, fLen, bLen, eVar, eC, List.getElem?_cons_zero, List.getElem?_cons_succ, opBin, opAdd]
  refine tk r ((s.length : Int) + 1) (by omega) st2 (b + 2) _ _ hb2 fun v st3 hv hb3 k3 => ?_
  obtain ⟨a, rfl, a0, a1⟩ := hv
  refine tk r 25 (by decide) st3 (b + 1) _ _ hb3 fun v st4 hv hb4 k4 => ?_
  obtain ⟨f, rfl, f0, f1⟩ := hv
  refine ⟨by show 2 ≤ 16777216; decide, ?_⟩
  simp only [gTup, gEach, gName, List.length_cons, List.length_nil, List.set_cons_zero, List.set_cons_succ, true_and, sCons, sSet, eCall, eLst, aCons, aNil, eVar, eC, List.getElem?_cons_zero, List.getElem?_cons_succ]
  refine ⟨by show 10 ≤ 16777216; decide, ?_⟩
  refine of r (.lst _) _ st4 rfl (by simp) (by simp) (fun _ e => by cases e) b _ _ hb4 fun v st5 hv hb5 k5 => ?_
  obtain ⟨t, rfl, ht⟩ : ∃ t : Int, v = .int t ∧ t ∈ stepsL := by
    simp only [List.mem_cons, List.not_mem_nil, or_false] at hv
    rcases hv with h | h | h | h | h | h | h | h | h | h <;> exact ⟨_, h, by decide⟩
  have tb : t.natAbs ≤ 12 := by
    have key : ∀ t ∈ stepsL, t.natAbs ≤ 12 := by decide
    exact key t ht
  have sl : s.length ≤ 5 := by omega
  simp only [sRet, eComp, iRange1, eVar, List.getElem?_cons_zero, List.getElem?_cons_succ]
  refine ⟨by unfold i62; decide, ?_⟩
  refine comp_of (fun i : Nat => PV.int (i : Int)) (fun i => some (.str (nameK s a.toNat f t i))) trivial (List.range (11 : Int).toNat) (fun i hi k' hk' => ?_) (by rw [List.length_range]; decide) ?_
  · have i11 : i < 11 := List.mem_range.mp hi
    simp only [turn, gName, tYes, wipe, List.set_cons_zero, List.set_cons_succ, if_true, eBin, eSl, eIx, eB1, fInt, eVar, eC, List.getElem?_cons_zero, List.getElem?_cons_succ, getSl, opBin, opMul, opAdd, opMod]
    rw [slc_to a0 (by omega), slc_from a0 (by omega)]
    refine ⟨mo (n := 10) (m := 10) (by show (i : Int).natAbs < 1024; omega) (by show t.natAbs < 1024; omega) (by decide), by decide, ?_⟩
    have q0 := Int.fmod_nonneg_of_pos (f + i * t) (show (0 : Int) < 25 by decide)
    have q1 := Int.fmod_lt_of_pos (f + i * t) (show (0 : Int) < 25 by decide)
    have ei : ix 25 ((f + i * t).fmod 25) = some ((f + i * t).fmod 25).toNat := ixN q0 q1
    have hlt : ((f + i * t).fmod 25).toNat < L25.length := by show _ < 25; omega
    have eg : L25[((f + i * t).fmod 25).toNat]? = some (nth25 ((f + i * t).fmod 25)) := by
      unfold nth25
      rw [List.getD_eq_getElem?_getD, List.getElem?_eq_getElem hlt]
      rfl
    show getIx (.str L25) _ _ _
    have e25 : L25.length = 25 := rfl
    simp only [getIx, e25, ei, eg]
    refine ⟨?_, ?_, hk'⟩
    · rw [List.length_take]
      show _ + 1 ≤ 16777216
      omega
    · rw [List.length_append, List.length_take, List.length_drop]
      show _ + 1 + _ ≤ 16777216
      omega
  · rw [show (fun i : Nat => some (PV.str (nameK s a.toNat f t i))) = some ∘ (fun i => PV.str (nameK s a.toNat f t i)) from rfl, List.filterMap_eq_map]
    refine hk _ _ ⟨(List.range (11 : Int).toNat).map (nameK s a.toNat f t), by rw [List.map_map]; rfl, by rw [List.length_map, List.length_range]; rfl, ?_, fun z hz => ?_⟩ hb5 ((((k1.trans k2).trans k3).trans k4).trans k5)
    · refine List.pairwise_map.mpr (List.Pairwise.imp_of_mem (fun {i j} hi hj hne e => hne ?_) (List.nodup_range (n := (11 : Int).toNat)))
      exact nameK_inj ht (List.mem_range.mp hi) (List.mem_range.mp hj) e
    · obtain ⟨i, _, rfl⟩ := List.mem_map.mp hz
      exact nameK_ok sl sm i
end VP
end
section
namespace VP
open VM
def strOf : PV → List Nat
  | .str s => s
  | _ => []
theorem perm_strs {ys : List PV} {ss : List (List Nat)} (h : ys.Perm (ss.map PV.str)) : ∃ zs : List (List Nat), ys = zs.map PV.str ∧ zs.Perm ss := by
  refine ⟨ys.map strOf, ?_, ?_⟩
  · rw [List.map_map]
    have key : ∀ y ∈ ys, (PV.str ∘ strOf) y = y := fun y m => by
      obtain ⟨s, _, rfl⟩ := List.mem_map.mp (h.mem_iff.mp m)
      rfl
    conv => lhs; rw [← List.map_id ys]
    exact (List.map_congr_left fun y m => (key y m).symm)
  · have := h.map strOf
    rw [List.map_map] at this
    have e : ss.map (strOf ∘ PV.str) = ss := by
      conv => rhs; rw [← List.map_id ss]
      rfl
    rw [e] at this
    exact this
end VP
end
section
namespace ML
structure Ech (w : Nat) (L : Vec → Prop) (at_ : Nat) (ps : Ps) (rest : List Vec) : Prop where
  sorted : ps.Pairwise (fun x y => x.1 < y.1)
  row : ∀ p a, (p, a) ∈ ps → p < at_ ∧ L a ∧ Z p a ∧ 0 < nth a p
  div : ∀ p v, p < at_ → L v → Z p v → (∀ a, (p, a) ∈ ps → nth a p ∣ nth v p) ∧ ((∀ a, (p, a) ∉ ps) → nth v p = 0)
  lr : Len w rest
  rin : ∀ r ∈ rest, L r ∧ Z at_ r
  gen : ∀ v, L v → Z at_ v → Span w rest v
theorem Z.span {w n : Nat} {vs : List Vec} {v : Vec} (hl : Len w vs) (h : ∀ r ∈ vs, Z n r) (hv : Span w vs v) : Z n v := fun i hi => hv.nth0 hl fun r m => h r m i hi
theorem Lat.span {w : Nat} {L : Vec → Prop} {vs : List Vec} {v : Vec} (hL : Lat w L) (h0 : L (zv w)) (h : ∀ r ∈ vs, L r) (hv : Span w vs v) : L v := by
  induction hv with
  | zero => exact h0
  | step c _ m ih => exact hL.sub _ _ c ih (h _ m)
section
variable {w at_ : Nat} {L : Vec → Prop} {ps : Ps} {rest rest' : List Vec}
theorem Ech.none (hL : Lat w L) (h0 : L (zv w)) (E : Ech w L at_ ps rest) (hl : Len w rest') (s1 : ∀ r ∈ rest', Span w rest r) (s2 : ∀ r ∈ rest, Span w rest' r) (hz : ∀ r ∈ rest', nth r at_ = 0) : Ech w L (at_ + 1) ps rest' := by
  have z0 : ∀ v, L v → Z at_ v → nth v at_ = 0 := fun v hv hz' => (Span.mono hl s2 (E.gen v hv hz')).nth0 hl hz
  refine ⟨E.sorted, fun p a m => ?_, fun p v hp hv hz' => ?_, hl, fun r m => ?_, fun v hv hz' => ?_⟩
  · obtain ⟨h1, h2⟩ := E.row p a m
    exact ⟨by omega, h2⟩
  · by_cases h : p < at_
    · exact E.div p v h hv hz'
    · have : p = at_ := by omega
      subst this
      exact ⟨fun a m => by have := (E.row p a m).1; omega, fun _ => z0 v hv hz'⟩
  · have hr := s1 r m
    refine ⟨hL.span h0 (fun r m => (E.rin r m).1) hr, fun i hi => ?_⟩
    by_cases h : i < at_
    · exact Z.span E.lr (fun r m => (E.rin r m).2) hr i h
    · have : i = at_ := by omega
      subst this
      exact hz r m
  · exact Span.mono hl s2 (E.gen v hv fun i hi => hz' i (by omega))
theorem Ech.some {a : Vec} (hL : Lat w L) (h0 : L (zv w)) (E : Ech w L at_ ps rest) (hl : Len w (a :: rest')) (s1 : ∀ r ∈ a :: rest', Span w rest r) (s2 : ∀ r ∈ rest, Span w (a :: rest') r) (hz : ∀ r ∈ rest', nth r at_ = 0) (hp : 0 < nth a at_) : Ech w L (at_ + 1) (ps ++ [(at_, a)]) rest' := by
  have hl' : Len w rest' := fun r m => hl r (List.mem_cons_of_mem _ m)
  have la : a.length = w := hl a (List.mem_cons_self ..)
  have key : ∀ v, L v → Z at_ v → ∃ c u, Span w rest' u ∧ v = sub1 u a c ∧ nth v at_ = - (nth a at_ * c) := fun v hv hz' => by
    obtain ⟨c, u, hu, e⟩ := span_cons hl (Span.mono hl s2 (E.gen v hv hz'))
    refine ⟨c, u, hu, e, ?_⟩
    rw [e, nth_sub1 ((hu.len hl').trans la.symm), hu.nth0 hl' hz]
    omega
  have inL : ∀ r ∈ a :: rest', L r ∧ Z at_ r := fun r m => ⟨hL.span h0 (fun r m => (E.rin r m).1) (s1 r m), Z.span E.lr (fun r m => (E.rin r m).2) (s1 r m)⟩
  refine ⟨?_, fun p b m => ?_, fun p v hpp hv hz' => ?_, hl', fun r m => ?_, fun v hv hz' => ?_⟩
  · refine List.pairwise_append.mpr ⟨E.sorted, List.pairwise_singleton .., fun x hx y hy => ?_⟩
    rw [List.mem_singleton.mp hy]
    exact (E.row x.1 x.2 hx).1
  · rcases List.mem_append.mp m with m | m
    · obtain ⟨h1, h2⟩ := E.row p b m
      exact ⟨by omega, h2⟩
    · cases List.mem_singleton.mp m
      obtain ⟨k1, k2⟩ := inL a (List.mem_cons_self ..)
      exact ⟨by omega, k1, k2, hp⟩
  · by_cases h : p < at_
    · obtain ⟨d1, d2⟩ := E.div p v h hv hz'
      refine ⟨fun b m => ?_, fun hn => d2 fun b m => hn b (List.mem_append_left _ m)⟩
      rcases List.mem_append.mp m with m | m
      · exact d1 b m
      · cases List.mem_singleton.mp m
        omega
    · have : p = at_ := by omega
      subst this
      refine ⟨fun b m => ?_, fun hn => absurd (List.mem_append_right _ (List.mem_singleton.mpr rfl)) (hn a)⟩
      rcases List.mem_append.mp m with m | m
      · have := (E.row p b m).1
        omega
      · cases List.mem_singleton.mp m
        obtain ⟨c, u, _, _, e⟩ := key v hv hz'
        rw [e]
        exact ⟨-c, by rw [Int.mul_neg]⟩
  · obtain ⟨k1, k2⟩ := inL r (List.mem_cons_of_mem _ m)
    refine ⟨k1, fun i hi => ?_⟩
    by_cases h : i < at_
    · exact k2 i h
    · have : i = at_ := by omega
      subst this
      exact hz r m
  · obtain ⟨c, u, hu, e, e2⟩ := key v hv fun i hi => hz' i (by omega)
    have hc : c = 0 := by
      have := hz' at_ (by omega)
      rw [this] at e2
      rcases Int.mul_eq_zero.mp (show nth a at_ * c = 0 by omega) with h | h
      · omega
      · exact h
    subst hc
    have : sub1 u a 0 = u := vext (sub1_len ((hu.len hl').trans la.symm)) fun i _ => by rw [nth_sub1 ((hu.len hl').trans la.symm)]; omega
    rw [e, this]
    exact hu
structure Rd (w : Nat) (L : Vec → Prop) (ps qs : Ps) : Prop where
  heads : qs.map (·.1) = ps.map (·.1)
  row : ∀ p b, (p, b) ∈ qs → L b ∧ Z p b ∧ ∃ a, (p, a) ∈ ps ∧ nth b p = nth a p
  red : ∀ p a q b, (p, a) ∈ qs → (q, b) ∈ qs → p < q → 0 ≤ nth a q ∧ nth a q < nth b q
theorem fst_mem {ps qs : Ps} (h : qs.map (·.1) = ps.map (·.1)) {p : Nat} {a : Vec} (m : (p, a) ∈ ps) : ∃ b, (p, b) ∈ qs := by
  have : p ∈ qs.map (·.1) := by rw [h]; exact List.mem_map.mpr ⟨(p, a), m, rfl⟩
  obtain ⟨⟨q, b⟩, m', e⟩ := List.mem_map.mp this
  cases e
  exact ⟨b, m'⟩
theorem sorted_fst {ps : Ps} : ps.Pairwise (fun x y => x.1 < y.1) ↔ (ps.map (·.1)).Pairwise (· < ·) := by rw [List.pairwise_map]
theorem Rd.form {qs : Ps} (t : Tri w L ps) (hp : ∀ p a, (p, a) ∈ ps → 0 < nth a p) (R : Rd w L ps qs) : Form w L qs where
  sorted := by rw [sorted_fst, R.heads, ← sorted_fst]; exact t.sorted
  row := fun p b m => by
    obtain ⟨h1, h2, a, ha, e⟩ := R.row p b m
    obtain ⟨k1, _, _, k4⟩ := t.row p a ha
    exact ⟨k1, h1, h2, by rw [e]; exact k4⟩
  div := fun p v hpw hv hz => by
    obtain ⟨d1, d2⟩ := t.div p v hpw hv hz
    refine ⟨fun b m => ?_, fun hn => d2 fun a m => ?_⟩
    · obtain ⟨_, _, a, ha, e⟩ := R.row p b m
      rw [e]
      exact d1 a ha
    · obtain ⟨b, hb⟩ := fst_mem R.heads m
      exact hn b hb
  pos := fun p b m => by
    obtain ⟨_, _, a, ha, e⟩ := R.row p b m
    rw [e]
    exact hp p a ha
  red := R.red
end
def ex (e : Nat) : Nat → Nat
  | 0 => e
  | n + 1 => 2 * ex e n + 3
end ML
end
section
namespace VP
open VM ML
def encV (p : Bool × Vec) : PV := if p.1 then itup p.2 else ilst p.2
abbrev hd (x : Nat × Vec) : PV := .tup [.int (x.1 : Nat), ilst x.2]
theorem Bb.neg {e : Nat} {v : Vec} (h : Bb e v) : Bb e (v.map fun a => a * -1) := fun z hz => by
  obtain ⟨a, ha, rfl⟩ := List.mem_map.mp hz
  have := h a ha
  omega
end VP
end
section
namespace VP
open VM ML
theorem stays_self (u : PV) (st : Store) : stays st u st := by cases u <;> first | trivial | rfl
abbrev formV (ps : Ps) : PV := .lst (ps.map fun x => itup x.2)
end VP
end
section
namespace MT
abbrev Tie := Nat × Nat
def itr {α : Type} (g : α → α) : Nat → α → α
  | 0, x => x
  | n + 1, x => itr g n (g x)
theorem itr_succ {α : Type} (g : α → α) : ∀ (n : Nat) (x : α), itr g (n + 1) x = g (itr g n x)
  | 0, x => rfl
  | n + 1, x => itr_succ g n (g x)
def stp (P f : List Nat) (t : Tie) : List Nat :=
  if t.1 ∈ P ∧ t.2 ∈ P then (if t.1 ∈ f then (if t.2 ∈ f then f else f ++ [t.2]) else (if t.2 ∈ f then f ++ [t.1] else f)) else f
def rnd (P : List Nat) (T : List Tie) (f : List Nat) : List Nat := T.foldl (stp P) f
def reach (P : List Nat) (T : List Tie) : List Nat := itr (rnd P T) P.length (P.take 1)
theorem stp_cases (P f : List Nat) (t : Tie) : stp P f t = f ∨ ∃ v, stp P f t = f ++ [v] ∧ v ∉ f ∧ v ∈ P ∧ t.1 ∈ P ∧ t.2 ∈ P ∧ ((v = t.2 ∧ t.1 ∈ f) ∨ (v = t.1 ∧ t.2 ∈ f)) := by
  unfold stp
  split
  · rename_i h
    split
    · rename_i h1
      split
      · exact .inl rfl
      · rename_i h2
        exact .inr ⟨t.2, rfl, h2, h.2, h.1, h.2, .inl ⟨rfl, h1⟩⟩
    · rename_i h1
      split
      · rename_i h2
        exact .inr ⟨t.1, rfl, h1, h.1, h.1, h.2, .inr ⟨rfl, h2⟩⟩
      · exact .inl rfl
  · exact .inl rfl
theorem rnd_ind {P : List Nat} (J : List Nat → Prop) : ∀ {T : List Tie} {f : List Nat}, (∀ f t, t ∈ T → J f → J (stp P f t)) → J f → J (rnd P T f)
  | [], _, _, h => h
  | t :: T, f, hs, h => rnd_ind (T := T) J (fun f u hu => hs f u (List.mem_cons_of_mem _ hu)) (hs f t (List.mem_cons_self ..) h)
theorem itr_ind {α : Type} {g : α → α} (J : α → Prop) (hs : ∀ x, J x → J (g x)) : ∀ {n : Nat} {x : α}, J x → J (itr g n x)
  | 0, _, h => h
  | n + 1, _, h => itr_ind J hs (n := n) (hs _ h)
theorem stp_len {P f : List Nat} {t : Tie} : f.length ≤ (stp P f t).length := by
  rcases stp_cases P f t with e | ⟨w, e, _⟩ <;> rw [e]
  · exact Nat.le_refl _
  · simp
theorem rnd_len {P : List Nat} : ∀ {T : List Tie} {f : List Nat}, f.length ≤ (rnd P T f).length
  | [], _ => Nat.le_refl _
  | t :: T, f => Nat.le_trans stp_len (rnd_len (T := T) (f := stp P f t))
def Closed (P : List Nat) (T : List Tie) (f : List Nat) : Prop := ∀ t ∈ T, t.1 ∈ P → t.2 ∈ P → (t.1 ∈ f ↔ t.2 ∈ f)
theorem stp_same {P f : List Nat} {t : Tie} (h : (stp P f t).length = f.length) : stp P f t = f ∧ (t.1 ∈ P → t.2 ∈ P → (t.1 ∈ f ↔ t.2 ∈ f)) := by
  have e : stp P f t = f := by
    rcases stp_cases P f t with e | ⟨w, e, _⟩
    · exact e
    · rw [e] at h
      simp at h
  refine ⟨e, fun h1 h2 => ?_⟩
  unfold stp at e
  rw [if_pos ⟨h1, h2⟩] at e
  by_cases a : t.1 ∈ f
  · rw [if_pos a] at e
    by_cases b : t.2 ∈ f
    · exact ⟨fun _ => b, fun _ => a⟩
    · rw [if_neg b] at e
      have := congrArg List.length e
      simp at this
  · rw [if_neg a] at e
    by_cases b : t.2 ∈ f
    · rw [if_pos b] at e
      have := congrArg List.length e
      simp at this
    · exact ⟨fun z => absurd z a, fun z => absurd z b⟩
theorem rnd_same {P : List Nat} : ∀ {T : List Tie} {f : List Nat}, (rnd P T f).length = f.length → rnd P T f = f ∧ Closed P T f
  | [], f, _ => ⟨rfl, fun _ m => nomatch m⟩
  | t :: T, f, h => by
    have h1 : (stp P f t).length = f.length := by
      have a := stp_len (P := P) (f := f) (t := t)
      have b := rnd_len (P := P) (T := T) (f := stp P f t)
      have : (rnd P T (stp P f t)).length = f.length := h
      omega
    obtain ⟨e, c⟩ := stp_same h1
    have h2 : (rnd P T f).length = f.length := by
      have : (rnd P T (stp P f t)).length = f.length := h
      rw [e] at this
      exact this
    obtain ⟨e2, c2⟩ := rnd_same h2
    refine ⟨?_, fun u hu => ?_⟩
    · show rnd P T (stp P f t) = f
      rw [e]
      exact e2
    · rcases List.mem_cons.mp hu with rfl | hu
      · exact c
      · exact c2 u hu
theorem itr_grow {P : List Nat} {T : List Tie} : ∀ (n : Nat) (f : List Nat), Closed P T (itr (rnd P T) n f) ∨ f.length + n ≤ (itr (rnd P T) n f).length
  | 0, f => .inr (Nat.le_refl _)
  | n + 1, f => by
    rw [itr_succ]
    rcases itr_grow n f with h | h
    · left
      have e : rnd P T (itr (rnd P T) n f) = itr (rnd P T) n f := by
        generalize itr (rnd P T) n f = g at h ⊢
        clear f
        suffices H : ∀ (T' : List Tie), (∀ t ∈ T', t ∈ T) → rnd P T' g = g from H T fun _ m => m
        intro T'
        induction T' with
        | nil => intro _; rfl
        | cons t T' ih =>
          intro hs
          have hc := h t (hs t (List.mem_cons_self ..))
          have e : stp P g t = g := by
            unfold stp
            split
            · rename_i hp
              have hc := hc hp.1 hp.2
              by_cases a : t.1 ∈ g
              · rw [if_pos a, if_pos (hc.mp a)]
              · rw [if_neg a, if_neg fun z => a (hc.mpr z)]
            · rfl
          show rnd P T' (stp P g t) = g
          rw [e]
          exact ih fun u hu => hs u (List.mem_cons_of_mem _ hu)
      rw [e]
      exact h
    · by_cases e : (rnd P T (itr (rnd P T) n f)).length = (itr (rnd P T) n f).length
      · obtain ⟨e1, e2⟩ := rnd_same e
        rw [e1]
        exact .inl e2
      · right
        have := rnd_len (P := P) (T := T) (f := itr (rnd P T) n f)
        omega
theorem nodup_le : ∀ {l m : List Nat}, l.Nodup → (∀ x ∈ l, x ∈ m) → l.length ≤ m.length
  | [], _, _, _ => Nat.zero_le _
  | x :: l, m, nd, h => by
    obtain ⟨h1, h2⟩ := List.nodup_cons.mp nd
    have hx := h x (List.mem_cons_self ..)
    have := nodup_le (m := m.erase x) h2 fun y hy => (List.mem_erase_of_ne (fun z : y = x => h1 (z ▸ hy))).mpr (h y (List.mem_cons_of_mem _ hy))
    rw [List.length_erase_of_mem hx] at this
    have : 0 < m.length := List.length_pos_of_mem hx
    rw [List.length_cons]
    omega
section
variable {P : List Nat} {T : List Tie}
theorem itr_good {n : Nat} {f : List Nat} (nd : f.Nodup) (hs : ∀ v ∈ f, v ∈ P) : (itr (rnd P T) n f).Nodup ∧ (∀ v ∈ itr (rnd P T) n f, v ∈ P) ∧ ∀ v ∈ f, v ∈ itr (rnd P T) n f := by
  refine itr_ind (fun g : List Nat => g.Nodup ∧ (∀ v ∈ g, v ∈ P) ∧ ∀ v ∈ f, v ∈ g) (fun g hg => ?_) ⟨nd, hs, fun v h => h⟩
  refine rnd_ind (fun g : List Nat => g.Nodup ∧ (∀ v ∈ g, v ∈ P) ∧ ∀ v ∈ f, v ∈ g) (fun g t _ ⟨a, b, c⟩ => ?_) hg
  rcases stp_cases P g t with e | ⟨w, e, h1, h2, _⟩ <;> rw [e]
  · exact ⟨a, b, c⟩
  · refine ⟨List.nodup_append.mpr ⟨a, by simp, fun x hx y hy => ?_⟩, fun v hv => ?_, fun v hv => List.mem_append_left _ (c v hv)⟩
    · rw [List.mem_singleton.mp hy]
      exact fun z => h1 (z ▸ hx)
    · rcases List.mem_append.mp hv with hv | hv
      · exact b v hv
      · rw [List.mem_singleton.mp hv]
        exact h2
theorem itr_closed {n : Nat} {f : List Nat} (nd : f.Nodup) (hs : ∀ v ∈ f, v ∈ P) (hf : f ≠ []) (hn : P.length ≤ n) : Closed P T (itr (rnd P T) n f) := by
  rcases itr_grow (P := P) (T := T) n f with h | h
  · exact h
  · obtain ⟨a, b, _⟩ := itr_good (T := T) (n := n) nd hs
    have := nodup_le a b
    have : 0 < f.length := List.length_pos_iff.mpr hf
    omega
theorem reach_nd (nd : P.Nodup) : (reach P T).Nodup := (itr_good (nd.sublist (List.take_sublist _ _)) fun v h => List.mem_of_mem_take h).1
theorem reach_sub (nd : P.Nodup) : ∀ v ∈ reach P T, v ∈ P := (itr_good (nd.sublist (List.take_sublist _ _)) fun v h => List.mem_of_mem_take h).2.1
theorem reach_head {a : Nat} {r : List Nat} (nd : (a :: r).Nodup) : a ∈ reach (a :: r) T := (itr_good (nd.sublist (List.take_sublist _ _)) fun v h => List.mem_of_mem_take h).2.2 a (by simp)
theorem reach_closed (nd : P.Nodup) : Closed P T (reach P T) := by
  cases P with
  | nil => exact fun t _ h => nomatch h
  | cons a r => exact itr_closed (nd.sublist (List.take_sublist _ _)) (fun v h => List.mem_of_mem_take h) (by simp) (Nat.le_refl _)
theorem reach_le (nd : P.Nodup) : (reach P T).length ≤ P.length := nodup_le (reach_nd nd) (reach_sub nd)
theorem reach_all (nd : P.Nodup) (h : ∀ v ∈ P, v ∈ reach P T) : (reach P T).length = P.length := Nat.le_antisymm (reach_le nd) (nodup_le nd h)
end
structure Tree (n : Nat) (T : List Tie) : Prop where
  pos : 0 < n
  num : T.length + 1 = n
  rng : ∀ t ∈ T, t.1 < n ∧ t.2 < n ∧ t.1 ≠ t.2
  con : ∀ S : Nat → Prop, (∀ t ∈ T, S t.1 ↔ S t.2) → ∀ a b, a < n → b < n → S a → S b
theorem Tree.one {n : Nat} {T : List Tie} (h : Tree n T) : (reach (List.range n) T).length = n := by
  have nd := List.nodup_range (n := n)
  have e := reach_all (T := T) nd fun v hv => by
    have h0 : 0 ∈ reach (List.range n) T := by
      have : List.range n = 0 :: (List.range (n - 1)).map (· + 1) := by
        have : n = (n - 1) + 1 := by have := h.pos; omega
        conv => lhs; rw [this]
        exact List.range_succ_eq_map
      rw [this] at nd ⊢
      exact reach_head nd
    refine h.con (fun v => v ∈ reach (List.range n) T) (fun t ht => ?_) 0 v h.pos (List.mem_range.mp hv) h0
    obtain ⟨h1, h2, _⟩ := h.rng t ht
    exact reach_closed nd t ht (List.mem_range.mpr h1) (List.mem_range.mpr h2)
  rw [List.length_range] at e
  exact e
abbrev Dc := List (Nat × Nat)
def has (d : Dc) (v : Nat) : Prop := v ∈ d.map (·.1)
instance (d : Dc) (v : Nat) : Decidable (has d v) := inferInstanceAs (Decidable (v ∈ d.map (·.1)))
def dst (d : Dc) (t : Tie) : Dc := if has d t.1 then (if has d t.2 then d else d ++ [(t.2, t.1)]) else (if has d t.2 then d ++ [(t.1, t.2)] else d)
def drnd (T : List Tie) (d : Dc) : Dc := T.foldl dst d
def bfr (T : List Tie) (n p : Nat) : Dc := itr (drnd T) n [(p, p)]
def pofR : Dc → Nat → List Nat
  | [], v => [v]
  | (w, q) :: r, v => if r = [] then [v] else if v = w then w :: pofR r q else pofR r v
structure PI (p : Nat) (T : List Tie) (d : Dc) : Prop where
  nd : (d.map (·.1)).Nodup
  root : ∃ r, d = (p, p) :: r
  par : ∀ l v q r, d = l ++ (v, q) :: r → l ≠ [] → has l q ∧ ((v, q) ∈ T ∨ (q, v) ∈ T)
theorem snoc_split {α : Type} {d l r : List α} {x y : α} (h : d ++ [x] = l ++ y :: r) : (r = [] ∧ l = d ∧ y = x) ∨ ∃ r', r = r' ++ [x] ∧ d = l ++ y :: r' := by
  rcases List.eq_nil_or_concat r with rfl | ⟨r', z, rfl⟩
  · have := List.append_inj' h rfl
    simp at this
    exact .inl ⟨rfl, this.1.symm, this.2.symm⟩
  · have h' : d ++ [x] = (l ++ y :: r') ++ [z] := by simpa using h
    have := List.append_inj' h' rfl
    simp at this
    exact .inr ⟨r', by simp [this.2], this.1⟩
theorem PI.snoc {p : Nat} {T : List Tie} {d : Dc} (I : PI p T d) {v q : Nat} (hv : ¬ has d v) (hq : has d q) (ht : (v, q) ∈ T ∨ (q, v) ∈ T) : PI p T (d ++ [(v, q)]) where
  nd := by
    rw [List.map_append]
    exact List.nodup_append.mpr ⟨I.nd, by simp, fun a ha b hb => by
      have : b = v := by simpa using hb
      subst this
      exact fun z => hv (z ▸ ha)⟩
  root := by
    obtain ⟨r, e⟩ := I.root
    exact ⟨r ++ [(v, q)], by rw [e]; rfl⟩
  par := fun l w u r e hl => by
    rcases snoc_split e with ⟨rfl, rfl, e2⟩ | ⟨r', rfl, e2⟩
    · cases e2
      exact ⟨hq, ht⟩
    · exact I.par l w u r' e2 hl
theorem PI.step {p : Nat} {T : List Tie} {d : Dc} (I : PI p T d) {t : Tie} (ht : t ∈ T) : PI p T (dst d t) := by
  unfold dst
  split
  · rename_i h1
    split
    · exact I
    · rename_i h2
      exact I.snoc h2 h1 (.inr ht)
  · rename_i h1
    split
    · rename_i h2
      exact I.snoc h1 h2 (.inl ht)
    · exact I
theorem drnd_ind (J : Dc → Prop) : ∀ {T : List Tie} {d : Dc}, (∀ d t, t ∈ T → J d → J (dst d t)) → J d → J (drnd T d)
  | [], _, _, h => h
  | t :: T, d, hs, h => drnd_ind (T := T) J (fun d u hu => hs d u (List.mem_cons_of_mem _ hu)) (hs d t (List.mem_cons_self ..) h)
theorem PI.bfr (T : List Tie) (n p : Nat) : PI p T (bfr T n p) :=
  itr_ind (PI p T) (fun d hd => drnd_ind (PI p T) (fun d t ht h => h.step ht) hd) ⟨by simp, ⟨[], rfl⟩, fun l v q r e hl => by
    cases l with
    | nil => exact (hl rfl).elim
    | cons a l => simp at e⟩
theorem keys_dst {P : List Nat} {d : Dc} {t : Tie} (h1 : t.1 ∈ P) (h2 : t.2 ∈ P) : (dst d t).map (·.1) = stp P (d.map (·.1)) t := by
  have es : stp P (d.map (·.1)) t = if t.1 ∈ d.map (·.1) then (if t.2 ∈ d.map (·.1) then d.map (·.1) else d.map (·.1) ++ [t.2]) else (if t.2 ∈ d.map (·.1) then d.map (·.1) ++ [t.1] else d.map (·.1)) := if_pos ⟨h1, h2⟩
  rw [es]
  unfold dst
  by_cases a : t.1 ∈ d.map (·.1)
  · rw [if_pos (show has d t.1 from a), if_pos a]
    by_cases b : t.2 ∈ d.map (·.1)
    · rw [if_pos (show has d t.2 from b), if_pos b]
    · rw [if_neg (show ¬ has d t.2 from b), if_neg b, List.map_append]
      rfl
  · rw [if_neg (show ¬ has d t.1 from a), if_neg a]
    by_cases b : t.2 ∈ d.map (·.1)
    · rw [if_pos (show has d t.2 from b), if_pos b, List.map_append]
      rfl
    · rw [if_neg (show ¬ has d t.2 from b), if_neg b]
theorem keys_drnd {P : List Nat} : ∀ {T : List Tie} {d : Dc}, (∀ t ∈ T, t.1 ∈ P ∧ t.2 ∈ P) → (drnd T d).map (·.1) = rnd P T (d.map (·.1))
  | [], _, _ => rfl
  | t :: T, d, h => by
    show (drnd T (dst d t)).map (·.1) = rnd P T (stp P (d.map (·.1)) t)
    rw [keys_drnd fun u hu => h u (List.mem_cons_of_mem _ hu), keys_dst (h t (List.mem_cons_self ..)).1 (h t (List.mem_cons_self ..)).2]
theorem keys_itr {P : List Nat} {T : List Tie} (h : ∀ t ∈ T, t.1 ∈ P ∧ t.2 ∈ P) : ∀ (n : Nat) (d : Dc), (itr (drnd T) n d).map (·.1) = itr (rnd P T) n (d.map (·.1))
  | 0, _ => rfl
  | n + 1, d => by
    show (itr (drnd T) n (drnd T d)).map (·.1) = itr (rnd P T) n (rnd P T (d.map (·.1)))
    rw [keys_itr h n, keys_drnd h]
section
variable {n p : Nat} {T : List Tie}
theorem Tree.rngP (h : Tree n T) : ∀ t ∈ T, t.1 ∈ List.range n ∧ t.2 ∈ List.range n := fun t ht => ⟨List.mem_range.mpr (h.rng t ht).1, List.mem_range.mpr (h.rng t ht).2.1⟩
theorem Tree.keys (h : Tree n T) (hp : p < n) {v : Nat} : has (bfr T n p) v ↔ v < n := by
  have nd : [p].Nodup := by simp
  have hs : ∀ v ∈ [p], v ∈ List.range n := fun v hv => by
    rw [List.mem_singleton.mp hv]
    exact List.mem_range.mpr hp
  have e : (bfr T n p).map (·.1) = itr (rnd (List.range n) T) n [p] := keys_itr h.rngP n [(p, p)]
  unfold has
  rw [e]
  obtain ⟨_, g2, g3⟩ := itr_good (T := T) (n := n) nd hs
  have cl := itr_closed (T := T) nd hs (by simp) (show (List.range n).length ≤ n by simp)
  constructor
  · exact fun z => List.mem_range.mp (g2 v z)
  · intro hv
    refine h.con (fun v => v ∈ itr (rnd (List.range n) T) n [p]) (fun t ht => ?_) p v hp hv (g3 p (by simp))
    exact cl t ht (h.rngP t ht).1 (h.rngP t ht).2
theorem Tree.size (h : Tree n T) (hp : p < n) : (bfr T n p).length = n := by
  have I := PI.bfr T n p
  have a : (bfr T n p).length = ((bfr T n p).map (·.1)).length := by simp
  rw [a]
  apply Nat.le_antisymm
  · have := nodup_le (m := List.range n) I.nd fun v hv => List.mem_range.mpr ((h.keys hp).mp hv)
    simpa using this
  · have hk : ∀ v ∈ List.range n, v ∈ (bfr T n p).map (fun x : Nat × Nat => x.1) := fun v hv => (h.keys hp).mpr (List.mem_range.mp hv)
    have := nodup_le (List.nodup_range (n := n)) hk
    simpa using this
end
def way (d : Dc) (v : Nat) : List Nat := pofR d.reverse v
theorem PI.pre {p : Nat} {T : List Tie} {d : Dc} {x : Nat × Nat} (I : PI p T (d ++ [x])) (hd : d ≠ []) : PI p T d where
  nd := by
    have := I.nd
    rw [List.map_append] at this
    exact (List.nodup_append.mp this).1
  root := by
    obtain ⟨r, e⟩ := I.root
    cases d with
    | nil => exact (hd rfl).elim
    | cons a d =>
      have : a = (p, p) := by simpa using congrArg List.head? e
      exact ⟨d, by rw [this]⟩
  par := fun l v q r e hl => I.par l v q (r ++ [x]) (by rw [e]; simp) hl
theorem PI.ne {p : Nat} {T : List Tie} {d : Dc} (I : PI p T d) : d ≠ [] := by
  obtain ⟨r, e⟩ := I.root
  rw [e]
  simp
section
variable {n p : Nat} {T : List Tie}
end
end MT
end
section
namespace VP
open VM MT
abbrev strz (ss : List (List Nat)) : List PV := ss.map PV.str
abbrev face (f : List (List Nat)) : PV := .tup (strz f)
abbrev tie (t : Tie) : PV := .tup [.int (t.1 : Nat), .int (t.2 : Nat)]
abbrev ties (T : List Tie) : List PV := T.map tie
def Grow (st st' : Store) : Prop := st.length ≤ st'.length ∧ ∀ i, i < st.length → st'[i]? = st[i]?
theorem Grow.refl {st : Store} : Grow st st := ⟨Nat.le_refl _, fun _ _ => rfl⟩
theorem Grow.trans {st st1 st2 : Store} (h : Grow st st1) (h' : Grow st1 st2) : Grow st st2 := ⟨Nat.le_trans h.1 h'.1, fun i hi => (h'.2 i (Nat.lt_of_lt_of_le hi h.1)).trans (h.2 i hi)⟩
theorem Grow.app {st : Store} {o : SO} : Grow st (st ++ [o]) := ⟨by simp, fun i hl => List.getElem?_append_left hl⟩
theorem Grow.put {st st' : Store} {j : Nat} {o : SO} (h : Grow st st') (hj : st.length ≤ j) : Grow st (st'.set j o) := ⟨by rw [List.length_set]; exact h.1, fun i hi => by rw [List.getElem?_set_ne (by omega)]; exact h.2 i hi⟩
theorem Grow.keep {st st' : Store} (h : Grow st st') (r : Nat) : Keep r st st' := ⟨h.1, fun i _ hi => h.2 i hi⟩
theorem Bag.grow {st st' : Store} {r b : Nat} (h : Bag st r b) (g : Grow st st') : Bag st' r b := by
  have hr := h.lt
  obtain ⟨c, i, dg, m, t, g1, g2⟩ := h
  exact ⟨c, i, dg, m, t, by rw [g.2 r hr]; exact g1, g2⟩
mutual
theorem eqv_refl : ∀ (n : Nat) (x : PV), isD n x = true → eqv x x = true
  | _, .non, _ => rfl
  | _, .bl b, _ => by simp [eqv]
  | _, .int i, _ => by simp [eqv]
  | _, .str s, _ => by simp [eqv]
  | n, .tup xs, h => by
    cases n with
    | zero => simp [isD] at h
    | succ n => exact eqvL_refl n xs (by simpa [isD] using h)
  | n, .lst xs, h => by
    cases n with
    | zero => simp [isD] at h
    | succ n => exact eqvL_refl n xs (by simpa [isD] using h)
  | n, .dct _ _, h => by cases n <;> simp [isD] at h
  | n, .dctT _ _, h => by cases n <;> simp [isD] at h
  | n, .obj _ _ _, h => by cases n <;> simp [isD] at h
  | n, .scr _, h => by cases n <;> simp [isD] at h
  | n, .ref _, h => by cases n <;> simp [isD] at h
  | n, .ty _, h => by cases n <;> simp [isD] at h
  | n, .fn _, h => by cases n <;> simp [isD] at h
  | n, .cls _, h => by cases n <;> simp [isD] at h
theorem eqvL_refl : ∀ (n : Nat) (xs : List PV), isDL n xs = true → eqvL xs xs = true
  | _, [], _ => rfl
  | n, x :: xs, h => by
    have h : (isD n x && isDL n xs) = true := by
      cases n <;> simpa [isDL] using h
    rw [Bool.and_eq_true] at h
    show (eqv x x && eqvL xs xs) = true
    rw [eqv_refl n x h.1, eqvL_refl n xs h.2]
    rfl
end
theorem ix_nat {α : Type} {xs : List α} {i : Nat} (h : i < xs.length) : ix xs.length (i : Int) = some i := by
  unfold ix
  rw [if_pos (by omega), if_pos (by omega)]
  rfl
theorem get_tup {xs : List PV} {i : Nat} {y : PV} {st : Store} {k : KV} (h : xs[i]? = some y) (hk : k y st) : getIx (.tup xs) (.int (i : Int)) st k := by
  have hi := (List.getElem?_eq_some_iff.mp h).1
  simp only [getIx, ix_nat hi, h]
  exact hk
theorem slc_take {α : Type} (xs : List α) (n : Nat) : slc xs none (some (n : Int)) = xs.take n := by
  unfold slc cutIx
  simp only []
  rw [if_neg (by omega), Int.toNat_natCast]
  show (xs.drop 0).take (min n xs.length - 0) = _
  rw [List.drop_zero, Nat.sub_zero]
  by_cases h : n ≤ xs.length
  · rw [Nat.min_eq_left h]
  · rw [Nat.min_eq_right (by omega), List.take_of_length_le (Nat.le_refl _), List.take_of_length_le (by omega)]
end VP
end
section
namespace VP
open VM MT
structure FcsAt (st : Store) (lo : Nat) (js : List Nat) (fs : List (List (List Nat))) : Prop where
  len : js.length = fs.length
  lst : ∀ (i j : Nat) (f : List (List Nat)), js[i]? = some j → fs[i]? = some f → st[j]? = some (.lst (strz f))
  lo : ∀ j ∈ js, lo ≤ j ∧ j < st.length
theorem FcsAt.keep {st st' : Store} {lo r : Nat} {js : List Nat} {fs : List (List (List Nat))} (h : FcsAt st lo js fs) (k : Keep r st st') (hr : r < lo) : FcsAt st' lo js fs where
  len := h.len
  lst := fun i j f e1 e2 => by
    have := h.lo j (List.mem_of_getElem? e1)
    rw [k.2 j (by omega) this.2]
    exact h.lst i j f e1 e2
  lo := fun j hj => ⟨(h.lo j hj).1, Nat.lt_of_lt_of_le (h.lo j hj).2 k.1⟩
theorem FcsAt.put {st : Store} {lo p : Nat} {o : SO} {js : List Nat} {fs : List (List (List Nat))} (h : FcsAt st lo js fs) (hp : p ∉ js) : FcsAt (st.set p o) lo js fs where
  len := h.len
  lst := fun i j f e1 e2 => by
    have : p ≠ j := fun z => hp (z ▸ List.mem_of_getElem? e1)
    rw [List.getElem?_set_ne this]
    exact h.lst i j f e1 e2
  lo := fun j hj => by
    rw [List.length_set]
    exact h.lo j hj
theorem FcsAt.app {st : Store} {lo : Nat} {o : SO} {js : List Nat} {fs : List (List (List Nat))} (h : FcsAt st lo js fs) : FcsAt (st ++ [o]) lo js fs where
  len := h.len
  lst := fun i j f e1 e2 => by
    rw [List.getElem?_append_left (h.lo j (List.mem_of_getElem? e1)).2]
    exact h.lst i j f e1 e2
  lo := fun j hj => by
    have := h.lo j hj
    rw [List.length_append, List.length_singleton]
    omega
theorem FcsAt.snoc {st : Store} {lo j : Nat} {f : List (List Nat)} {js : List Nat} {fs : List (List (List Nat))} (h : FcsAt st lo js fs) (hj : st[j]? = some (.lst (strz f))) (hl : lo ≤ j) : FcsAt st lo (js ++ [j]) (fs ++ [f]) where
  len := by simp [h.len]
  lst := fun i j' f' e1 e2 => by
    by_cases hi : i < js.length
    · rw [List.getElem?_append_left hi] at e1
      rw [List.getElem?_append_left (by rw [← h.len]; exact hi)] at e2
      exact h.lst i j' f' e1 e2
    · have : i = js.length := by
        have := (List.getElem?_eq_some_iff.mp e1).1
        simp at this
        omega
      subst this
      rw [List.getElem?_append_right (Nat.le_refl _)] at e1
      rw [h.len, List.getElem?_append_right (Nat.le_refl _)] at e2
      simp at e1 e2
      subst e1 e2
      exact hj
  lo := fun j' hj' => by
    rcases List.mem_append.mp hj' with m | m
    · exact h.lo j' m
    · rw [List.mem_singleton.mp m]
      exact ⟨hl, (List.getElem?_eq_some_iff.mp hj).1⟩
end VP
end
section
namespace VP
open VM ML
end VP
end
section
namespace ML
abbrev Bs := List (Option Vec)
def rws (bs : Bs) : List Vec := bs.filterMap id
theorem mem_rws {bs : Bs} {x : Vec} : x ∈ rws bs ↔ ∃ i : Nat, bs[i]? = some (some x) := by
  unfold rws
  rw [List.mem_filterMap]
  constructor
  · rintro ⟨o, h, e⟩
    have e' : o = some x := e
    subst e'
    exact List.mem_iff_getElem?.mp h
  · rintro ⟨i, h⟩
    exact ⟨some x, List.mem_of_getElem? h, rfl⟩
def BsOk (w : Nat) (bs : Bs) : Prop := ∀ (i : Nat) (a : Vec), bs[i]? = some (some a) → a.length = w ∧ Z i a ∧ nth a i ≠ 0
theorem BsOk.len {w : Nat} {bs : Bs} (h : BsOk w bs) : Len w (rws bs) := fun x m => by
  obtain ⟨i, e⟩ := mem_rws.mp m
  exact (h i x e).1
def SE (w : Nat) (vs us : List Vec) : Prop := (∀ x ∈ vs, Span w us x) ∧ ∀ x ∈ us, Span w vs x
theorem SE.refl {w : Nat} {vs : List Vec} (h : Len w vs) : SE w vs vs := ⟨fun _ m => Span.mem h m, fun _ m => Span.mem h m⟩
theorem SE.symm {w : Nat} {vs us : List Vec} (h : SE w vs us) : SE w us vs := ⟨h.2, h.1⟩
theorem SE.trans {w : Nat} {vs us ts : List Vec} (h : SE w vs us) (h' : SE w us ts) (l1 : Len w vs) (l3 : Len w ts) : SE w vs ts := ⟨fun x m => Span.mono l3 h'.1 (h.1 x m), fun x m => Span.mono l1 h.2 (h'.2 x m)⟩
theorem SE.cons {w : Nat} {vs us : List Vec} {x : Vec} (h : SE w vs us) (l : x.length = w) (l1 : Len w vs) (l2 : Len w us) : SE w (x :: vs) (x :: us) := by
  have L1 : Len w (x :: vs) := fun y m => (List.mem_cons.mp m).elim (fun e => e ▸ l) (l1 y)
  have L2 : Len w (x :: us) := fun y m => (List.mem_cons.mp m).elim (fun e => e ▸ l) (l2 y)
  refine ⟨fun y m => ?_, fun y m => ?_⟩
  · rcases List.mem_cons.mp m with rfl | m
    · exact Span.mem L2 (List.mem_cons_self ..)
    · exact (h.1 y m).imp fun _ m => List.mem_cons_of_mem _ m
  · rcases List.mem_cons.mp m with rfl | m
    · exact Span.mem L1 (List.mem_cons_self ..)
    · exact (h.2 y m).imp fun _ m => List.mem_cons_of_mem _ m
structure PrOk (c C : Nat) (b r : Vec) : Prop where
  sign : ∃ σ : Int, (σ = 1 ∨ σ = -1) ∧ 0 < σ * nth b c ∧ 0 ≤ σ * nth r c
  size : ∃ U V : Nat, U ≤ C ∧ V ≤ C ∧ (∀ a ∈ b, a.natAbs ≤ U) ∧ (∀ a ∈ r, a.natAbs ≤ V) ∧ U * (nth r c).natAbs + V * (nth b c).natAbs ≤ C
theorem red_size {c U V : Nat} {b r : Vec} (hb : ∀ a ∈ b, a.natAbs ≤ U) (hr : ∀ a ∈ r, a.natAbs ≤ V) : ∀ z ∈ red c b r, z.natAbs ≤ U + V * ((nth b c).fdiv (nth r c)).natAbs := fun z hz => by
  obtain ⟨x, y, hx, hy, rfl⟩ := mem_sub1 hz
  have t1 := Int.natAbs_sub_le x (y * (nth b c).fdiv (nth r c))
  rw [Int.natAbs_mul] at t1
  have := hb x hx
  have := Nat.mul_le_mul_right ((nth b c).fdiv (nth r c)).natAbs (hr y hy)
  omega
theorem PrOk.step {c C : Nat} {b r : Vec} (l : b.length = r.length) (P : PrOk c C b r) (hn : nth r c ≠ 0) : PrOk c C r (red c b r) ∧ (nth (red c b r) c).natAbs < (nth r c).natAbs := by
  obtain ⟨⟨σ, hσ, s1, s2⟩, U, V, u1, u2, u3, u4, u5⟩ := P
  have hp : 0 < σ * nth r c := by rcases hσ with rfl | rfl <;> omega
  have f := fdiv_sign (s := nth b c) hσ hp
  have hr := red_nth (at_ := c) l
  have hz := red_size (c := c) u3 u4
  generalize hq : (nth b c).fdiv (nth r c) = q at *
  -- q is not below 0
  have q0 : 0 ≤ q := by
    have e : q = (σ * nth b c).fdiv (σ * nth r c) := by
      rw [← hq]
      rcases hσ with rfl | rfl
      · rw [Int.one_mul, Int.one_mul]
      · rw [Int.neg_one_mul, Int.neg_one_mul]; exact (Int.neg_fdiv_neg _ _).symm
    rw [e]
    exact Int.fdiv_nonneg (by omega) (by omega)
  have key : (nth b c).natAbs = q.natAbs * (nth r c).natAbs + (nth (red c b r) c).natAbs := by
    rw [hr]
    have e1 : ((nth r c) * q).natAbs = q.natAbs * (nth r c).natAbs := by rw [Int.natAbs_mul, Nat.mul_comm]
    rw [← e1]
    have e2 : 0 ≤ σ * (nth r c * q) := by
      rw [← Int.mul_assoc]
      exact Int.mul_nonneg (by omega) q0
    rcases hσ with rfl | rfl <;> omega
  have lt : (nth (red c b r) c).natAbs < (nth r c).natAbs := by
    rw [hr]
    rcases hσ with rfl | rfl <;> omega
  refine ⟨⟨⟨σ, hσ, hp, by rw [hr]; exact f.1⟩, V, U + V * q.natAbs, u2, ?_, u4, hz, ?_⟩, lt⟩
  · have a1 : U ≤ U * (nth r c).natAbs := Nat.le_mul_of_pos_right _ (by omega)
    have a2 : V * q.natAbs ≤ V * (q.natAbs * (nth r c).natAbs) := Nat.mul_le_mul_left _ (Nat.le_mul_of_pos_right _ (by omega))
    have t2 : V * (q.natAbs * (nth r c).natAbs) ≤ V * (nth b c).natAbs := Nat.mul_le_mul_left _ (by omega)
    omega
  · have e1 : V * (nth b c).natAbs = V * (q.natAbs * (nth r c).natAbs) + V * (nth (red c b r) c).natAbs := by rw [key, Nat.mul_add]
    rw [Nat.add_mul, Nat.mul_assoc]
    omega
theorem PrOk.first {c B R : Nat} {b r : Vec} (l : b.length = r.length) (hb : Bb B b) (hr : Bb R r) (hn : nth r c ≠ 0) : PrOk c (2 ^ (max B R + R + 2)) r (red c b r) ∧ (nth (red c b r) c).natAbs < (nth r c).natAbs := by
  obtain ⟨σ, hσ, hp⟩ : ∃ σ : Int, (σ = 1 ∨ σ = -1) ∧ 0 < σ * nth r c := by
    by_cases h : 0 < nth r c
    · exact ⟨1, .inl rfl, by omega⟩
    · exact ⟨-1, .inr rfl, by omega⟩
  have f := fdiv_sign (s := nth b c) hσ hp
  have hrn := red_nth (at_ := c) l
  have hz := red_size (c := c) (U := 2 ^ B) (V := 2 ^ R) (fun a m => Nat.le_of_lt (hb a m)) (fun a m => Nat.le_of_lt (hr a m))
  have hr' : ∀ a ∈ r, a.natAbs < 2 ^ R := hr
  have nb := hb.nth c
  have nr := hr.nth c
  generalize hq : (nth b c).fdiv (nth r c) = q at *
  have lt : (nth (red c b r) c).natAbs < (nth r c).natAbs := by
    rw [hrn]
    rcases hσ with rfl | rfl <;> omega
  -- |q| |r_c| <= |b_c| + |r_c|
  have qh : q.natAbs * (nth r c).natAbs ≤ (nth b c).natAbs + (nth r c).natAbs := by
    have e1 : ((nth r c) * q).natAbs = q.natAbs * (nth r c).natAbs := by rw [Int.natAbs_mul, Nat.mul_comm]
    rw [← e1]
    rw [hrn] at lt
    omega
  have p1 : 2 ^ B ≤ 2 ^ max B R := Nat.pow_le_pow_right (by decide) (Nat.le_max_left ..)
  have p2 : 2 ^ R ≤ 2 ^ max B R := Nat.pow_le_pow_right (by decide) (Nat.le_max_right ..)
  have e2 : 2 ^ (max B R + R + 2) = 2 ^ max B R * 2 ^ R * 4 := by rw [Nat.pow_add, Nat.pow_add]
  have p3 := Nat.two_pow_pos R
  have p4 := Nat.two_pow_pos (max B R)
  rw [e2]
  generalize 2 ^ max B R = m at *
  generalize 2 ^ R = ρ at *
  generalize 2 ^ B = β at *
  have g1 : m * 1 ≤ m * ρ := Nat.mul_le_mul_left _ p3
  have g2 : ρ * 1 ≤ m * ρ := by rw [Nat.mul_comm m]; exact Nat.mul_le_mul_left _ p4
  have g3 : ρ * q.natAbs ≤ ρ * β := Nat.mul_le_mul_left _ (by omega)
  have g4 : ρ * β ≤ m * ρ := by rw [Nat.mul_comm m]; exact Nat.mul_le_mul_left _ p1
  refine ⟨⟨⟨σ, hσ, hp, by rw [hrn]; exact f.1⟩, ρ, β + ρ * q.natAbs, by omega, by omega, fun a m' => Nat.le_of_lt (hr' a m'), hz, ?_⟩, lt⟩
  rw [Nat.add_mul, Nat.mul_assoc]
  have h1 : ρ * (nth (red c b r) c).natAbs ≤ ρ * ρ := Nat.mul_le_mul_left _ (by omega)
  have h2 : β * (nth r c).natAbs ≤ m * ρ := Nat.mul_le_mul p1 (by omega)
  have h3 : ρ * (q.natAbs * (nth r c).natAbs) ≤ ρ * (β + ρ) := Nat.mul_le_mul_left _ (by omega)
  have h4 : ρ * ρ ≤ m * ρ := Nat.mul_le_mul_right _ p2
  rw [Nat.mul_add] at h3
  omega
theorem PrOk.bits {c E : Nat} {b r : Vec} (P : PrOk c (2 ^ E) b r) : Bb (E + 1) b ∧ Bb (E + 1) r := by
  obtain ⟨_, U, V, u1, u2, u3, u4, _⟩ := P
  have e : 2 ^ (E + 1) = 2 ^ E * 2 := Nat.pow_succ ..
  have p := Nat.two_pow_pos E
  exact ⟨fun a m => by have := u3 a m; omega, fun a m => by have := u4 a m; omega⟩
def rc (β : Nat → Nat) (R : Nat) : Nat → Nat
  | 0 => R
  | c + 1 => max (β c) (rc β R c) + rc β R c + 3
end ML
namespace ML
def hb (X : Nat) : Nat → Nat
  | 0 => X
  | k + 1 => X + (k + 1) * (hb X k + 1)
def bn (R : Nat) : Nat → Nat → Nat
  | 0 => fun _ => 0
  | n + 1 => fun i => rc (bn R n) R (i + 1)
end ML
end
section
namespace VP
open VM ML
structure InsS (w : Nat) (v : Vec) (bs : Bs) (β : Nat → Nat) (R c : Nat) (cur : Bs) (r : Vec) : Prop where
  len : cur.length = w
  ok : BsOk w cur
  lr : r.length = w
  z : Z c r
  se : SE w (v :: rws bs) (r :: rws cur)
  lo : ∀ (i : Nat) (a : Vec), i < c → cur[i]? = some (some a) → Bb (rc β R (i + 1)) a
  hi : ∀ (i : Nat) (a : Vec), c < i → cur[i]? = some (some a) → Bb (β i) a
end VP
end
section
namespace VP
open VM ML
def Bc (vs : List Vec) (w R X : Nat) : Prop := (∀ m, m < vs.length → rc (bn R m) R w ≤ X) ∨ (R ≤ X ∧ ∃ qs : Ps, qs.map (·.2) = vs ∧ qs.Pairwise (fun x y => x.1 < y.1) ∧ ∀ p a, (p, a) ∈ qs → p < w ∧ Z p a ∧ nth a p ≠ 0)
structure Sz (w R : Nat) (vs : List Vec) (X : Nat) : Prop where
  x : Bc vs w R X
  x1 : X ≤ 40000000
  x2 : 2 * (X + (w + 1) * (hb X w + 1)) ≤ 100000000
end VP
end
section
namespace VP
open VM ML
def SpForm (cs : CS) : Prop := ∀ (vv : PV) (ys : List (Bool × Vec)) (w R X : Nat) (st : Store) (k x : KV), sq st vv = some (ys.map encV) → Len w (ys.map (·.2)) → (∀ r ∈ ys.map (·.2), Bb R r) → 0 < R → w ≤ 1000 → Sz w R (ys.map (·.2)) X →
  (∀ ps o, Form w (Span w (ys.map (·.2))) ps → (∀ p a, (p, a) ∈ ps → Bb (hb X w) a) → k (formV ps) (st ++ [.lst o])) → cs 15 [vv, .int w] st k x
def SpFormY (cs : CS) : Prop := ∀ (vv : PV) (ys : List (Bool × Vec)) (w R X Y : Nat) (st : Store) (k x : KV), sq st vv = some (ys.map encV) → Len w (ys.map (·.2)) → (∀ r ∈ ys.map (·.2), Bb R r) → 0 < R → w ≤ 1000 → Bc (ys.map (·.2)) w R X → X ≤ 40000000 → 2 * (X + (w + 1) * (Y + 1)) ≤ 100000000 →
  (hb X w ≤ Y ∨ ∀ ps, Form w (Span w (ys.map (·.2))) ps → ∀ p a, (p, a) ∈ ps → Bb Y a) →
  (∀ ps o, Form w (Span w (ys.map (·.2))) ps → (∀ p a, (p, a) ∈ ps → Bb Y a) → k (formV ps) (st ++ [.lst o])) → cs 15 [vv, .int w] st k x
theorem SpFormY.form {cs : CS} (h : SpFormY cs) : SpForm cs := fun vv ys w R X st k x h1 h2 h3 h4 h5 S hk => h vv ys w R X (hb X w) st k x h1 h2 h3 h4 h5 S.x S.x1 S.x2 (.inl (Nat.le_refl _)) hk
end VP
end
section
namespace VP
open VM ML
end VP
end
section
namespace VP
open VM ML
structure Trg (w H : Nat) (ps : Ps) : Prop where
  sorted : ps.Pairwise (fun x y => x.1 < y.1)
  row : ∀ p a, (p, a) ∈ ps → p < w ∧ a.length = w ∧ Z p a ∧ 0 < nth a p ∧ Bb H a
end VP
end
section
namespace ML
end ML
end
section
namespace ML
def dot (u fs : Vec) : Int := (List.zipWith (fun a b => a * b) u fs).sum
section
variable {fs : Vec} {m : Int} {w : Nat} {vs : List Vec}
end
end ML
end
section
namespace VP
open VM ML
theorem allInt_pvis : ∀ v : List Int, allInt (pvis v) = some v
  | [] => rfl
  | a :: v => by
    show (allInt (pvis v)).map (a :: ·) = _
    rw [allInt_pvis v]
    rfl
end VP
end
section
namespace VP
open VM ML
end VP
end
section
namespace VP
open VM ML
end VP
end
section
namespace VP
open VM ML
end VP
end
section
namespace VP
open VM ML
abbrev Nm := List Nat
abbrev Tm := Nm × Int
def tmW (p : Tm) : PV := .tup [.str p.1, .int p.2]
def rowW (ts : List Tm) (v m : Int) : PV := .tup [.tup (ts.map tmW), .int v, .int m]
structure GT (ns : List Nm) (most : Nat) (ts : List Tm) : Prop where
  len : ts.length ≤ most
  nd : (ts.map Prod.fst).Nodup
  ok : ∀ p ∈ ts, p.1 ∈ ns ∧ p.2.natAbs ≤ 1000
def valN : List Nm → List Int → Nm → Int
  | n :: ns, a :: vs, s => if n = s then a else valN ns vs s
  | _, _, _ => 0
def sumT (ns : List Nm) (vs : List Int) (ts : List Tm) : Int := (ts.map fun p => p.2 * valN ns vs p.1).sum
theorem dfind_val : ∀ {ns : List Nm} {vs : List Int} {s : Nm}, vs.length = ns.length → s ∈ ns → dfind (strz ns) (pvis vs) (.str s) = some (.int (valN ns vs s))
  | [], vs, s, _, h => by cases h
  | n :: ns, [], s, h, _ => by cases h
  | n :: ns, a :: vs, s, hl, hs => by
    show (if (n == s) = true then some (PV.int a) else dfind (strz ns) (pvis vs) (.str s)) = _
    unfold valN
    by_cases e : n = s
    · rw [if_pos e, if_pos (by simpa using e)]
    · rw [if_neg e, if_neg (by simpa using e)]
      exact dfind_val (by simpa using hl) ((List.mem_cons.mp hs).resolve_left fun z => e z.symm)
theorem valN_mem : ∀ {ns : List Nm} {vs : List Int} {s : Nm}, vs.length = ns.length → s ∈ ns → valN ns vs s ∈ vs
  | [], vs, s, _, h => by cases h
  | n :: ns, [], s, h, _ => by cases h
  | n :: ns, a :: vs, s, hl, hs => by
    unfold valN
    by_cases e : n = s
    · rw [if_pos e]
      exact List.mem_cons_self ..
    · rw [if_neg e]
      exact List.mem_cons_of_mem _ (valN_mem (by simpa using hl) ((List.mem_cons.mp hs).resolve_left fun z => e z.symm))
theorem isKey_str (s : Nm) : isKey (.str s) = true := rfl
def SpTermsG (cs : CS) : Prop := ∀ (ns : List Nm) (most r : Nat) (st : Store), ns.length ≤ 11 → most ≤ 11 → ns.Nodup → Dr cs 51 [.lst (strz ns), .int (most : Nat)] r 34 st fun v _ => ∃ ts, v = .tup (ts.map tmW) ∧ GT ns most ts
theorem termsG_at {FT : Nat → Option FD} {d : Nat} (hF : FT 51 = some ⟨3, 5, T__law_terms⟩) (h1 : At FT d SpTake) (h2 : At FT d SpMixed) (h3 : At FT d SpBig) : At FT (d + 1) SpTermsG := at_of (C := fun cs => SpTake cs ∧ SpMixed cs ∧ SpBig cs) hF (fun n hn => ⟨h1 n hn, h2 n hn, h3 n hn⟩) fun cs cs' C go => by
  obtain ⟨tk, mx, big⟩ := C
  intro nms most r st nl hm nnd b k x hb hk
  refine go _ _ _ _ rfl ?_
  unfold T__law_terms
  rw [sCons]
  simp only [sSet, eSl, eCall, eBin, aCons, aNil, eVar, eC, List.map_cons, List.map_nil, List.replicate_succ, List.replicate_zero, List.cons_append, List.nil_append, Nat.reduceSub, List.getElem?_cons_zero, List.getElem?_cons_succ]
  have nlm : (nms.map PV.str).length = nms.length := List.length_map _
  refine mx r (.lst (nms.map .str)) (nms.map .str) st rfl (by simp) (by rw [nlm]; omega) (b + 23) _ _ (by rw [nlm]; exact hb.le (by omega)) fun v st2 hv hb2 k2 => ?_
  obtain ⟨ys, rfl, hys, hp⟩ := hv
  simp only [opBin, opAdd]
  refine tk r ((most : Int) + 1) (by omega) st2 (b + 22) _ _ hb2 fun v st3 hv hb3 k3 => ?_
  obtain ⟨d, rfl, d0, d1⟩ := hv
  obtain ⟨zs, rfl, hz⟩ := perm_strs hp
  have rlt : r < st.length := hb.lt
  have h3 : st3[st.length]? = some (.lst (zs.map .str)) := by
    rw [k3.2 st.length (by omega) (List.getElem?_eq_some_iff.mp hys).1]
    exact hys
  have zl : zs.length = nms.length := hz.length_eq
  simp only [getSl, asL, h3]
  have es : slc (strz zs) none (some d) = strz (zs.take d.toNat) := by
    have := slc_take (strz zs) d.toNat
    rw [Int.toNat_of_nonneg d0] at this
    rw [this, ← List.map_take]
  rw [es]
  have tl : (zs.take d.toNat).length ≤ most := by rw [List.length_take]; omega
  have tok : ∀ s ∈ zs.take d.toNat, s ∈ nms := fun s m => hz.mem_iff.mp (List.mem_of_mem_take m)
  have tnd : (zs.take d.toNat).Nodup := (hz.nodup_iff.mpr nnd).sublist (List.take_sublist _ _)
  have kp := k2.trans k3
  revert tl tok tnd
  generalize zs.take d.toNat = us
  intro tl tok tnd
  simp only [gName, List.set_cons_zero, List.set_cons_succ, sRet, eB1, eComp, iE, eVar, List.getElem?_cons_zero, List.getElem?_cons_succ, items]
  refine ⟨rfl, ?_⟩
  refine comp_inv (fun rem acc st' => ∃ (todo : List (List Nat)) (ts : List Tm), us = ts.map Prod.fst ++ todo ∧ rem = todo.map PV.str ∧ acc = ts.map tmW ∧ (∀ p ∈ ts, p.1 ∈ nms ∧ p.2.natAbs ≤ 1000) ∧ Bag st' r (b + todo.length * 2) ∧ Keep r st st') ?_ ?_ _ [] st3 ⟨us, [], rfl, rfl, rfl, by simp, hb3.le (by omega), kp⟩
  · rintro y rem acc st' ⟨todo, ts, hu, hr, rfl, hok, hb', kp'⟩
    refine ⟨trivial, fun k' hk' => ?_⟩
    cases todo with
    | nil => cases hr
    | cons z todo =>
      rw [List.map_cons] at hr
      injection hr with hy hr
      subst hy
      have zok : z ∈ nms := tok z (by rw [hu]; simp)
      have dl : ts.length ≤ 11 := by rw [hu, List.length_append, List.length_map] at tl; omega
      rw [List.length_cons] at hb'
      simp only [turn, gName, tYes, wipe, List.set_cons_zero, List.set_cons_succ, if_true, eTup, eCall, aCons, aNil, eVar, List.getElem?_cons_zero, List.getElem?_cons_succ]
      refine big r st' (b + todo.length * 2) _ _ (hb'.le (by omega)) fun v st4 hv hb4 k4 => ?_
      obtain ⟨c, rfl, hc⟩ := hv
      refine ⟨by show 2 ≤ 16777216; decide, ?_⟩
      refine hk' _ _ ⟨by rw [List.length_map]; show _ < 16777216; omega, todo, ts ++ [(z, c)], by rw [hu, List.map_append, List.append_assoc]; rfl, hr, by rw [List.map_append]; rfl, fun p mp => ?_, hb4, kp'.trans k4⟩
      rcases List.mem_append.mp mp with mp | mp
      · exact hok p mp
      · rw [List.mem_singleton.mp mp]
        exact ⟨zok, hc⟩
  · rintro acc st' ⟨todo, ts, hu, hr, rfl, hok, hb', kp'⟩
    refine ⟨trivial, ?_⟩
    have t0 : todo = [] := by
      cases todo with
      | nil => rfl
      | cons z todo => cases hr
    subst t0
    rw [List.append_nil] at hu
    have dl : ts.length ≤ most := by rw [hu, List.length_map] at tl; exact tl
    simp only [fTuple, seqOf, asL]
    exact hk _ _ ⟨ts, rfl, ⟨dl, hu ▸ tnd, hok⟩⟩ hb' kp'
theorem pairsV_enc : ∀ (ns : List Nm) (vs : List Int), vs.length = ns.length → pairsV (List.zipWith (fun s a => PV.tup [.str s, .int a]) ns vs) = some (strz ns, pvis vs)
  | [], [], _ => rfl
  | [], _ :: _, h => by cases h
  | _ :: _, [], h => by cases h
  | n :: ns, a :: vs, h => by
    show (match pairsV (List.zipWith (fun s a => PV.tup [.str s, .int a]) ns vs) with | some (ks, vs) => some (PV.str n :: ks, PV.int a :: vs) | none => none) = _
    rw [pairsV_enc ns vs (by simpa using h)]
    rfl
structure GRow (ns : List Nm) (ts : List Tm) (v m : Int) : Prop where
  ts : GT ns 4 ts
  v : v.natAbs ≤ 80006
  m0 : 0 ≤ m
  m1 : m ≤ 1000000
  m2 : m ≠ 1
end VP
end
section
namespace VP
open VM ML
end VP
end
section
namespace VP
open VM ML
end VP
end
section
namespace ML
def lin (a : Int) (u : Vec) (b : Int) (v : Vec) : Vec := List.zipWith (fun x y => a * x - b * y) u v
theorem lin_len {a b : Int} {u v : Vec} (h : u.length = v.length) : (lin a u b v).length = u.length := by simp [lin, h]
theorem nth_lin {a b : Int} {u v : Vec} (h : u.length = v.length) (i : Nat) : nth (lin a u b v) i = a * nth u i - b * nth v i := by
  unfold lin nth
  rw [List.getD_eq_getElem?_getD, List.getD_eq_getElem?_getD, List.getD_eq_getElem?_getD, List.getElem?_zipWith]
  by_cases hi : i < u.length
  · have hj : i < v.length := by omega
    rw [List.getElem?_eq_getElem hi, List.getElem?_eq_getElem hj]
    rfl
  · rw [List.getElem?_eq_none (by omega), List.getElem?_eq_none (by omega)]
    simp
section
variable {w : Nat} {L : Vec → Prop} {ps : Ps} {u v x : Vec}
theorem Lat.zero (hL : Lat w L) (h : L u) : L (zv w) := by
  have h1 := hL.sub u u 1 h h
  have lu := hL.len u h
  have e : sub1 u u 1 = zv w := vext (by rw [sub1_len rfl, lu]; simp [zv]) fun i _ => by
    rw [nth_sub1 rfl, nth_zv]
    omega
  rw [e] at h1
  exact h1
theorem Lat.lin (hL : Lat w L) (hu : L u) (hv : L v) (a b : Int) : L (lin a u b v) := by
  have lu := hL.len u hu
  have lv := hL.len v hv
  have lz : (zv w).length = u.length := by rw [lu]; simp [zv]
  have l1 : (sub1 (zv w) u (-a)).length = v.length := by rw [sub1_len lz, lv]; simp [zv]
  have h := hL.sub _ v b (hL.sub _ u (-a) (hL.zero hu) hu) hv
  have e : sub1 (sub1 (zv w) u (-a)) v b = ML.lin a u b v := vext (by rw [sub1_len l1, lin_len (lu.trans lv.symm), l1, lu, lv]) fun i _ => by
    rw [nth_sub1 l1, nth_sub1 lz, nth_zv, nth_lin (lu.trans lv.symm), Int.mul_neg, Int.mul_comm a, Int.mul_comm b]
    omega
  rw [e] at h
  exact h
end
end ML
end
section
namespace ML
abbrev scl (k : Int) (x : Vec) : Vec := lin k x 0 x
def Gen (w : Nat) (L : Vec → Prop) (gs : List Vec) : Prop := ∀ x, L x → ∃ k : Int, k ≠ 0 ∧ Span w gs (scl k x)
structure GJ (w : Nat) (L : Vec → Prop) (c : Nat) (ds : Ps) (rs : List Vec) (M : Nat) : Prop where
  m1 : 1 ≤ M
  dk : ∀ p d, (p, d) ∈ ds → p < c ∧ L d ∧ Z p d ∧ nth d p ≠ 0
  dz : ∀ p d q e, (p, d) ∈ ds → (q, e) ∈ ds → q ≠ p → nth d q = 0
  so : ds.Pairwise (fun x y => x.1 < y.1)
  rk : ∀ r ∈ rs, L r ∧ Z c r
  bd : ∀ p d, (p, d) ∈ ds → ∀ i, (nth d i).natAbs ≤ M
  br : ∀ r ∈ rs, ∀ i, (nth r i).natAbs ≤ M
  gen : Gen w L (ds.map (·.2) ++ rs)
end ML
end
section
namespace ML
def unitV (w i : Nat) : Vec := (List.range w).map fun j => if j = i then 1 else 0
structure Elim (w : Nat) (es : List (Nat × Vec)) (fs : List Vec) (B : Nat) : Prop where
  row : ∀ c e, (c, e) ∈ es → e.length = w ∧ c < w ∧ nth e c ≠ 0 ∧ (∀ i, c < i → nth e i = 0) ∧ ∀ i, (nth e i).natAbs ≤ B
  off : es.Pairwise fun x y => x.1 ≠ y.1 ∧ nth x.2 y.1 = 0 ∧ nth y.2 x.1 = 0
  to : ∀ v : Vec, v.length = w → (∀ f ∈ fs, dot v f = 0) → ∀ c e, (c, e) ∈ es → dot v e = 0
  of : ∀ v : Vec, v.length = w → (∀ c e, (c, e) ∈ es → dot v e = 0) → ∀ f ∈ fs, dot v f = 0
  few : es.length ≤ fs.length
def eb (a : Nat) : Nat → Nat
  | 0 => 0
  | n + 1 => a + (eb a n + 1) * (n + 1)
end ML
end
section
namespace ML
def units (w : Nat) : List Vec := (List.range w).map (unitV w)
def yb (a b k : Nat) : Nat := 3 + b * k + k * (eb a k + 3)
end ML
end
section
namespace VP
open VM ML
end VP
end
section
namespace VP
open VM
def fInx : List PV := [.str [73, 110, 118, 97, 108, 105, 100, 70, 97, 99, 101], .str [73, 110, 118, 97, 108, 105, 100, 84, 105, 101], .str [73, 110, 118, 97, 108, 105, 100, 67, 104, 97, 110, 103, 101], .str [73, 110, 118, 97, 108, 105, 100, 67, 111, 109, 109, 97, 110, 100]]
def fNam : List PV := [.str [68, 117, 112, 108, 105, 99, 97, 116, 101, 78, 97, 109, 101], .str [85, 110, 107, 110, 111, 119, 110, 78, 97, 109, 101], .str [83, 99, 97, 116, 116, 101, 114, 101, 100], .str [73, 110, 118, 97, 108, 105, 100, 80, 114, 105, 99, 101]]
def fMost : List PV := [.str [70, 117, 108, 108], .str [84, 111, 111, 87, 105, 100, 101]]
def fHs : List PV := [.str [85, 110, 107, 110, 111, 119, 110, 72, 111, 117, 115, 101], .str [78, 111, 116, 76, 101, 97, 102]]
def fGiv : List PV := [.str [73, 110, 118, 97, 108, 105, 100, 78, 97, 109, 101], .str [73, 110, 118, 97, 108, 105, 100, 78, 117, 109, 98, 101, 114]]
def isC (l : List PV) (c : List Nat) : Bool := l.any fun y => eqv y (.str c)
def eqC (c d : List Nat) : Bool := eqv (.str c) (.str d)
def fldsW (c : List Nat) : List Nat :=
  if isC fInx c = true then [42] else if isC fNam c = true then [61] else if isC fMost c = true then [60] else if isC fHs c = true then [40] else if isC fGiv c = true then [36] else
  if eqC c [85, 110, 107, 110, 111, 119, 110, 76, 97, 98, 101, 108] = true then [49] else if eqC c [78, 111, 116, 84, 105, 101, 100] = true then [30, 50] else if eqC c [73, 110, 118, 97, 108, 105, 100, 84, 101, 120, 116] = true then [55] else []
def getsF (ks : List Nat) (vs : List PV) : List Nat → Option (List PV)
  | [] => some []
  | n :: ns => match fget ks vs n, getsF ks vs ns with
    | some v, some us => some (v :: us)
    | _, _ => none
def SpFields (cs : CS) : Prop := ∀ (c : Nat) (ks : List Nat) (vs us : List PV) (code : List Nat) (st : Store) (k x : KV), fget ks vs 22 = some (.str code) → getsF ks vs (fldsW code) = some us → k (.tup us) st → cs 148 [.exc c ks vs] st k x
theorem stepC {p : Bool} {A B : Prop} (h1 : p = true → A) (h2 : p = false → B) : if p = true then A else B := by
  cases p with
  | true => exact h1 rfl
  | false => exact h2 rfl
theorem gets1 {ks : List Nat} {vs us : List PV} {n : Nat} (h : getsF ks vs [n] = some us) : ∃ v, fget ks vs n = some v ∧ us = [v] := by
  unfold getsF getsF at h
  cases e : fget ks vs n with
  | none => rw [e] at h; cases h
  | some v => rw [e] at h; cases h; exact ⟨v, rfl, rfl⟩
theorem fields_at {FT : Nat → Option FD} (hF : FT 148 = some ⟨1, 1, T__law_fields⟩) : At FT 1 SpFields := at_of (C := fun _ => True) hF (fun _ _ => trivial) fun cs cs' _ go => by
  intro c ks vs us code st k x h1 h2 hk
  refine go _ _ _ _ rfl ?_
  have hd : ∀ l : List PV, l.length ≤ 10 → opIn (.str code) (.lst l) st = fun k => isDL 0 l = true ∧ k (isC l code) st := fun l _ => by
    funext k
    simp [opIn, asL, isD, isC]
  simp only [T__law_fields, sCons, sIf, sNil, tCmp, eXFld, eLst, eTup, sRet, aCons, aNil, eC, eVar, h1, opCm, opEq, frz, D0, List.map_cons, List.map_nil, List.replicate_zero, List.append_nil, Nat.sub_self, List.getElem?_cons_zero, List.length_cons, List.length_nil, isD, true_and]
  unfold fldsW at h2
  have one : ∀ {n : Nat} {P : Prop}, getsF ks vs [n] = some us → (∀ v, fget ks vs n = some v → us = [v] → P) → P := fun e f => by
    obtain ⟨v, e1, e2⟩ := gets1 e
    exact f v e1 e2
  refine ⟨by decide, ?_⟩
  rw [hd _ (by simp)]
  refine ⟨by rfl, stepC (p := isC fInx code) (fun q => ?_) fun q => ?_⟩
  · simp only [q, if_true] at h2
    refine one h2 fun v e1 e2 => ?_
    subst e2
    simp only [e1]
    exact ⟨by show 1 ≤ 16777216; decide, hk⟩
  simp only [q, Bool.false_eq_true, if_false] at h2
  refine ⟨by decide, ?_⟩
  rw [hd _ (by simp)]
  refine ⟨by rfl, stepC (p := isC fNam code) (fun q => ?_) fun q => ?_⟩
  · simp only [q, if_true] at h2
    refine one h2 fun v e1 e2 => ?_
    subst e2
    simp only [e1]
    exact ⟨by show 1 ≤ 16777216; decide, hk⟩
  simp only [q, Bool.false_eq_true, if_false] at h2
  refine ⟨by decide, ?_⟩
  rw [hd _ (by simp)]
  refine ⟨by rfl, stepC (p := isC fMost code) (fun q => ?_) fun q => ?_⟩
  · simp only [q, if_true] at h2
    refine one h2 fun v e1 e2 => ?_
    subst e2
    simp only [e1]
    exact ⟨by show 1 ≤ 16777216; decide, hk⟩
  simp only [q, Bool.false_eq_true, if_false] at h2
  refine ⟨by decide, ?_⟩
  rw [hd _ (by simp)]
  refine ⟨by rfl, stepC (p := isC fHs code) (fun q => ?_) fun q => ?_⟩
  · simp only [q, if_true] at h2
    refine one h2 fun v e1 e2 => ?_
    subst e2
    simp only [e1]
    exact ⟨by show 1 ≤ 16777216; decide, hk⟩
  simp only [q, Bool.false_eq_true, if_false] at h2
  refine ⟨by decide, ?_⟩
  rw [hd _ (by simp)]
  refine ⟨by rfl, stepC (p := isC fGiv code) (fun q => ?_) fun q => ?_⟩
  · simp only [q, if_true] at h2
    refine one h2 fun v e1 e2 => ?_
    subst e2
    simp only [e1]
    exact ⟨by show 1 ≤ 16777216; decide, hk⟩
  simp only [q, Bool.false_eq_true, if_false] at h2
  refine stepC (p := eqC code [85, 110, 107, 110, 111, 119, 110, 76, 97, 98, 101, 108]) (fun q => ?_) fun q => ?_
  · simp only [q, if_true] at h2
    refine one h2 fun v e1 e2 => ?_
    subst e2
    simp only [e1]
    exact ⟨by show 1 ≤ 16777216; decide, hk⟩
  simp only [q, Bool.false_eq_true, if_false] at h2
  refine stepC (p := eqC code [78, 111, 116, 84, 105, 101, 100]) (fun q => ?_) fun q => ?_
  · simp only [q, if_true] at h2
    unfold getsF at h2
    cases e : fget ks vs 30 with
    | none => rw [e] at h2; cases h2
    | some v =>
      cases e2 : getsF ks vs [50] with
      | none => rw [e, e2] at h2; cases h2
      | some us' =>
        rw [e, e2] at h2
        cases h2
        obtain ⟨v', e3, e4⟩ := gets1 e2
        subst e4
        simp only [e3]
        exact ⟨by show 2 ≤ 16777216; decide, hk⟩
  simp only [q, Bool.false_eq_true, if_false] at h2
  refine stepC (p := eqC code [73, 110, 118, 97, 108, 105, 100, 84, 101, 120, 116]) (fun q => ?_) fun q => ?_
  · simp only [q, if_true] at h2
    refine one h2 fun v e1 e2 => ?_
    subst e2
    simp only [e1]
    exact ⟨by show 1 ≤ 16777216; decide, hk⟩
  simp only [q, Bool.false_eq_true, if_false] at h2
  unfold getsF at h2
  cases h2
  exact ⟨by show 0 ≤ 16777216; decide, hk⟩
theorem kill_len (st : Store) : (killL st).length = st.length := by simp [killL]
theorem kill_get (st : Store) (i : Nat) : (killL st)[i]? = (st[i]?).map dead1 := by simp [killL]
theorem reviv_len : ∀ (st st' : Store), (reviv st st').length = st'.length
  | [], _ => rfl
  | _ :: _, [] => rfl
  | _ :: st, _ :: st' => by simp [reviv, reviv_len st st']
theorem reviv_at : ∀ (st st' : Store) (i : Nat), i < st.length → (killL st)[i]? = st'[i]? → (reviv st st')[i]? = st[i]?
  | [], _, i, h, _ => absurd h (Nat.not_lt_zero _)
  | o :: st, [], i, h, e => by
    rw [kill_get] at e
    have : (o :: st)[i]? = some ((o :: st)[i]) := List.getElem?_eq_getElem h
    rw [this] at e
    cases e
  | o :: st, o' :: st', 0, h, e => by
    have e' : dead1 o = o' := Option.some.inj e
    show some (if isLive o = true then o else o') = some o
    congr 1
    unfold dead1 at e'
    by_cases q : isLive o = true
    · rw [if_pos q]
    · rw [if_neg q] at e' ⊢
      exact e'.symm
  | o :: st, o' :: st', i + 1, h, e => by
    show (reviv st st')[i]? = st[i]?
    exact reviv_at st st' i (Nat.lt_of_succ_lt_succ h) e
theorem reviv_grow {st st' : Store} (g : Grow (killL st) st') : Grow st (reviv st st') :=
  ⟨by rw [reviv_len, ← kill_len st]; exact g.1, fun i hi => reviv_at st st' i hi (g.2 i (by rw [kill_len]; exact hi)).symm⟩
def Stay (st st' : Store) : Prop := ∀ (i : Nat) (o : SO), st[i]? = some o → isLive o = false → st'[i]? = some o
theorem Grow.stay {st st' : Store} (g : Grow st st') : Stay st st' := fun i o h _ => (g.2 i (List.getElem?_eq_some_iff.mp h).1).trans h
theorem Stay.trans {st st1 st2 : Store} (h : Stay st st1) (h' : Stay st1 st2) : Stay st st2 := fun i o e n => h' i o (h i o e n) n
theorem kill_stay (st : Store) : Stay st (killL st) := fun i o h n => by
  rw [kill_get, h]
  show some (if isLive o = true then SO.dead else o) = some o
  rw [n]
  rfl
theorem Bag.stay {st st' : Store} {r b : Nat} (h : Bag st r b) (g : Stay st st') : Bag st' r b := by
  obtain ⟨cells, i, dig, mixed, turn, h1, h2⟩ := h
  exact ⟨cells, i, dig, mixed, turn, g r _ h1 rfl, h2⟩
def okW : PV := .tup [.str [], .non]
def errW : PV → Option PV
  | .exc _ ks vs => match fget ks vs 22 with
    | some (.str code) => (match getsF ks vs (fldsW code) with
      | some us => if code = [] then none else some (.tup [.str code, .tup us])
      | none => none)
    | _ => none
  | _ => none
def Firm (Pre : Store → Prop) : Prop := ∀ st st', Stay st st' → Pre st → Pre st'
def GoodO (Pre : Store → Prop) (cs : CS) (n : Nat) (caps : List PV) (w : PV) : Prop := ∀ (st : Store) (k x : KV), Pre st → (w = okW → ∀ v st', Grow st st' → k v st') → (∀ e st', errW e = some w → Grow st st' → x e st') → cs n caps st k x
def SpGot (FT : Nat → Option FD) (d : Nat) (cs : CS) : Prop := ∀ (Pre : Store → Prop) (u : PV) (st : Store) (n : Nat) (caps : List PV) (w : PV) (k x : KV), Firm Pre → Pre st → actOf st u = some (n, caps) → 1000000 ≤ n → At FT d (fun cs => GoodO Pre cs n caps w) →
  (w = okW → ∀ v st', Grow st st' → k (.tup [.str [], v]) st') → (w ≠ okW → ∀ st', Grow st st' → k w st') → cs 149 [u] st k x
theorem errW_ne {e w : PV} (h : errW e = some w) : w ≠ okW := by
  intro z
  subst z
  unfold errW at h
  split at h
  · split at h
    · split at h
      · split at h
        · cases h
        · rename_i hne
          cases h
      · cases h
    · cases h
  · cases h
theorem errW_ex {e w : PV} (h : errW e = some w) : ∃ c ks vs code us, e = .exc c ks vs ∧ fget ks vs 22 = some (.str code) ∧ getsF ks vs (fldsW code) = some us ∧ w = .tup [.str code, .tup us] ∧ code ≠ [] := by
  unfold errW at h
  split at h
  · rename_i c ks vs
    split at h
    · rename_i code h1
      split at h
      · rename_i us h2
        split at h
        · cases h
        · rename_i hne
          cases h
          exact ⟨c, ks, vs, code, us, rfl, h1, h2, rfl, hne⟩
      · cases h
    · cases h
  · cases h
theorem got_at {FT : Nat → Option FD} {d : Nat} (hF : FT 149 = some ⟨1, 2, T__law_got⟩) (hf : At FT d SpFields) : At FT (d + 1) (SpGot FT d) := at_of (C := fun cs => SpFields cs ∧ ∃ n, d ≤ n ∧ cs = callN FT n) hF (fun n hn => ⟨hf n hn, n, hn, rfl⟩) fun cs cs' C go => by
  obtain ⟨fl, m, hm, rfl⟩ := C
  intro Pre u st n caps w k x hP hp ha hn hg h1 h2
  refine go _ _ _ _ rfl ?_
  simp only [T__law_got, sTryR, eTup, aCons, aNil, eC, eAct, eVar, D0, runAct, ha, List.map_cons, List.map_nil, List.replicate_succ, List.replicate_zero, List.cons_append, List.nil_append, Nat.reduceSub, List.getElem?_cons_zero]
  refine ⟨hn, hg m hm _ _ _ (hP _ _ (kill_stay st) hp) (fun ew v st' g => ⟨by show 2 ≤ 16777216; decide, h1 ew v _ (reviv_grow g)⟩) fun e st' he g => ?_⟩
  obtain ⟨c, ks, vs, code, us, rfl, e1, e2, rfl, e3⟩ := errW_ex he
  refine ⟨rfl, ?_⟩
  simp only [sRet, eTup, aCons, aNil, eXFld, eVar, eCall, e1, List.set_cons_succ, List.set_cons_zero, List.getElem?_cons_zero, List.getElem?_cons_succ]
  refine fl c ks vs us code _ _ _ e1 e2 ⟨by show 2 ≤ 16777216; decide, ?_⟩
  exact h2 (errW_ne he) _ (reviv_grow g)
def SpWhyL (FT : Nat → Option FD) (d : Nat) (cs : CS) : Prop := ∀ (Pre : Store → Prop) (u : PV) (st : Store) (n : Nat) (caps : List PV) (w : PV) (k x : KV), Firm Pre → Pre st → actOf st u = some (n, caps) → 1000000 ≤ n → At FT d (fun cs => GoodO Pre cs n caps w) →
  (∃ a b, w = .tup [.str a, b] ∧ (w ≠ okW → a ≠ [])) → (∀ st', Grow st st' → k w st') → cs 150 [u] st k x
theorem whyL_at {FT : Nat → Option FD} {d : Nat} (hF : FT 150 = some ⟨1, 2, T__law_why⟩) (hg : At FT (d + 1) (SpGot FT d)) : At FT (d + 2) (SpWhyL FT d) := at_of hF hg fun cs cs' G go => by
  intro Pre u st n caps w k x hP hp ha hn h0 hw hk
  obtain ⟨a, b, rfl, hwa⟩ := hw
  refine go _ _ _ _ rfl ?_
  simp only [T__law_why, sCons, sSet, eCall, aCons, aNil, eVar, gName, List.map_cons, List.map_nil, List.replicate_succ, List.replicate_zero, List.cons_append, List.nil_append, Nat.reduceSub, List.getElem?_cons_zero, List.set_cons_succ, List.set_cons_zero]
  have e0 : ∀ (st' : Store) (s : List Nat) (v : PV), (∀ k' : KV, k' (.str s) st' → getIx (.tup [.str s, v]) (.int 0) st' k') := fun st' s v k' h => h
  refine G Pre u st n caps _ _ _ hP hp ha hn h0 (fun ew v st' g => ?_) fun hne st' g => ?_
  · simp only [sRet, eIf, tCmp, eIx, eVar, eC, eTup, aCons, aNil, opCm, opEq, frz, D0, List.getElem?_cons_zero, List.getElem?_cons_succ]
    refine e0 _ _ _ _ ⟨rfl, rfl, ?_⟩
    have q : eqv (.str ([] : List Nat)) (.str []) = true := by simp [eqv]
    simp only [q, Bool.not_true, Bool.false_eq_true, if_false]
    rw [ew] at hk
    exact ⟨by show 2 ≤ 16777216; decide, hk _ g⟩
  · simp only [sRet, eIf, tCmp, eIx, eVar, eC, opCm, opEq, frz, D0, List.getElem?_cons_zero, List.getElem?_cons_succ]
    refine e0 _ _ _ _ ⟨rfl, rfl, ?_⟩
    have q : eqv (.str a) (.str []) = false := by
      have := hwa hne
      cases a with
      | nil => exact absurd rfl this
      | cons c cs => simp [eqv]
    simp only [q, Bool.not_false, if_true]
    exact hk _ g
def okWord (w : PV) : Prop := ∃ a b, w = .tup [.str a, b] ∧ (w ≠ okW → a ≠ [])
inductive Deeds (FT : Nat → Option FD) (d : Nat) (Pre : Store → Prop) : List (Nat × List PV) → List PV → Prop
  | nil : Deeds FT d Pre [] []
  | cons {n caps w ls ws} : 1000000 ≤ n → At FT d (fun cs => GoodO Pre cs n caps w) → okWord w → Deeds FT d Pre ls ws → Deeds FT d Pre ((n, caps) :: ls) (w :: ws)
theorem Deeds.len {FT : Nat → Option FD} {d : Nat} {Pre : Store → Prop} {ls : List (Nat × List PV)} {ws : List PV} (h : Deeds FT d Pre ls ws) : ws.length = ls.length := by
  induction h with
  | nil => rfl
  | cons _ _ _ _ ih => rw [List.length_cons, List.length_cons, ih]
theorem Deeds.get {FT : Nat → Option FD} {d : Nat} {Pre : Store → Prop} {ls : List (Nat × List PV)} {ws : List PV} (h : Deeds FT d Pre ls ws) : ∀ {j n : Nat} {caps : List PV}, ls[j]? = some (n, caps) → ∃ w, ws[j]? = some w ∧ 1000000 ≤ n ∧ At FT d (fun cs => GoodO Pre cs n caps w) ∧ okWord w := by
  induction h with
  | nil => intro j n caps e; cases e
  | cons h1 h2 h3 _ ih =>
    intro j n caps e
    cases j with
    | zero => cases e; exact ⟨_, rfl, h1, h2, h3⟩
    | succ j => exact ih e
def SpWhys (FT : Nat → Option FD) (d : Nat) (cs : CS) : Prop := ∀ (Pre : Store → Prop) (i : Nat) (ls : List (Nat × List PV)) (ws : List PV) (st : Store) (k x : KV), Firm Pre → Pre st → st[i]? = some (.live false ls) → ls.length ≤ 100 → Deeds FT d Pre ls ws → (∀ st', Grow st st' → k (.lst ws) st') →
  cs 151 [.lst ((List.range ls.length).map fun j => .lam i (some j))] st k x
theorem whys_at {FT : Nat → Option FD} {d : Nat} (hF : FT 151 = some ⟨1, 2, T__law_whys⟩) (hg : At FT (d + 2) (SpWhyL FT d)) : At FT (d + 3) (SpWhys FT d) := at_of hF hg fun cs cs' G go => by
  intro Pre i ls ws st k x hP hp hi hl hd hk
  refine go _ _ _ _ rfl ?_
  simp only [T__law_whys, sRet, eComp, iE, eVar, items, isSeq, asL, D0, List.map_cons, List.map_nil, List.replicate_succ, List.replicate_zero, List.cons_append, List.nil_append, Nat.reduceSub, List.getElem?_cons_zero, true_and, wipe, List.set_cons_succ, List.set_cons_zero]
  refine comp_inv (fun xs acc st' => Grow st st' ∧ ∃ j, j ≤ ls.length ∧ xs = ((List.range ls.length).map fun j => PV.lam i (some j)).drop j ∧ acc = ws.take j) ?_ ?_ _ _ _ ⟨Grow.refl, 0, Nat.zero_le _, rfl, rfl⟩
  · rintro v r acc st' ⟨g, j, hj, e1, rfl⟩
    refine ⟨trivial, fun k' hk' => ?_⟩
    have hjl : j < ls.length := by
      rcases Nat.lt_or_ge j ls.length with h | h
      · exact h
      · rw [List.drop_eq_nil_of_le (by simpa using h)] at e1
        cases e1
    rw [List.drop_eq_getElem_cons (by simpa using hjl)] at e1
    obtain ⟨rfl, rfl⟩ := List.cons.inj e1
    simp only [turn, gName, tYes, if_true, eCall, aCons, aNil, eVar, List.set_cons_succ, List.set_cons_zero, List.getElem?_cons_zero, List.getElem?_cons_succ, List.getElem_map, List.getElem_range]
    obtain ⟨⟨n, caps⟩, hlj⟩ : ∃ p, ls[j]? = some p := ⟨_, List.getElem?_eq_getElem hjl⟩
    obtain ⟨w, hw, h1, h2, h3⟩ := hd.get hlj
    have hi' : st'[i]? = some (.live false ls) := (g.2 i (List.getElem?_eq_some_iff.mp hi).1).trans hi
    refine G Pre _ st' n caps w _ _ hP (hP _ _ g.stay hp) (by simp [actOf, hi', hlj]) h1 h2 h3 fun st2 g2 => hk' _ _ ?_
    have wl : j < ws.length := by rw [hd.len]; exact hjl
    refine ⟨by rw [List.length_take]; show _ < 16777216; omega, g.trans g2, j + 1, hjl, rfl, ?_⟩
    rw [List.take_succ, hw]
    rfl
  · rintro acc st' ⟨g, j, hj, e1, rfl⟩
    refine ⟨trivial, ?_⟩
    have : ls.length ≤ j := by
      rcases Nat.lt_or_ge j ls.length with h | h
      · rw [List.drop_eq_getElem_cons (by simpa using h)] at e1
        cases e1
      · exact h
    rw [List.take_of_length_le (by rw [hd.len]; exact this)]
    exact hk _ g
theorem lams_ok {FT : Nat → Option FD} {d : Nat} {cs : CS} {ls : List (Nat × List Nat)} {cl : List (Nat × List PV)} {ws : List PV} {ρ : Env} {st : Store} {k x : KV} {Pre : Store → Prop} (W : SpWhys FT d cs) (hP : Firm Pre) (hp : Pre st) (hc : capsAll ρ ls = some cl) (hl : cl.length = ls.length) (h100 : ls.length ≤ 100) (hd : Deeds FT d Pre cl ws)
    (hk : ∀ st', Stay st st' → st.length ≤ st'.length → k (.lst ws) st') : eLams cs 151 ls ρ st k x := by
  unfold eLams
  rw [hc]
  have e : ∀ o : SO, (st ++ [o])[st.length]? = some o := fun o => by simp
  rw [← hl]
  refine W Pre st.length cl ws _ (fun v st' => k v (killL st')) _ hP (hP _ _ (Grow.app (st := st)).stay hp) (e _) (by omega) hd fun st' g => hk (killL st') (((Grow.app (st := st)).trans g).stay.trans (kill_stay st')) ?_
  rw [kill_len]
  exact ((Grow.app (st := st)).trans g).1
theorem lam1_ok {FT : Nat → Option FD} {d : Nat} {cs : CS} {l : Nat × List Nat} {n : Nat} {caps : List PV} {w : PV} {ρ : Env} {st : Store} {k x : KV} {Pre : Store → Prop} (W : SpWhyL FT d cs) (hP : Firm Pre) (hp : Pre st) (hc : capsAll ρ [l] = some [(n, caps)]) (hn : 1000000 ≤ n) (hd : At FT d fun cs => GoodO Pre cs n caps w) (hw : okWord w)
    (hk : ∀ st', Stay st st' → st.length ≤ st'.length → k w st') : eLam1 cs 150 l ρ st k x := by
  unfold eLam1
  rw [hc]
  have e : ∀ o : SO, (st ++ [o])[st.length]? = some o := fun o => by simp
  refine W Pre (.lam st.length none) (st ++ [.live true [(n, caps)]]) n caps w (fun v st' => k v (killL st')) _ hP (hP _ _ (Grow.app (st := st)).stay hp) ?_ hn hd hw fun st' g => hk (killL st') (((Grow.app (st := st)).trans g).stay.trans (kill_stay st')) ?_
  · simp [actOf]
  · rw [kill_len]
    exact ((Grow.app (st := st)).trans g).1
theorem firm_true : Firm fun _ => True := fun _ _ _ _ => trivial
end VP
end
section
namespace VP
open VM
theorem errW_of {c : Nat} {ks : List Nat} {vs us : List PV} {code : List Nat} (h1 : fget ks vs 22 = some (.str code)) (h2 : getsF ks vs (VP.fldsW code) = some us) (h3 : code ≠ []) : errW (.exc c ks vs) = some (.tup [.str code, .tup us]) := by
  simp only [errW, h1, h2, h3, if_false]
def cUnk : List Nat := [85, 110, 107, 110, 111, 119, 110, 78, 97, 109, 101]
def eUnk (v : PV) : PV := .exc 31 [61, 22] [v, .str cUnk]
def w1 (code : List Nat) (v : PV) : PV := .tup [.str code, .tup [v]]
theorem unk_w (v : PV) : errW (eUnk v) = some (w1 cUnk v) := errW_of rfl (by rw [show VP.fldsW cUnk = [61] by simp [VP.fldsW, isC, eqC, fInx, fNam, fMost, fHs, fGiv, cUnk, eqv]]; rfl) (by decide)
theorem w1_ok {code : List Nat} (h : code ≠ []) (v : PV) : okWord (w1 code v) := ⟨code, .tup [v], rfl, fun _ => h⟩
theorem sm_w1 {n : Nat} {code : List Nat} {v : PV} (h : Sm n v) : Sm (n + 2) (w1 code v) := ⟨by show 2 ≤ 16777216; decide, fun x m => by
  simp only [List.mem_cons, List.not_mem_nil, or_false] at m
  rcases m with e | e <;> subst e
  · cases n <;> trivial
  · exact ⟨by show 1 ≤ 16777216; decide, fun x m => by rw [List.mem_singleton.mp m]; exact h⟩⟩
end VP
end
section
namespace VM
theorem ltS_iff : ∀ a b : List Nat, ltS a b = true ↔ a < b
  | [], [] => by simp [ltS]
  | [], y :: ys => by simp [ltS]
  | x :: xs, [] => by simp [ltS]
  | x :: xs, y :: ys => by
    unfold ltS
    rw [List.cons_lt_cons_iff]
    by_cases h : x < y
    · simp [h]
    · by_cases e : x = y
      · subst e
        simp [ltS_iff xs ys]
      · simp [h, e]
def asc (l : List (List Nat)) : Prop := l.Pairwise fun a b => ltS b a = false
theorem ltS_irrefl (a : List Nat) : ltS a a = false := by
  cases h : ltS a a with
  | false => rfl
  | true => exact absurd ((ltS_iff a a).mp h) (List.lt_irrefl a)
theorem ltS_trans {a b c : List Nat} (h : ltS a b = true) (h' : ltS b c = true) : ltS a c = true := (ltS_iff a c).mpr (List.lt_trans ((ltS_iff a b).mp h) ((ltS_iff b c).mp h'))
theorem ltS_tri {a b : List Nat} (h : ltS a b = false) (h' : ltS b a = false) : a = b := by
  have h1 : ¬ a < b := fun z => by rw [(ltS_iff a b).mpr z] at h; cases h
  have h2 : ¬ b < a := fun z => by rw [(ltS_iff b a).mpr z] at h'; cases h'
  exact List.le_antisymm (List.not_lt.mp h2) (List.not_lt.mp h1)
theorem ltS_asym {a b : List Nat} (h : ltS a b = true) : ltS b a = false := by
  cases q : ltS b a with
  | false => rfl
  | true => exact absurd (ltS_trans h q) (by rw [ltS_irrefl]; decide)
theorem le_trans' {a b c : List Nat} (h : ltS b a = false) (h' : ltS c b = false) : ltS c a = false := by
  cases q : ltS c a with
  | false => rfl
  | true =>
    by_cases e : ltS a b = true
    · rw [ltS_trans q e] at h'
      cases h'
    · have e : ltS a b = false := by simpa using e
      have := ltS_tri h e
      subst this
      rw [q] at h'
      cases h'
theorem insS_perm (x : List Nat) : ∀ l, (insS x l).Perm (x :: l)
  | [] => List.Perm.refl _
  | y :: ys => by
    unfold insS
    split
    · exact ((insS_perm x ys).cons y).trans (List.Perm.swap x y ys)
    · exact List.Perm.refl _
theorem sortS_perm : ∀ l, (sortS l).Perm l
  | [] => List.Perm.refl _
  | x :: xs => by
    unfold sortS
    exact (insS_perm x _).trans ((sortS_perm xs).cons x)
theorem insS_asc (x : List Nat) : ∀ l, asc l → asc (insS x l)
  | [], _ => List.pairwise_singleton _ _
  | y :: ys, h => by
    obtain ⟨h1, h2⟩ := List.pairwise_cons.mp h
    unfold insS
    split
    · rename_i q
      refine List.pairwise_cons.mpr ⟨fun z hz => ?_, insS_asc x ys h2⟩
      rcases List.mem_cons.mp ((insS_perm x ys).mem_iff.mp hz) with rfl | hz
      · exact ltS_asym q
      · exact h1 z hz
    · rename_i q
      have q : ltS y x = false := by simpa using q
      refine List.pairwise_cons.mpr ⟨fun z hz => ?_, h⟩
      rcases List.mem_cons.mp hz with rfl | hz
      · exact q
      · exact le_trans' q (h1 z hz)
theorem sortS_asc : ∀ l, asc (sortS l)
  | [] => List.Pairwise.nil
  | x :: xs => insS_asc x _ (sortS_asc xs)
theorem asc_uniq : ∀ {l l' : List (List Nat)}, asc l → asc l' → l.Perm l' → l = l'
  | [], l', _, _, p => p.nil_eq
  | x :: xs, l', h, h', p => by
    cases l' with
    | nil => exact absurd p.length_eq (by simp)
    | cons y ys =>
      obtain ⟨h1, h2⟩ := List.pairwise_cons.mp h
      obtain ⟨h3, h4⟩ := List.pairwise_cons.mp h'
      have e : x = y := by
        rcases List.mem_cons.mp (p.mem_iff.mp (List.mem_cons_self ..)) with e | m
        · exact e
        · rcases List.mem_cons.mp (p.symm.mem_iff.mp (List.mem_cons_self ..)) with e | m'
          · exact e.symm
          · exact ltS_tri (h3 x m) (h1 y m') |>.symm ▸ rfl
      subst e
      rw [asc_uniq h2 h4 (List.Perm.cons_inv p)]
end VM
end
section
namespace VP
open VM ML
theorem nms_comp {i j : Nat} {ρ : Env} {stay : Store → Prop} {st : Store} {k : List PV → Store → Prop} {ts : List Tm} (hst : stay st) (hij : i ≠ j) (li : i < ρ.length) (hl : ts.length ≤ 1000) (hk : k (strz (ts.map Prod.fst)) st) :
    compGo (gTup [gName i, gName j]) tYes (eVar i) [i, j] stay (ts.map tmW) [] ρ st k := by
  refine comp_of tmW (fun p => some (.str p.1)) hst ts (fun p hp k' hk' => ?_) (by show _ ≤ 16777216; omega) ?_
  · simp only [turn, tmW, gTup, gEach, gName, tYes, if_true, eVar, List.length_cons, List.length_nil, true_and]
    rw [List.getElem?_set_ne (Ne.symm hij), List.getElem?_set_self li]
    exact hk'
  · have e2 : ts.filterMap (fun p => some (PV.str p.1)) = strz (ts.map Prod.fst) := by
      rw [show (fun p : Tm => some (PV.str p.1)) = some ∘ (fun p => PV.str p.1) from rfl, List.filterMap_eq_map]
      simp
    rw [e2]
    exact hk
def SpNOf (cs : CS) : Prop := ∀ (ts : List Tm) (st : Store) (k x : KV), ts.length ≤ 11 → k (.lst (strz (sortS (ts.map Prod.fst)))) st → cs 205 [.tup (ts.map tmW)] st k x
theorem sorted_nms {i j : Nat} {ρ : Env} {stay : Store → Prop} {st : Store} {k : KV} {ts : List Tm} (hst : stay st) (hij : i ≠ j) (li : i < ρ.length) (hl : ts.length ≤ 11) (hk : k (.lst (strz (sortS (ts.map Prod.fst)))) st) :
    compGo (gTup [gName i, gName j]) tYes (eVar i) [i, j] stay (ts.map tmW) [] ρ st fun ys st => match seqOf st (.lst ys) with
  | some xs => match asStrs xs with
    | some ss => ss.length < 64 ∧ k (.lst ((sortS ss).map .str)) st
    | none => False
  | none => False := by
  refine nms_comp hst hij li (by omega) ?_
  simp only [seqOf, asL, asStrs_map]
  exact ⟨by rw [List.length_map]; omega, hk⟩
theorem nof_at {FT : Nat → Option FD} (hF : FT 205 = some ⟨1, 3, T_names_of⟩) : At FT 1 SpNOf := at_of (C := fun _ => True) hF (fun _ _ => trivial) fun cs cs' _ go => by
  intro ts st k x hl hk
  refine go _ _ _ _ rfl ?_
  simp only [T_names_of, sRet, eSortedS, eComp, iE, eVar, items, isSeq, D0, wipe, List.map_cons, List.map_nil, List.replicate_succ, List.replicate_zero, List.cons_append, List.nil_append, Nat.reduceSub, List.getElem?_cons_zero, List.getElem?_cons_succ, List.set_cons_zero, List.set_cons_succ, true_and]
  exact sorted_nms trivial (by decide) (by simp) hl hk
theorem dfind_none : ∀ {ns : List Nm} {vs : List Int} {s : Nm}, s ∉ ns → dfind (strz ns) (pvis vs) (.str s) = none
  | [], vs, s, _ => by cases vs <;> rfl
  | n :: ns, [], s, _ => rfl
  | n :: ns, a :: vs, s, h => by
    show (if (n == s) = true then some (PV.int a) else dfind (strz ns) (pvis vs) (.str s)) = _
    rw [if_neg (by simpa using fun z : n = s => h (z ▸ List.mem_cons_self))]
    exact dfind_none fun z => h (List.mem_cons_of_mem _ z)
def SpSmOf (cs : CS) : Prop := ∀ (ts : List Tm) (ns : List Nm) (vs : List Int) (st : Store) (k x : KV), ts.length ≤ 1000 → (∀ p ∈ ts, p.2.natAbs ≤ 1000) → vs.length = ns.length → (∀ a ∈ vs, a.natAbs < 2 ^ 30) →
  ((∀ p ∈ ts, p.1 ∈ ns) → k (.int (sumT ns vs ts)) st) → (∀ d p r, ts = d ++ p :: r → (∀ q ∈ d, q.1 ∈ ns) → p.1 ∉ ns → x (eUnk (.str p.1)) st) → cs 206 [.tup (ts.map tmW), .dct (strz ns) (pvis vs)] st k x
theorem sumT_app {ns : List Nm} {vs : List Int} {d : List Tm} {p : Tm} : sumT ns vs (d ++ [p]) = sumT ns vs d + p.2 * valN ns vs p.1 := by
  unfold sumT
  rw [List.map_append, List.sum_append]
  simp
theorem smof_at {FT : Nat → Option FD} (hF : FT 206 = some ⟨2, 5, T_sum_of⟩) : At FT 1 SpSmOf := at_of (C := fun _ => True) hF (fun _ _ => trivial) fun cs cs' _ go => by
  intro ts ns vs st k x tl tok vl vb hk hx
  refine go _ _ _ _ rfl ?_
  unfold T_sum_of
  simp only [sCons, sSet, eC, gName, sFor, iE, eVar, items, D0, List.map_cons, List.map_nil, List.replicate_succ, List.replicate_zero, List.cons_append, List.nil_append, Nat.reduceSub, List.getElem?_cons_zero, List.getElem?_cons_succ, List.set_cons_zero, List.set_cons_succ]
  refine ⟨rfl, ?_⟩
  refine for_inv (fun rem ρ st' => st' = st ∧ ∃ (d r : List Tm) (a3 a4 : Option PV), ts = d ++ r ∧ (∀ q ∈ d, q.1 ∈ ns) ∧ rem = r.map tmW ∧ ρ = [some (.tup (ts.map tmW)), some (.dct (strz ns) (pvis vs)), some (.int (sumT ns vs d)), a3, a4]) ?_ ?_ _ _ _ ⟨rfl, [], ts, none, none, rfl, by simp, rfl, rfl⟩
  · rintro v rem ρ st' ⟨rfl, d, r, a3, a4, e1, h1, e2, rfl⟩
    refine ⟨trivial, fun D' hrt hxk hbk hnx hct => ?_⟩
    cases r with
    | nil => cases e2
    | cons p r =>
      cases e2
      have pm : p ∈ ts := by rw [e1]; simp
      simp only [tmW, gTup, gEach, gName, sCons, sIf, sNil, tDIn, sRaise, sAddI, eBin, eDGet, aCons, aNil, eVar, asD, isKey_str, List.length_cons, List.length_nil, List.set_cons_zero, List.set_cons_succ, List.getElem?_cons_zero, List.getElem?_cons_succ, true_and]
      by_cases hp : p.1 ∈ ns
      · rw [dfind_val vl hp]
        simp only [Option.isSome_some, bne_self_eq_false, Bool.false_eq_true, if_false, opBin, opMul]
        refine ⟨mulOk_of (a := 10) (b := 30) (by have := tok p pm; show p.2.natAbs < 1024; omega) (vb _ (valN_mem vl hp)) (by decide) (by decide) (by decide), ?_⟩
        refine hnx _ _ ⟨rfl, d ++ [p], r, some (.str p.1), some (.int p.2), by rw [e1, List.append_assoc]; rfl, fun q m => ?_, rfl, ?_⟩
        · rcases List.mem_append.mp m with m | m
          · exact h1 q m
          · rw [List.mem_singleton.mp m]; exact hp
        · rw [sumT_app]
      · rw [dfind_none hp]
        simp only [Option.isSome_none]
        rw [if_pos (by decide)]
        simp only [XI.vals]
        rw [hxk]
        exact hx d p r e1 h1 hp
  · rintro ρ st' ⟨rfl, d, r, a3, a4, e1, h1, e2, rfl⟩
    refine ⟨trivial, ?_⟩
    have r0 : r = [] := by
      cases r with
      | nil => rfl
      | cons p r => cases e2
    subst r0
    rw [List.append_nil] at e1
    subst e1
    simp only [sRet, eVar, List.getElem?_cons_zero, List.getElem?_cons_succ]
    exact hk h1
def dvd03 (m n : Int) : Bool := if m = 0 then n == 0 else n.fmod m == 0
def SpDvs (cs : CS) : Prop := ∀ (m n : Int) (st : Store) (k x : KV), k (.bl (dvd03 m n)) st → cs 207 [.int m, .int n] st k x
theorem dvs_at {FT : Nat → Option FD} (hF : FT 207 = some ⟨2, 2, T_divides⟩) : At FT 1 SpDvs := at_of (C := fun _ => True) hF (fun _ _ => trivial) fun cs cs' _ go => by
  intro m n st k x hk
  refine go _ _ _ _ rfl ?_
  unfold dvd03 at hk
  simp only [T_divides, sCons, sIf, sNil, sRet, tCmp, eCmp, eBin, eC, eVar, opCm, opEq, frz, isD, eqv, D0, List.map_cons, List.map_nil, List.replicate_zero, Nat.sub_self, List.append_nil, List.getElem?_cons_zero, List.getElem?_cons_succ, true_and]
  by_cases h : m = 0
  · rw [if_pos h] at hk
    subst h
    simpa using hk
  · rw [if_neg h] at hk
    rw [if_neg (by simpa using h)]
    simp only [opBin, opMod]
    exact ⟨h, rfl, hk⟩
def SpKps (cs : CS) : Prop := ∀ (ts : List Tm) (v m : Int) (ns : List Nm) (vs : List Int) (st : Store) (k x : KV), ts.length ≤ 1000 → (∀ p ∈ ts, p.2.natAbs ≤ 1000) → vs.length = ns.length → (∀ a ∈ vs, a.natAbs < 2 ^ 30) →
  ((∀ p ∈ ts, p.1 ∈ ns) → k (.bl (dvd03 m (sumT ns vs ts - v))) st) → (∀ d p r, ts = d ++ p :: r → (∀ q ∈ d, q.1 ∈ ns) → p.1 ∉ ns → x (eUnk (.str p.1)) st) → cs 208 [rowW ts v m, .dct (strz ns) (pvis vs)] st k x
theorem kps_at {FT : Nat → Option FD} (hF : FT 208 = some ⟨2, 2, T_keeps⟩) (h1 : At FT 1 SpSmOf) (h2 : At FT 1 SpDvs) : At FT 2 SpKps := at_of (C := fun cs => SpSmOf cs ∧ SpDvs cs) hF (fun n hn => ⟨h1 n hn, h2 n hn⟩) fun cs cs' C go => by
  obtain ⟨sm, dv⟩ := C
  intro ts v m ns vs st k x tl tok vl vb hk hx
  refine go _ _ _ _ rfl ?_
  simp only [T_keeps, sRet, eCall, eIx, eBin, eC, eVar, aCons, aNil, D0, List.map_cons, List.map_nil, List.replicate_zero, Nat.sub_self, List.append_nil, List.getElem?_cons_zero, List.getElem?_cons_succ]
  refine get_tup (i := 2) rfl (get_tup (i := 0) rfl (sm ts ns vs st _ _ tl tok vl vb (fun h => ?_) hx))
  refine get_tup (i := 1) rfl ?_
  simp only [opBin, opSub]
  exact dv _ _ _ _ _ (hk h)
structure Miss (ts : List Tm) (ls : List Nm) (s : Nm) : Prop where
  no : ¬ ∀ p ∈ ts, p.1 ∈ ls
  fst : ∀ d p r, ts = d ++ p :: r → (∀ q ∈ d, q.1 ∈ ls) → p.1 ∉ ls → p.1 = s
section
variable {FT : Nat → Option FD} {d : Nat} {ts : List Tm} {ls : List Nm} {us : List Int} {s : Nm}
theorem d0_03 (hF : FT 1000055 = some ⟨2, 2, fun cs => sRet (eCall cs 206 (aCons (eVar 0) (aCons (eVar 1) aNil)))⟩) (M : Miss ts ls s) (tl : ts.length ≤ 1000) (tok : ∀ p ∈ ts, p.2.natAbs ≤ 1000) (vl : us.length = ls.length) (vb : ∀ a ∈ us, a.natAbs < 2 ^ 30) (h : At FT d SpSmOf) :
    At FT (d + 1) fun cs => GoodO (fun _ => True) cs 1000055 [.tup (ts.map tmW), .dct (strz ls) (pvis us)] (w1 cUnk (.str s)) := at_of hF h fun cs cs' sm go => by
  intro st k x _ _ hx
  refine go _ _ _ _ rfl ?_
  simp only [sRet, eCall, aCons, aNil, eVar, D0, List.map_cons, List.map_nil, List.replicate_zero, Nat.sub_self, List.append_nil, List.getElem?_cons_zero, List.getElem?_cons_succ]
  refine sm ts ls us st _ _ tl tok vl vb (fun z => (M.no z).elim) fun d p r e1 e2 e3 => ?_
  rw [M.fst d p r e1 e2 e3]
  exact hx _ _ (unk_w _) Grow.refl
theorem d1_03 {v m : Int} (hF : FT 1000056 = some ⟨4, 4, fun cs => sRet (eCall cs 208 (aCons (eTup (aCons (eVar 1) (aCons (eVar 2) (aCons (eVar 3) aNil)))) (aCons (eVar 0) aNil)))⟩) (M : Miss ts ls s) (tl : ts.length ≤ 1000) (tok : ∀ p ∈ ts, p.2.natAbs ≤ 1000) (vl : us.length = ls.length) (vb : ∀ a ∈ us, a.natAbs < 2 ^ 30) (h : At FT d SpKps) :
    At FT (d + 1) fun cs => GoodO (fun _ => True) cs 1000056 [.dct (strz ls) (pvis us), .tup (ts.map tmW), .int v, .int m] (w1 cUnk (.str s)) := at_of hF h fun cs cs' kp go => by
  intro st k x _ _ hx
  refine go _ _ _ _ rfl ?_
  simp only [sRet, eCall, eTup, aCons, aNil, eVar, D0, List.map_cons, List.map_nil, List.replicate_zero, Nat.sub_self, List.append_nil, List.getElem?_cons_zero, List.getElem?_cons_succ]
  refine ⟨by show 3 ≤ 16777216; decide, ?_⟩
  refine kp ts v m ls us st _ _ tl tok vl vb (fun z => (M.no z).elim) fun d p r e1 e2 e3 => ?_
  rw [M.fst d p r e1 e2 e3]
  exact hx _ _ (unk_w _) Grow.refl
theorem d2_03 (hF : FT 1000057 = some ⟨1, 1, fun cs => sRet (eCall cs 206 (aCons (eVar 0) (aCons eDNew aNil)))⟩) (M : Miss ts [] s) (tl : ts.length ≤ 1000) (tok : ∀ p ∈ ts, p.2.natAbs ≤ 1000) (h : At FT d SpSmOf) :
    At FT (d + 1) fun cs => GoodO (fun _ => True) cs 1000057 [.tup (ts.map tmW)] (w1 cUnk (.str s)) := at_of hF h fun cs cs' sm go => by
  intro st k x _ _ hx
  refine go _ _ _ _ rfl ?_
  simp only [sRet, eCall, eDNew, aCons, aNil, eVar, D0, List.map_cons, List.map_nil, List.replicate_zero, Nat.sub_self, List.append_nil, List.getElem?_cons_zero, List.getElem?_cons_succ]
  refine sm ts [] [] st _ _ tl tok rfl (by simp) (fun z => (M.no z).elim) fun d p r e1 e2 e3 => ?_
  rw [M.fst d p r e1 e2 e3]
  exact hx _ _ (unk_w _) Grow.refl
end
end VP
end
namespace L_k03
open VM VP
def TL_0 (cs : CS) : TE :=
  (eCall cs 206 (aCons (eVar 0) (aCons (eVar 1) aNil)))
def TL_1 (cs : CS) : TE :=
  (eCall cs 208 (aCons (eTup (aCons (eVar 1) (aCons (eVar 2) (aCons (eVar 3) aNil)))) (aCons (eVar 0) aNil)))
def TL_2 (cs : CS) : TE :=
  (eCall cs 206 (aCons (eVar 0) (aCons eDNew aNil)))
def FT : Nat → Option FD
  | 0 => some ⟨1, 4, T__law_bag⟩
  | 1 => some ⟨2, 5, T__law_take⟩
  | 2 => some ⟨2, 2, T__law_of⟩
  | 3 => some ⟨1, 1, T__law_small⟩
  | 4 => some ⟨1, 1, T__law_big_factor⟩
  | 16 => some ⟨2, 4, T__law_same⟩
  | 17 => some ⟨2, 4, T__law_mixed⟩
  | 22 => some ⟨1, 1, T__law_modulus⟩
  | 46 => some ⟨2, 8, T__law_names⟩
  | 51 => some ⟨3, 5, T__law_terms⟩
  | 148 => some ⟨1, 1, T__law_fields⟩
  | 149 => some ⟨1, 2, T__law_got⟩
  | 150 => some ⟨1, 2, T__law_why⟩
  | 151 => some ⟨1, 2, T__law_whys⟩
  | 205 => some ⟨1, 3, T_names_of⟩
  | 206 => some ⟨2, 5, T_sum_of⟩
  | 207 => some ⟨2, 2, T_divides⟩
  | 208 => some ⟨2, 2, T_keeps⟩
  | 209 => some ⟨1, 17, T_law_k03⟩
  | 1000055 => some ⟨2, 2, fun cs => sRet (TL_0 cs)⟩
  | 1000056 => some ⟨4, 4, fun cs => sRet (TL_1 cs)⟩
  | 1000057 => some ⟨1, 1, fun cs => sRet (TL_2 cs)⟩
  | _ => none
theorem ft_none (m : Nat) (hm : 1000000 ≤ m) (e0 : m ≠ 1000055) (e1 : m ≠ 1000056) (e2 : m ≠ 1000057) : FT m = none := by
  unfold FT
  split <;> first | rfl | omega
end L_k03
section
namespace VP
open VM ML
def hid03 (cs : CS) (r : TS) : TS := (sCons (sSet (gName 4) (eDictP (eComp (iE (eCall cs 17 (aCons (eVar 1) (aCons (eVar 2) aNil)))) (gName 5) tYes (eTup (aCons (eVar 5) (aCons (eCall cs 2 (aCons (eVar 1) (aCons (eLst (aCons (eC (.int 0)) (aCons (eC (.int 1)) (aCons (eNeg (eC (.int 1))) (aCons (eBin .sub (eCall cs 1 (aCons (eVar 1) (aCons (eC (.int 41)) aNil))) (eC (.int 20))) (aCons (eBin .sub (eCall cs 1 (aCons (eVar 1) (aCons (eBin .mul (eC (.int 2)) (eBin .pow (eC (.int 10)) (eC (.int 6)))) aNil))) (eBin .pow (eC (.int 10)) (eC (.int 6)))) aNil)))))) aNil))) aNil))) [5]))) r)
def trm03 (cs : CS) (r : TS) : TS := (sCons (sSet (gName 6) (eCall cs 51 (aCons (eVar 1) (aCons (eVar 2) (aCons (eC (.int 11)) aNil))))) (sCons (sSet (gName 7) (eB1 fSum (eComp (iE (eVar 6)) (gTup [(gName 5), (gName 8)]) tYes (eBin .mul (eVar 8) (eDGet (eVar 4) (eVar 5))) [5, 8]))) (sCons (sSet (gName 9) (eCall cs 22 (aCons (eVar 1) aNil))) r)))
def val03 (cs : CS) (r : TS) : TS := (sCons (sSet (gName 10) (eBin .add (eVar 7) (eCall cs 2 (aCons (eVar 1) (aCons (eLst (aCons (eC (.int 0)) (aCons (eC (.int 0)) (aCons (eC (.int 0)) (aCons (eC (.int 1)) (aCons (eNeg (eC (.int 1))) (aCons (eVar 9) (aCons (eBin .mul (eC (.int 2)) (eVar 9)) (aCons (eBin .sub (eC (.int 0)) (eVar 9)) (aCons (eC (.int 3)) aNil)))))))))) aNil))))) (sCons (sSet (gName 11) (eCmp .eq (eVar 7) (eVar 10))) (sCons (sIf (tCmp .gt (eVar 9) (eC (.int 0))) (sSet (gName 11) (eCmp .eq (eBin .mod (eB1 fInt (eBin .sub (eVar 7) (eVar 10))) (eVar 9)) (eC (.int 0)))) sNil) r)))
def fnd03 (cs : CS) (r : TS) : TS := (sCons (sSet (gName 12) (eDCopy (eVar 4))) (sCons (sSet (gName 13) (eLst (aCons (eCall cs 205 (aCons (eVar 6) aNil)) (aCons (eCall cs 206 (aCons (eVar 6) (aCons (eVar 12) aNil))) (aCons (eCall cs 208 (aCons (eTup (aCons (eVar 6) (aCons (eVar 10) (aCons (eVar 9) aNil)))) (aCons (eVar 12) aNil))) aNil))))) (sCons (sIf (tOr (tNot (tOf (eCall cs 16 (aCons (eVar 13) (aCons (eLst (aCons (eSortedS (eComp (iE (eVar 6)) (gTup [(gName 5), (gName 8)]) tYes (eVar 5) [5, 8])) (aCons (eVar 7) (aCons (eVar 11) aNil)))) aNil))))) (tDNe (eVar 12) (eVar 4))) (sRet (eC (.bl false))) sNil) r)))
def lost03 (cs : CS) : TS := (sIf (tCmp .ne (eVar 6) (eTup aNil)) (sCons (sSet (gName 14) (eCall cs 1 (aCons (eVar 1) (aCons (eB1 fLen (eVar 6)) aNil)))) (sCons (sSet (gName 15) (eDictP (eComp (iE (eVar 2)) (gName 5) (tCmp .ne (eVar 5) (eIx (eIx (eVar 6) (eVar 14)) (eC (.int 0)))) (eTup (aCons (eVar 5) (aCons (eDGet (eVar 4) (eVar 5)) aNil))) [5]))) (sCons (sSet (gName 16) (eLams cs 151 [(1000055, [6, 15]), (1000056, [15, 6, 10, 9])])) (sCons (sIf (tNot (tOf (eCall cs 16 (aCons (eVar 16) (aCons (eBin .mul (eLst (aCons (eTup (aCons (eC (.str [85, 110, 107, 110, 111, 119, 110, 78, 97, 109, 101])) (aCons (eTup (aCons (eIx (eIx (eVar 6) (eVar 14)) (eC (.int 0))) aNil)) aNil))) aNil)) (eC (.int 2))) aNil))))) (sRet (eC (.bl false))) sNil) (sIf (tNot (tOf (eCall cs 16 (aCons (eLam1 cs 150 (1000057, [6])) (aCons (eTup (aCons (eC (.str [85, 110, 107, 110, 111, 119, 110, 78, 97, 109, 101])) (aCons (eTup (aCons (eIx (eIx (eVar 6) (eC (.int 0))) (eC (.int 0))) aNil)) aNil))) aNil))))) (sRet (eC (.bl false))) sNil))))) sNil)
def loop03 (cs : CS) : TS := (sFor (iRange1 (eC (.int 4))) (gName 3) (hid03 cs (trm03 cs (val03 cs (fnd03 cs (lost03 cs))))))
def end03 (cs : CS) : TS := (sRet (eCall cs 16 (aCons (eLst (aCons (eCall cs 206 (aCons (eTup aNil) (aCons eDNew aNil))) (aCons (eCall cs 205 (aCons (eTup aNil) aNil)) aNil))) (aCons (eLst (aCons (eC (.int 0)) (aCons (eLst aNil) aNil))) aNil))))
theorem law03_eq (cs : CS) : T_law_k03 cs = (sCons (sSet (gName 1) (eCall cs 0 (aCons (eVar 0) aNil))) (sCons (sSet (gName 2) (eCall cs 46 (aCons (eVar 1) (aCons (eC (.int 11)) aNil)))) (sCons (loop03 cs) (end03 cs)))) := rfl

structure Cs03 (FT : Nat → Option FD) (d : Nat) (cs : CS) : Prop where
  bag : SpBag0 cs
  tk : SpTake cs
  of : SpOf cs
  mix : SpMixed cs
  nms : SpNames cs
  trm : SpTermsG cs
  md : SpMd cs
  same : SpSame 4 cs
  nof : SpNOf cs
  smo : SpSmOf cs
  kps : SpKps cs
  whys : SpWhys FT d cs
  why : SpWhyL FT d cs
structure H03 (ns ms : List Nm) (vs : List Int) : Prop where
  pm : ms.Perm ns
  nd : ns.Nodup
  l11 : ns.length = 11
  vl : vs.length = ms.length
  vb : ∀ a ∈ vs, a.natAbs ≤ 1000000
theorem H03.vb2 {ns ms : List Nm} {vs : List Int} (H : H03 ns ms vs) : ∀ a ∈ vs, a.natAbs < 2 ^ 30 := fun a ha => by have := H.vb a ha; omega
theorem H03.mem {ns ms : List Nm} {vs : List Int} (H : H03 ns ms vs) {s : Nm} : s ∈ ms ↔ s ∈ ns := H.pm.mem_iff
theorem asInts_pvis : ∀ vs : List Int, asInts (pvis vs) = some vs
  | [] => rfl
  | a :: vs => by
    show (match asInts (pvis vs) with | some s => some (a :: s) | none => none) = _
    rw [asInts_pvis vs]
theorem isDL_tm : ∀ ts : List Tm, isDL 59 (ts.map tmW) = true
  | [] => by simp [isDL]
  | p :: ts => by
    rw [List.map_cons]
    simp only [isDL, Bool.and_eq_true]
    exact ⟨by simp [tmW, isD, isDL], isDL_tm ts⟩
set_option maxHeartbeats 1000000 in
theorem hid03_ok {FT : Nat → Option FD} {d : Nat} {cs : CS} (C : Cs03 FT d cs) {r : TS} {ns : List Nm} (nl : ns.length = 11) (nd : ns.Nodup) {v0 : PV} {st : Store} {D : Ends} {a3 a4 a5 a6 a7 a8 a9 a10 a11 a12 a13 a14 a15 a16 : Option PV} {b : Nat} (hb : Bag st 0 (b + 60))
    (hn : ∀ ms vs st', H03 ns ms vs → Bag st' 0 b → r D [some v0, some (.ref 0), some (.lst (strz ns)), a3, some (.dct (strz ms) (pvis vs)), a5, a6, a7, a8, a9, a10, a11, a12, a13, a14, a15, a16] st') :
    hid03 cs r D [some v0, some (.ref 0), some (.lst (strz ns)), a3, a4, a5, a6, a7, a8, a9, a10, a11, a12, a13, a14, a15, a16] st := by
  unfold hid03
  rw [sCons]
  simp only [sSet, eDictP, eComp, iE, eCall, aCons, aNil, eVar, gName, List.getElem?_cons_zero, List.getElem?_cons_succ]
  have rlt : 0 < st.length := hb.lt
  refine C.mix 0 (.lst (strz ns)) (strz ns) st rfl (by simp) (by rw [List.length_map]; omega) (b + 49) _ _ (by rw [List.length_map, nl]; exact hb.le (by omega)) fun v st1 hv hb1 k1 => ?_
  obtain ⟨ys, rfl, hys, hp⟩ := hv
  obtain ⟨ms, rfl, hms⟩ := perm_strs hp
  have jl : st.length < st1.length := (List.getElem?_eq_some_iff.mp hys).1
  simp only [items, isSeq, hys, true_and]
  have ml : ms.length = 11 := hms.length_eq.trans nl
  have mnd : ms.Nodup := hms.nodup_iff.mpr nd
  have p6 : PowOk 10 6 := ⟨by decide, by decide, by decide⟩
  have e6 : (10 : Int) ^ Int.toNat 6 = 1000000 := by decide
  refine comp_inv (fun rem acc st' => ∃ (todo done : List Nm) (vs : List Int), done ++ todo = ms ∧ rem = strz todo ∧ vs.length = done.length ∧ (∀ a ∈ vs, a.natAbs ≤ 1000000) ∧ acc = List.zipWith (fun s a => PV.tup [.str s, .int a]) done vs ∧ Bag st' 0 (b + 3 * todo.length) ∧ Keep 0 st1 st') ?_ ?_ _ [] st1 ⟨ms, [], [], rfl, rfl, rfl, by simp, rfl, hb1.le (by omega), Keep.refl⟩
  · rintro y rem acc st' ⟨todo, done, vs, hu, hr, hl, hv, rfl, hb', kp'⟩
    refine ⟨(kp'.2 st.length (by omega) jl), fun k' hk' => ?_⟩
    cases todo with
    | nil => cases hr
    | cons z todo =>
      cases hr
      rw [List.length_cons] at hb'
      have dl : done.length ≤ 11 := by rw [← hu, List.length_append] at ml; omega
      simp only [turn, gName, tYes, if_true, eTup, eLst, eNeg, eBin, eCall, aCons, aNil, eVar, eC, wipe, List.set_cons_zero, List.set_cons_succ, List.getElem?_cons_zero, List.getElem?_cons_succ]
      refine C.tk 0 41 (by decide) st' (b + 3 * todo.length + 2) _ _ (hb'.le (by omega)) fun v st2 hv2 hb2 k2 => ?_
      obtain ⟨a, rfl, a0, a1⟩ := hv2
      simp only [opBin, opSub, opPow, opMul]
      refine ⟨p6, ?_⟩
      rw [e6]
      refine ⟨mulOk64 (by decide) (by decide), ?_⟩
      refine C.tk 0 (2 * 1000000) (by decide) st2 (b + 3 * todo.length + 1) _ _ hb2 fun v st3 hv3 hb3 k3 => ?_
      obtain ⟨a', rfl, a0', a1'⟩ := hv3
      simp only []
      refine ⟨p6, ?_⟩
      refine ⟨by show 5 ≤ 16777216; decide, ?_⟩
      refine C.of 0 (.lst _) _ st3 rfl (by simp) (by simp) (fun _ e => by cases e) (b + 3 * todo.length) _ _ hb3 fun v st4 hv4 hb4 k4 => ?_
      obtain ⟨c, rfl, hc⟩ : ∃ c : Int, v = .int c ∧ c.natAbs ≤ 1000000 := by
        simp only [List.mem_cons, List.not_mem_nil, or_false] at hv4
        rcases hv4 with h | h | h | h | h <;> exact ⟨_, h, by omega⟩
      refine ⟨by show 2 ≤ 16777216; decide, ?_⟩
      refine hk' _ _ ⟨by rw [List.length_zipWith]; show _ < 16777216; omega, todo, done ++ [z], vs ++ [c], by rw [List.append_assoc]; exact hu, rfl, by simp [hl], fun a ha => ?_, ?_, hb4, ((kp'.trans k2).trans k3).trans k4⟩
      · rcases List.mem_append.mp ha with h | h
        · exact hv a h
        · rw [List.mem_singleton.mp h]; exact hc
      · rw [List.zipWith_append hl.symm]
        rfl
  · rintro acc st' ⟨todo, done, vs, hu, hr, hl, hv, rfl, hb', kp'⟩
    refine ⟨(kp'.2 st.length (by omega) jl), ?_⟩
    cases todo with
    | cons z todo => cases hr
    | nil =>
      rw [List.append_nil] at hu
      subst hu
      simp only [asL, pairsV_enc done vs hl, asStrs_map]
      refine ⟨mnd, by omega, ?_⟩
      simp only [List.set_cons_zero, List.set_cons_succ]
      exact hn done vs st' ⟨hms, nd, nl, hl, hv⟩ (hb'.le (by omega))
set_option maxHeartbeats 1000000 in
theorem trm03_ok {FT : Nat → Option FD} {d : Nat} {cs : CS} (C : Cs03 FT d cs) {r : TS} {ns ms : List Nm} {vs : List Int} (H : H03 ns ms vs) {v0 : PV} {st : Store} {D : Ends} {a3 a5 a6 a7 a8 a9 a10 a11 a12 a13 a14 a15 a16 : Option PV} {b : Nat} (hb : Bag st 0 (b + 40))
    (hn : ∀ ts m st', GT ns 11 ts → 0 ≤ m → m ≤ 1000000 → Bag st' 0 b → r D [some v0, some (.ref 0), some (.lst (strz ns)), a3, some (.dct (strz ms) (pvis vs)), a5, some (.tup (ts.map tmW)), some (.int (sumT ms vs ts)), a8, some (.int m), a10, a11, a12, a13, a14, a15, a16] st') :
    trm03 cs r D [some v0, some (.ref 0), some (.lst (strz ns)), a3, some (.dct (strz ms) (pvis vs)), a5, a6, a7, a8, a9, a10, a11, a12, a13, a14, a15, a16] st := by
  unfold trm03
  rw [sCons]
  simp only [sSet, eCall, aCons, aNil, eVar, eC, gName, List.getElem?_cons_zero, List.getElem?_cons_succ]
  refine C.trm ns 11 0 st (by rw [H.l11]; exact Nat.le_refl _) (by decide) H.nd (b + 6) _ _ (hb.le (by omega)) fun v st1 hv hb1 k1 => ?_
  obtain ⟨ts, rfl, G⟩ := hv
  have tl := G.len
  simp only [List.set_cons_zero, List.set_cons_succ]
  rw [sCons]
  simp only [sSet, eB1, eComp, iE, eVar, items, isSeq, gName, wipe, List.getElem?_cons_zero, List.getElem?_cons_succ, List.set_cons_zero, List.set_cons_succ, true_and]
  refine comp_of tmW (fun p => some (.int (p.2 * valN ms vs p.1))) trivial ts (fun p hp k' hk' => ?_) (by show _ ≤ 16777216; omega) ?_
  · obtain ⟨p1, p2⟩ := G.ok p hp
    have p1 : p.1 ∈ ms := H.mem.mpr p1
    simp only [turn, tmW, gTup, gEach, gName, tYes, if_true, eBin, eDGet, eVar, asD, isKey_str, dfind_val H.vl p1, List.length_cons, List.length_nil, List.set_cons_zero, List.set_cons_succ, List.getElem?_cons_zero, List.getElem?_cons_succ, true_and]
    simp only [opBin, opMul]
    exact ⟨mulOk_of (a := 10) (b := 30) (by show p.2.natAbs < 1024; omega) (H.vb2 _ (valN_mem H.vl p1)) (by decide) (by decide) (by decide), hk'⟩
  · have e2 : ts.filterMap (fun p => some (PV.int (p.2 * valN ms vs p.1))) = pvis (ts.map fun p => p.2 * valN ms vs p.1) := by
      rw [show (fun p : Tm => some (PV.int (p.2 * valN ms vs p.1))) = some ∘ (fun p => PV.int (p.2 * valN ms vs p.1)) from rfl, List.filterMap_eq_map]
      simp [pvis]
    rw [e2]
    simp only [fSum, asL, allInt_pvis]
    rw [sCons]
    simp only [sSet, eCall, aCons, aNil, eVar, gName, List.getElem?_cons_zero, List.getElem?_cons_succ]
    refine C.md 0 st1 (b + 3) _ _ hb1 fun v st2 hv hb2 k2 => ?_
    obtain ⟨m, rfl, m0, m1, _⟩ := hv
    simp only [List.set_cons_zero, List.set_cons_succ]
    exact hn ts m st2 G m0 m1 (hb2.le (by omega))
theorem dvd_eq (t c : Int) : (t == c) = (t - c == 0) := by
  rw [Bool.eq_iff_iff]
  simp only [beq_iff_eq]
  omega
set_option maxHeartbeats 1000000 in
theorem val03_ok {FT : Nat → Option FD} {d : Nat} {cs : CS} (C : Cs03 FT d cs) {r : TS} {ns ms : List Nm} {vs : List Int} {ts : List Tm} {m : Int} (m0 : 0 ≤ m) (m1 : m ≤ 1000000) {v0 : PV} {st : Store} {D : Ends} {a3 a5 a8 a10 a11 a12 a13 a14 a15 a16 : Option PV} {b : Nat} (hb : Bag st 0 (b + 1))
    (hn : ∀ c st', Bag st' 0 b → r D [some v0, some (.ref 0), some (.lst (strz ns)), a3, some (.dct (strz ms) (pvis vs)), a5, some (.tup (ts.map tmW)), some (.int (sumT ms vs ts)), a8, some (.int m), some (.int c), some (.bl (dvd03 m (sumT ms vs ts - c))), a12, a13, a14, a15, a16] st') :
    val03 cs r D [some v0, some (.ref 0), some (.lst (strz ns)), a3, some (.dct (strz ms) (pvis vs)), a5, some (.tup (ts.map tmW)), some (.int (sumT ms vs ts)), a8, some (.int m), a10, a11, a12, a13, a14, a15, a16] st := by
  unfold val03
  rw [sCons]
  simp only [sSet, eBin, eCall, eLst, eNeg, aCons, aNil, eVar, eC, gName, opBin, opMul, opSub, List.getElem?_cons_zero, List.getElem?_cons_succ]
  refine ⟨mulOk64 (by decide) (by omega), ?_⟩
  refine ⟨by show 9 ≤ 16777216; decide, ?_⟩
  refine C.of 0 (.lst _) _ st rfl (by simp) (by simp) (fun _ e => by cases e) b _ _ hb fun v st1 hv hb1 k1 => ?_
  obtain ⟨c, rfl⟩ : ∃ c : Int, v = .int c := by
    simp only [List.mem_cons, List.not_mem_nil, or_false] at hv
    rcases hv with h | h | h | h | h | h | h | h | h <;> exact ⟨_, h⟩
  simp only [opAdd, List.set_cons_zero, List.set_cons_succ]
  generalize hcc : sumT ms vs ts + c = c'
  rw [sCons]
  simp only [sSet, eCmp, eVar, gName, opCm, opEq, frz, isD, eqv, List.getElem?_cons_zero, List.getElem?_cons_succ, true_and, List.set_cons_zero, List.set_cons_succ]
  rw [sCons]
  simp only [sIf, tCmp, eVar, eC, opCm, List.getElem?_cons_zero, List.getElem?_cons_succ]
  by_cases h : m = 0
  · have e : decide ((0 : Int) < m) = false := decide_eq_false (by omega)
    simp only [e, Bool.false_eq_true, if_false, sNil]
    have := hn c' st1 hb1
    unfold dvd03 at this
    rw [if_pos h] at this
    rw [dvd_eq]
    exact this
  · have e : decide ((0 : Int) < m) = true := decide_eq_true (by omega)
    simp only [e, if_true, sSet, eCmp, eBin, eB1, fInt, opBin, opSub, opMod, eVar, eC, gName, opCm, opEq, frz, isD, eqv, List.getElem?_cons_zero, List.getElem?_cons_succ, true_and, List.set_cons_zero, List.set_cons_succ]
    refine ⟨h, ?_⟩
    have := hn c' st1 hb1
    unfold dvd03 at this
    rw [if_neg h] at this
    exact this
theorem sm_strs {n : Nat} {l : List Nm} (h : l.length ≤ 1000) : Sm (n + 1) (.lst (strz l)) := ⟨by rw [List.length_map]; show _ ≤ 16777216; omega, fun x m => by
  obtain ⟨s, _, rfl⟩ := List.mem_map.mp m
  cases n <;> trivial⟩
set_option maxHeartbeats 1000000 in
theorem fnd03_ok {FT : Nat → Option FD} {d : Nat} {cs : CS} (C : Cs03 FT d cs) {r : TS} {ns ms : List Nm} {vs : List Int} (H : H03 ns ms vs) {ts : List Tm} (G : GT ns 11 ts) {m c : Int} {v0 : PV} {st : Store} {D : Ends} {a3 a5 a8 a12 a13 a14 a15 a16 : Option PV} 
    (hn : ∀ a12 a13, r D [some v0, some (.ref 0), some (.lst (strz ns)), a3, some (.dct (strz ms) (pvis vs)), a5, some (.tup (ts.map tmW)), some (.int (sumT ms vs ts)), a8, some (.int m), some (.int c), some (.bl (dvd03 m (sumT ms vs ts - c))), a12, a13, a14, a15, a16] st) :
    fnd03 cs r D [some v0, some (.ref 0), some (.lst (strz ns)), a3, some (.dct (strz ms) (pvis vs)), a5, some (.tup (ts.map tmW)), some (.int (sumT ms vs ts)), a8, some (.int m), some (.int c), some (.bl (dvd03 m (sumT ms vs ts - c))), a12, a13, a14, a15, a16] st := by
  have tl := G.len
  have tok : ∀ p ∈ ts, p.2.natAbs ≤ 1000 := fun p mp => (G.ok p mp).2
  have mem : ∀ p ∈ ts, p.1 ∈ ms := fun p mp => H.mem.mpr (G.ok p mp).1
  have mnd : ms.Nodup := H.pm.nodup_iff.mpr H.nd
  unfold fnd03
  rw [sCons]
  simp only [sSet, eDCopy, eVar, gName, asD, asStrs_map, List.getElem?_cons_zero, List.getElem?_cons_succ, List.set_cons_zero, List.set_cons_succ]
  refine ⟨mnd, ?_⟩
  rw [sCons]
  simp only [sSet, eLst, eTup, eCall, aCons, aNil, eVar, gName, List.getElem?_cons_zero, List.getElem?_cons_succ]
  refine C.nof ts st _ _ tl ?_
  refine C.smo ts ms vs st _ _ (by omega) tok H.vl H.vb2 (fun _ => ?_) (fun d p r e _ h => (h (mem p (by rw [e]; simp))).elim)
  refine ⟨by show 3 ≤ 16777216; decide, ?_⟩
  refine C.kps ts c m ms vs st _ _ (by omega) tok H.vl H.vb2 (fun _ => ?_) (fun d p r e _ h => (h (mem p (by rw [e]; simp))).elim)
  refine ⟨by show 3 ≤ 16777216; decide, ?_⟩
  simp only [List.set_cons_zero, List.set_cons_succ]
  rw [sCons]
  simp only [sIf, tOr, tNot, tOf, tDNe, eLst, eCall, eSortedS, eComp, iE, items, isSeq, aCons, aNil, eVar, wipe, List.getElem?_cons_zero, List.getElem?_cons_succ, List.set_cons_zero, List.set_cons_succ, true_and]
  refine nms_comp (i := 5) (j := 8) trivial (by decide) (by simp) (by omega) ?_
  simp only [seqOf, asL, asStrs_map]
  refine ⟨by rw [List.length_map]; omega, ?_⟩
  refine ⟨by show 3 ≤ 16777216; decide, ?_⟩
  refine C.same _ _ _ _ ⟨by show 3 ≤ 16777216; decide, fun y hy => ?_⟩ ?_
  · simp only [List.mem_cons, List.not_mem_nil, or_false] at hy
    rcases hy with rfl | rfl | rfl
    · exact sm_strs (n := 2) (l := sortS (ts.map Prod.fst)) (by have e := (sortS_perm (ts.map Prod.fst)).length_eq; rw [List.length_map] at e; omega)
    · trivial
    · trivial
  · simp only [truth, Bool.not_true, Bool.false_eq_true, if_false, opDNe, asD, asInts_pvis, asStrs_map, Option.isSome_some, true_and]
    exact ⟨mnd, hn _ _⟩
end VP
end
section
namespace VP
open VM ML
theorem eq_tms {ts : List Tm} {st : Store} {k : Bool → Store → Prop} (hk : k (!ts.isEmpty) st) : opCm .ne (.tup (ts.map tmW)) (.tup []) st k := by
  have e : ∀ l : List PV, frz st (.tup l) = .tup l := fun l => rfl
  have e2 : isD 60 (.tup (ts.map tmW)) = true := by
    show isDL 59 (ts.map tmW) = true
    exact isDL_tm ts
  simp only [opCm, opEq, e]
  refine ⟨e2, rfl, ?_⟩
  cases ts with
  | nil => exact hk
  | cons p r => exact hk
theorem pairs_filt {ns : List Nm} {s : Nm} {f : Nm → Int} : ns.filterMap (fun x => if x = s then none else some (PV.tup [.str x, .int (f x)])) = List.zipWith (fun s a => PV.tup [.str s, .int a]) (ns.filter fun x => decide (x ≠ s)) ((ns.filter fun x => decide (x ≠ s)).map f) := by
  induction ns with
  | nil => rfl
  | cons x ns ih =>
    by_cases h : x = s
    · rw [List.filterMap_cons_none (by rw [if_pos h]), List.filter_cons_of_neg (by simpa using h), ih]
    · rw [List.filterMap_cons_some (by rw [if_neg h]), List.filter_cons_of_pos (by simpa using h), List.map_cons, List.zipWith_cons_cons, ih]
theorem miss_one {ts : List Tm} {ns : List Nm} {q : Tm} (mem : ∀ p ∈ ts, p.1 ∈ ns) (hq : q ∈ ts) : Miss ts (ns.filter fun x => decide (x ≠ q.1)) q.1 where
  no := fun h => by
    have := List.mem_filter.mp (h q hq)
    simp at this
  fst := fun d p r e _ h => by
    have mp := mem p (by rw [e]; simp)
    by_cases z : p.1 = q.1
    · exact z
    · exact (h (List.mem_filter.mpr ⟨mp, by simpa using z⟩)).elim
theorem miss_all {p : Tm} {ts : List Tm} : Miss (p :: ts) [] p.1 where
  no := fun h => nomatch h p List.mem_cons_self
  fst := fun d q r e h _ => by
    cases d with
    | nil => cases e; rfl
    | cons a d => exact nomatch h a List.mem_cons_self
structure HD03 (FT : Nat → Option FD) (d : Nat) : Prop where
  h0 : ∀ {ts : List Tm} {ls : List Nm} {us : List Int} {s : Nm}, Miss ts ls s → ts.length ≤ 1000 → (∀ p ∈ ts, p.2.natAbs ≤ 1000) → us.length = ls.length → (∀ a ∈ us, a.natAbs < 2 ^ 30) → At FT d fun cs => GoodO (fun _ => True) cs 1000055 [.tup (ts.map tmW), .dct (strz ls) (pvis us)] (w1 cUnk (.str s))
  h1 : ∀ {ts : List Tm} {ls : List Nm} {us : List Int} {s : Nm} {v m : Int}, Miss ts ls s → ts.length ≤ 1000 → (∀ p ∈ ts, p.2.natAbs ≤ 1000) → us.length = ls.length → (∀ a ∈ us, a.natAbs < 2 ^ 30) → At FT d fun cs => GoodO (fun _ => True) cs 1000056 [.dct (strz ls) (pvis us), .tup (ts.map tmW), .int v, .int m] (w1 cUnk (.str s))
  h2 : ∀ {ts : List Tm} {s : Nm}, Miss ts [] s → ts.length ≤ 1000 → (∀ p ∈ ts, p.2.natAbs ≤ 1000) → At FT d fun cs => GoodO (fun _ => True) cs 1000057 [.tup (ts.map tmW)] (w1 cUnk (.str s))
theorem sm_two {n : Nat} {w : PV} (h : Sm n w) : Sm (n + 1) (.lst [w, w]) := ⟨by show 2 ≤ 16777216; decide, fun x m => by
  simp only [List.mem_cons, List.not_mem_nil, or_false] at m
  rcases m with e | e <;> subst e <;> exact h⟩
set_option maxHeartbeats 1000000 in
theorem lost03_ok {FT : Nat → Option FD} {d : Nat} {cs : CS} (C : Cs03 FT d cs) (HD : HD03 FT d) {ns ms : List Nm} {vs : List Int} (H : H03 ns ms vs) {ts : List Tm} (G : GT ns 11 ts) {m c : Int} {v0 : PV} {st : Store} {D : Ends} {a3 a5 a8 a12 a13 a14 a15 a16 : Option PV} {b : Nat} (hb : Bag st 0 (b + 1))
    (hn : ∀ b3 b5 b8 b12 b13 b14 b15 b16 st', Bag st' 0 b → D.nx [some v0, some (.ref 0), some (.lst (strz ns)), b3, some (.dct (strz ms) (pvis vs)), b5, some (.tup (ts.map tmW)), some (.int (sumT ms vs ts)), b8, some (.int m), some (.int c), some (.bl (dvd03 m (sumT ms vs ts - c))), b12, b13, b14, b15, b16] st') :
    lost03 cs D [some v0, some (.ref 0), some (.lst (strz ns)), a3, some (.dct (strz ms) (pvis vs)), a5, some (.tup (ts.map tmW)), some (.int (sumT ms vs ts)), a8, some (.int m), some (.int c), some (.bl (dvd03 m (sumT ms vs ts - c))), a12, a13, a14, a15, a16] st := by
  have tl := G.len
  have tok : ∀ p ∈ ts, p.2.natAbs ≤ 1000 := fun p mp => (G.ok p mp).2
  unfold lost03
  simp only [sIf, tCmp, eTup, aNil, eVar, List.getElem?_cons_zero, List.getElem?_cons_succ]
  refine ⟨by show 0 ≤ 16777216; decide, ?_⟩
  refine eq_tms ?_
  cases hts : ts with
  | nil =>
    simp only [List.isEmpty_nil, Bool.not_true, Bool.false_eq_true, if_false, sNil]
    rw [hts] at hn
    exact hn _ _ _ _ _ _ _ _ _ (hb.le (by omega))
  | cons p0 r0 =>
    simp only [List.isEmpty_cons, Bool.not_false, if_true]
    rw [← hts]
    rw [sCons]
    simp only [sSet, eCall, eB1, aCons, aNil, eVar, gName, fLen, bLen, List.getElem?_cons_zero, List.getElem?_cons_succ]
    refine C.tk 0 ((ts.map tmW).length : Nat) (by rw [List.length_map, hts]; simp) st b _ _ hb fun v st1 hv hb1 k1 => ?_
    obtain ⟨i, rfl, i0, i1⟩ := hv
    obtain ⟨i, rfl⟩ : ∃ n : Nat, i = (n : Int) := ⟨i.toNat, by omega⟩
    rw [List.length_map] at i1
    have il : i < ts.length := by omega
    obtain ⟨q, hq⟩ : ∃ q, ts[i]? = some q := ⟨_, List.getElem?_eq_getElem il⟩
    have qm : q ∈ ts := List.mem_of_getElem? hq
    have gq : (ts.map tmW)[i]? = some (tmW q) := by rw [List.getElem?_map, hq]; rfl
    simp only [List.set_cons_zero, List.set_cons_succ]
    rw [sCons]
    simp only [sSet, eDictP, eComp, iE, eVar, items, isSeq, gName, wipe, List.getElem?_cons_zero, List.getElem?_cons_succ, List.set_cons_zero, List.set_cons_succ, true_and]
    refine comp_of (fun s : Nm => PV.str s) (fun x => if x = q.1 then none else some (PV.tup [.str x, .int (valN ms vs x)])) trivial ns (fun s hs k' hk' => ?_) (by rw [H.l11]; decide) ?_
    · simp only [turn, gName, tCmp, eIx, eTup, eDGet, aCons, aNil, eVar, eC, asD, isKey_str, dfind_val H.vl (H.mem.mpr hs), List.set_cons_zero, List.set_cons_succ, List.getElem?_cons_zero, List.getElem?_cons_succ, true_and]
      refine get_tup gq (get_tup (i := 0) rfl ?_)
      simp only [opCm, opEq, frz, isD, eqv, true_and]
      by_cases z : s = q.1
      · rw [if_pos z] at hk'
        have e : (s == q.1) = true := by simpa using z
        simp only [e, Bool.not_true, Bool.false_eq_true, if_false]
        exact hk'
      · rw [if_neg z] at hk'
        have e : (s == q.1) = false := by simpa using z
        simp only [e, Bool.not_false, if_true]
        exact ⟨by show 2 ≤ 16777216; decide, hk'⟩
    · rw [pairs_filt]
      have mem : ∀ p ∈ ts, p.1 ∈ ns := fun p mp => (G.ok p mp).1
      have M := miss_one mem qm
      have lnd : (ns.filter fun x => decide (x ≠ q.1)).Nodup := H.nd.sublist List.filter_sublist
      have ll : (ns.filter fun x => decide (x ≠ q.1)).length ≤ 11 := by rw [← H.l11]; exact List.length_filter_le _ _
      have lm : ∀ s ∈ ns.filter (fun x => decide (x ≠ q.1)), s ∈ ms := fun s m => H.mem.mpr (List.mem_filter.mp m).1
      generalize ns.filter (fun x => decide (x ≠ q.1)) = ls at M lnd ll lm
      have ul : (ls.map (valN ms vs)).length = ls.length := List.length_map _
      have ub : ∀ a ∈ ls.map (valN ms vs), a.natAbs < 2 ^ 30 := fun a ha => by
        obtain ⟨s, hs, rfl⟩ := List.mem_map.mp ha
        exact H.vb2 _ (valN_mem H.vl (lm s hs))
      generalize ls.map (valN ms vs) = us at ul ub
      simp only [asL, pairsV_enc ls us ul, asStrs_map, List.set_cons_zero, List.set_cons_succ]
      refine ⟨lnd, by omega, ?_⟩
      rw [sCons]
      simp only [sSet, gName]
      refine lams_ok C.whys firm_true trivial (cl := [(1000055, [.tup (ts.map tmW), .dct (strz ls) (pvis us)]), (1000056, [.dct (strz ls) (pvis us), .tup (ts.map tmW), .int c, .int m])]) rfl rfl (by decide) (ws := [w1 cUnk (.str q.1), w1 cUnk (.str q.1)])
        (.cons (by decide) (HD.h0 M (by omega) tok ul ub) (w1_ok (by decide) _) (.cons (by decide) (HD.h1 M (by omega) tok ul ub) (w1_ok (by decide) _) .nil)) fun st2 g2 l2 => ?_
      have hb2 := hb1.stay g2
      simp only [List.set_cons_zero, List.set_cons_succ]
      rw [sCons]
      simp only [sIf, tNot, tOf, eCall, eBin, eLst, eTup, eIx, aCons, aNil, eVar, eC, List.getElem?_cons_zero, List.getElem?_cons_succ]
      refine get_tup gq (get_tup (i := 0) rfl ?_)
      refine ⟨by show 1 ≤ 16777216; decide, by show 2 ≤ 16777216; decide, by show 1 ≤ 16777216; decide, ?_⟩
      simp only [opBin, opMul]
      refine ⟨by decide, by decide, by show 2 ≤ 16777216; decide, ?_⟩
      refine C.same _ _ _ _ (sm_two (sm_w1 (n := 1) (v := .str q.1) trivial)) ?_
      simp only [truth, Bool.not_true, Bool.false_eq_true, if_false, sNil]
      have M0 : Miss ts [] p0.1 := by rw [hts]; exact miss_all
      have g0 : (ts.map tmW)[0]? = some (tmW p0) := by rw [hts]; rfl
      simp only [sIf, tNot, tOf, eCall, eTup, eIx, aCons, aNil, eVar, eC]
      refine lam1_ok C.why firm_true trivial (n := 1000057) (caps := [.tup (ts.map tmW)]) rfl (by decide) (HD.h2 M0 (by omega) tok) (w1_ok (by decide) _) fun st3 g3 l3 => ?_
      simp only [List.getElem?_cons_zero, List.getElem?_cons_succ]
      refine get_tup (i := 0) g0 (get_tup (i := 0) rfl ?_)
      refine ⟨by show 1 ≤ 16777216; decide, by show 2 ≤ 16777216; decide, ?_⟩
      refine C.same _ _ _ _ (sm_w1 (n := 2) (v := .str p0.1) trivial) ?_
      simp only [truth, Bool.not_true, Bool.false_eq_true, if_false]
      exact hn _ _ _ _ _ _ _ _ _ (hb2.stay g3)
theorem end03_ok {FT : Nat → Option FD} {d : Nat} {cs : CS} (C : Cs03 FT d cs) {D : Ends} {ρ : Env} {st : Store} (hk : D.rt (.bl true) st) : end03 cs D ρ st := by
  unfold end03
  simp only [sRet, eCall, eLst, eTup, eDNew, aCons, aNil, eC]
  refine ⟨by show 0 ≤ 16777216; decide, ?_⟩
  refine C.smo [] [] [] st _ _ (by decide) (by simp) rfl (by simp) (fun _ => ?_) (fun d p r e => by cases d <;> cases e)
  refine ⟨by show 0 ≤ 16777216; decide, ?_⟩
  refine C.nof [] st _ _ (by decide) ?_
  refine ⟨by show 2 ≤ 16777216; decide, by show 0 ≤ 16777216; decide, by show 2 ≤ 16777216; decide, ?_⟩
  have e : strz (sortS (([] : List Tm).map Prod.fst)) = [] := by
    rfl
  rw [e]
  refine C.same _ _ _ _ ⟨by show 2 ≤ 16777216; decide, fun y hy => ?_⟩ hk
  simp only [List.mem_cons, List.not_mem_nil, or_false] at hy
  rcases hy with rfl | rfl
  · trivial
  · exact ⟨by show 0 ≤ 16777216; decide, fun y hy => by cases hy⟩
theorem k03_law {FT : Nat → Option FD} {d : Nat} {cs cs' : CS} (C : Cs03 FT d cs) (HD : HD03 FT d) {f : Nat} (go : ∀ vs st k x, vs.length = 1 → T_law_k03 cs (D0 k x) (vs.map some ++ List.replicate (17 - 1) none) st → cs' f vs st k x) (is : List Int) (hl : is.length ≤ 63) (x : KV) : cs' f [.scr is] [] (fun v _ => v = .bl true) x := by
  refine go _ _ _ _ rfl ?_
  rw [law03_eq]
  simp only [List.map_cons, List.map_nil, List.replicate_succ, List.replicate_zero, List.cons_append, List.nil_append, Nat.reduceSub]
  rw [sCons]
  simp only [sSet, eCall, aCons, aNil, eVar, eC, gName, List.getElem?_cons_zero, List.getElem?_cons_succ, List.set_cons_zero, List.set_cons_succ]
  refine C.bag is [] _ _ hl fun st1 hb1 l1 _ => ?_
  rw [sCons]
  simp only [sSet, eCall, aCons, aNil, eVar, eC, gName, List.getElem?_cons_zero, List.getElem?_cons_succ, List.set_cons_zero, List.set_cons_succ]
  refine C.nms 0 st1 5000 _ _ (hb1.le (by decide)) fun v st2 hv hb2 k2 => ?_
  obtain ⟨ns, rfl, nl, nd, nok⟩ := hv
  rw [sCons]
  unfold loop03
  simp only [sFor, iRange1, eC]
  refine ⟨by unfold i62; decide, ?_⟩
  refine for_inv (fun rem ρ st' => (∃ c3 c4 c5 c6 c7 c8 c9 c10 c11 c12 c13 c14 c15 c16, ρ = [some (.scr is), some (.ref 0), some (.lst (strz ns)), c3, c4, c5, c6, c7, c8, c9, c10, c11, c12, c13, c14, c15, c16]) ∧ Bag st' 0 (1000 * rem.length)) ?_ ?_ _ _ _ ⟨⟨_, _, _, _, _, _, _, _, _, _, _, _, _, _, rfl⟩, hb2.le (by decide)⟩
  · rintro v rem ρ st' ⟨⟨c3, c4, c5, c6, c7, c8, c9, c10, c11, c12, c13, c14, c15, c16, rfl⟩, hb'⟩
    refine ⟨trivial, fun D' d1 d2 d3 d4 d5 => ?_⟩
    rw [List.length_cons] at hb'
    simp only [gName, List.set_cons_zero, List.set_cons_succ]
    refine hid03_ok C nl nd (b := 1000 * rem.length + 50) (hb'.le (by omega)) fun ms vs st3 H hb3 => ?_
    refine trm03_ok C H (b := 1000 * rem.length + 10) (hb3.le (by omega)) fun ts m st4 G m0 m1 hb4 => ?_
    refine val03_ok C m0 m1 (b := 1000 * rem.length + 9) (hb4.le (by omega)) fun c st5 hb5 => ?_
    refine fnd03_ok C H G fun a12 a13 => ?_
    refine lost03_ok C HD H G (b := 1000 * rem.length) (hb5.le (by omega)) ?_
    intros
    rename_i h6
    exact d4 _ _ ⟨⟨_, _, _, _, _, _, _, _, _, _, _, _, _, _, rfl⟩, h6⟩
  · rintro ρ st' ⟨⟨c3, c4, c5, c6, c7, c8, c9, c10, c11, c12, c13, c14, c15, c16, rfl⟩, hb'⟩
    exact ⟨trivial, end03_ok C rfl⟩
theorem law_true03 (is : List Int) (hl : is.length ≤ 63) (x : KV) : callN L_k03.FT 60 209 [.scr is] [] (fun v _ => v = .bl true) x := by
  have bag := bag_at (FT := L_k03.FT) rfl
  have tk := take_at (FT := L_k03.FT) rfl
  have of := of_at (FT := L_k03.FT) rfl tk
  have ofS := ofS_at (FT := L_k03.FT) rfl tk
  have mix := mixed_at (FT := L_k03.FT) rfl tk
  have sm := small_at (FT := L_k03.FT) rfl of
  have bg := big_at (FT := L_k03.FT) (d := 5) rfl (tk.mono (by decide)) (sm.mono (by decide))
  have md := md_at (FT := L_k03.FT) rfl (tk.mono (d' := 5) (by decide)) (of.mono (by decide))
  have nms := names_at (FT := L_k03.FT) rfl (tk.mono (d' := 5) (by decide)) (of.mono (by decide)) (ofS.mono (by decide))
  have trm := termsG_at (FT := L_k03.FT) (d := 10) rfl (tk.mono (by decide)) (mix.mono (by decide)) (bg.mono (by decide))
  have sme := same_at (FT := L_k03.FT) rfl 4
  have fl := fields_at (FT := L_k03.FT) rfl
  have g := got_at (FT := L_k03.FT) (d := 21) rfl (fl.mono (by decide))
  have wy := whyL_at (FT := L_k03.FT) rfl g
  have ws := whys_at (FT := L_k03.FT) rfl wy
  have nof := nof_at (FT := L_k03.FT) rfl
  have smo := smof_at (FT := L_k03.FT) rfl
  have dv := dvs_at (FT := L_k03.FT) rfl
  have kp := kps_at (FT := L_k03.FT) rfl smo dv
  have C : Cs03 L_k03.FT 21 (callN L_k03.FT 59) := ⟨bag _ (by decide), tk _ (by decide), of _ (by decide), mix _ (by decide), nms _ (by decide), trm _ (by decide), md _ (by decide), sme _ (by decide), nof _ (by decide), smo _ (by decide), kp _ (by decide), ws _ (by decide), wy _ (by decide)⟩
  refine k03_law (cs' := callN L_k03.FT 60) C ⟨fun M a b c e => (d0_03 rfl M a b c e smo).mono (by decide), fun M a b c e => (d1_03 rfl M a b c e kp).mono (by decide), fun M a b => (d2_03 rfl M a b smo).mono (by decide)⟩ (fun vs st k x h1 h2 => call_of (FT := L_k03.FT) (n := 59) (f := 209) rfl h1 h2) is hl x
end VP
end
namespace L_k03
open PySem PySem.Spec PyProof.Rows L2 VS VP
def topS (i : Nat) : Stmt := PySem.Challenge.pw_whatcrosses_k03_sums_and_kept_rows.main.body.getD i (.Pass ⟨0, 0, 0, 0⟩)
def subS (s : Stmt) (j : Nat) : Stmt := match s with
  | .ClassDef (body := b) .. => b.getD j (.Pass ⟨0, 0, 0, 0⟩)
  | _ => .Pass ⟨0, 0, 0, 0⟩
abbrev s_law : Stmt := topS 25
abbrev N_law : List Str := ["_law_script", "_law_bag_here", "_law_names_here", "_law_turn", "_law_hidden", "_law_name", "_law_terms_here", "_law_total", "_law_factor", "_law_modulus_here", "_law_value", "_law_due", "_law_world", "_law_found", "_law_at", "_law_lost", "_law_whys_here"]
abbrev P_law : List Str := ["_law_script"]
theorem sc_law : FnScope N_law P_law (defScope s_law) := ⟨rfl, rfl, rfl, by decide +kernel, rfl, by decide +kernel, by decide +kernel⟩
abbrev s__law_bag : Stmt := topS 11
abbrev N__law_bag : List Str := ["_law_script", "_law_cells", "_law_cell", "_law_mixed_here"]
abbrev P__law_bag : List Str := ["_law_script"]
theorem sc__law_bag : FnScope N__law_bag P__law_bag (defScope s__law_bag) := ⟨rfl, rfl, rfl, by decide +kernel, rfl, by decide +kernel, by decide +kernel⟩
abbrev s__law_take : Stmt := topS 12
abbrev N__law_take : List Str := ["_law_bag_here", "_law_many", "_law_cell", "_law_digit", "_law_old"]
abbrev P__law_take : List Str := ["_law_bag_here", "_law_many"]
theorem sc__law_take : FnScope N__law_take P__law_take (defScope s__law_take) := ⟨rfl, rfl, rfl, by decide +kernel, rfl, by decide +kernel, by decide +kernel⟩
abbrev s__law_of : Stmt := topS 13
abbrev N__law_of : List Str := ["_law_bag_here", "_law_things"]
abbrev P__law_of : List Str := ["_law_bag_here", "_law_things"]
theorem sc__law_of : FnScope N__law_of P__law_of (defScope s__law_of) := ⟨rfl, rfl, rfl, by decide +kernel, rfl, by decide +kernel, by decide +kernel⟩
abbrev s__law_names : Stmt := topS 20
abbrev N__law_names : List Str := ["_law_bag_here", "_law_many", "_law_letters", "_law_stem", "_law_k", "_law_at", "_law_first", "_law_step"]
abbrev P__law_names : List Str := ["_law_bag_here", "_law_many"]
theorem sc__law_names : FnScope N__law_names P__law_names (defScope s__law_names) := ⟨rfl, rfl, rfl, by decide +kernel, rfl, by decide +kernel, by decide +kernel⟩
abbrev s__law_mixed : Stmt := topS 14
abbrev N__law_mixed : List Str := ["_law_bag_here", "_law_things", "_law_found", "_law_thing"]
abbrev P__law_mixed : List Str := ["_law_bag_here", "_law_things"]
theorem sc__law_mixed : FnScope N__law_mixed P__law_mixed (defScope s__law_mixed) := ⟨rfl, rfl, rfl, by decide +kernel, rfl, by decide +kernel, by decide +kernel⟩
abbrev s__law_small : Stmt := topS 21
abbrev N__law_small : List Str := ["_law_bag_here"]
abbrev P__law_small : List Str := ["_law_bag_here"]
theorem sc__law_small : FnScope N__law_small P__law_small (defScope s__law_small) := ⟨rfl, rfl, rfl, by decide +kernel, rfl, by decide +kernel, by decide +kernel⟩
abbrev s__law_big_factor : Stmt := topS 22
abbrev N__law_big_factor : List Str := ["_law_bag_here"]
abbrev P__law_big_factor : List Str := ["_law_bag_here"]
theorem sc__law_big_factor : FnScope N__law_big_factor P__law_big_factor (defScope s__law_big_factor) := ⟨rfl, rfl, rfl, by decide +kernel, rfl, by decide +kernel, by decide +kernel⟩
abbrev s__law_terms : Stmt := topS 23
abbrev N__law_terms : List Str := ["_law_bag_here", "_law_names_here", "_law_most", "_law_some", "_law_name"]
abbrev P__law_terms : List Str := ["_law_bag_here", "_law_names_here", "_law_most"]
theorem sc__law_terms : FnScope N__law_terms P__law_terms (defScope s__law_terms) := ⟨rfl, rfl, rfl, by decide +kernel, rfl, by decide +kernel, by decide +kernel⟩
abbrev s__law_modulus : Stmt := topS 24
abbrev N__law_modulus : List Str := ["_law_bag_here"]
abbrev P__law_modulus : List Str := ["_law_bag_here"]
theorem sc__law_modulus : FnScope N__law_modulus P__law_modulus (defScope s__law_modulus) := ⟨rfl, rfl, rfl, by decide +kernel, rfl, by decide +kernel, by decide +kernel⟩
abbrev s_names_of : Stmt := topS 6
abbrev N_names_of : List Str := ["terms", "name", "_"]
abbrev P_names_of : List Str := ["terms"]
theorem sc_names_of : FnScope N_names_of P_names_of (defScope s_names_of) := ⟨rfl, rfl, rfl, by decide +kernel, rfl, by decide +kernel, by decide +kernel⟩
abbrev s_sum_of : Stmt := topS 7
abbrev N_sum_of : List Str := ["terms", "world", "total", "name", "factor"]
abbrev P_sum_of : List Str := ["terms", "world"]
theorem sc_sum_of : FnScope N_sum_of P_sum_of (defScope s_sum_of) := ⟨rfl, rfl, rfl, by decide +kernel, rfl, by decide +kernel, by decide +kernel⟩
abbrev s_divides : Stmt := topS 8
abbrev N_divides : List Str := ["modulus", "number"]
abbrev P_divides : List Str := ["modulus", "number"]
theorem sc_divides : FnScope N_divides P_divides (defScope s_divides) := ⟨rfl, rfl, rfl, by decide +kernel, rfl, by decide +kernel, by decide +kernel⟩
abbrev s_keeps : Stmt := topS 9
abbrev N_keeps : List Str := ["row", "world"]
abbrev P_keeps : List Str := ["row", "world"]
theorem sc_keeps : FnScope N_keeps P_keeps (defScope s_keeps) := ⟨rfl, rfl, rfl, by decide +kernel, rfl, by decide +kernel, by decide +kernel⟩
abbrev s__law_same : Stmt := topS 15
abbrev N__law_same : List Str := ["_law_found", "_law_due", "_law_one", "_law_two"]
abbrev P__law_same : List Str := ["_law_found", "_law_due"]
theorem sc__law_same : FnScope N__law_same P__law_same (defScope s__law_same) := ⟨rfl, rfl, rfl, by decide +kernel, rfl, by decide +kernel, by decide +kernel⟩
abbrev s__law_fields : Stmt := topS 16
abbrev N__law_fields : List Str := ["_law_e"]
abbrev P__law_fields : List Str := ["_law_e"]
theorem sc__law_fields : FnScope N__law_fields P__law_fields (defScope s__law_fields) := ⟨rfl, rfl, rfl, by decide +kernel, rfl, by decide +kernel, by decide +kernel⟩
abbrev s__law_got : Stmt := topS 17
abbrev N__law_got : List Str := ["_law_deed", "_law_e"]
abbrev P__law_got : List Str := ["_law_deed"]
theorem sc__law_got : FnScope N__law_got P__law_got (defScope s__law_got) := ⟨rfl, rfl, rfl, by decide +kernel, rfl, by decide +kernel, by decide +kernel⟩
abbrev s__law_why : Stmt := topS 18
abbrev N__law_why : List Str := ["_law_deed", "_law_found"]
abbrev P__law_why : List Str := ["_law_deed"]
theorem sc__law_why : FnScope N__law_why P__law_why (defScope s__law_why) := ⟨rfl, rfl, rfl, by decide +kernel, rfl, by decide +kernel, by decide +kernel⟩
abbrev s__law_whys : Stmt := topS 19
abbrev N__law_whys : List Str := ["_law_deeds", "_law_deed"]
abbrev P__law_whys : List Str := ["_law_deeds"]
theorem sc__law_whys : FnScope N__law_whys P__law_whys (defScope s__law_whys) := ⟨rfl, rfl, rfl, by decide +kernel, rfl, by decide +kernel, by decide +kernel⟩
abbrev s_UnknownName___init__ : Stmt := subS (topS 3) 0
abbrev N_UnknownName___init__ : List Str := ["self", "name"]
abbrev P_UnknownName___init__ : List Str := ["self", "name"]
theorem sc_UnknownName___init__ : FnScope N_UnknownName___init__ P_UnknownName___init__ (defScope s_UnknownName___init__) := ⟨rfl, rfl, rfl, by decide +kernel, rfl, by decide +kernel, by decide +kernel⟩
abbrev lam_0 : LamI := lamAt (exSub (exSub (stEx (stSub (stSub (stSub s_law 2) 10) 2)) 0) 0) ["_law_terms_here", "_law_lost"]
abbrev lam_1 : LamI := lamAt (exSub (exSub (stEx (stSub (stSub (stSub s_law 2) 10) 2)) 0) 1) ["_law_lost", "_law_terms_here", "_law_value", "_law_modulus_here"]
abbrev lam_2 : LamI := lamAt (exSub (exSub (exSub (stEx (stSub (stSub (stSub s_law 2) 10) 4)) 0) 0) 0) ["_law_terms_here"]
instance : Lams := ⟨fun n => match n with | 1000055 => lam_0 | 1000056 => lam_1 | 1000057 => lam_2 | _ => lamAt noE [], ["law"]⟩
theorem XI_UnknownName [Wsh] : XiOk ⟨31, [61, 22], [85, 110, 107, 110, 111, 119, 110, 78, 97, 109, 101], 1⟩ "UnknownName" ["name"] := ⟨rfl, rfl, sOk_of (by decide +kernel), rfl, by decide⟩
section
variable {P : Program} {w : World} {K : PySem.W.Frag} {mg : Str → Option Value} {base : Heap}
abbrev Ce (P : Program) (w : World) (K : PySem.W.Frag) (mg : Str → Option Value) (base : Heap) (n : Nat) (x : Str) (i : Nat) (ps : List Str) : Prop := Callee P w K mg base x (VM.callN FT n) (3 * n + 40) i ps
abbrev Cc (P : Program) (w : World) (K : PySem.W.Frag) (mg : Str → Option Value) (base : Heap) (n : Nat) (x : Str) (i : Nat) (ps : List Str) : Prop := CalleC P w K mg base x (VM.callN FT n) (3 * n + 40) i ps
theorem b_law [Wsh] {n : Nat} (C__law_bag : Ce P w K mg base n "_law_bag" 0 P__law_bag) (C__law_mixed : Ce P w K mg base n "_law_mixed" 17 P__law_mixed) (C__law_modulus : Ce P w K mg base n "_law_modulus" 22 P__law_modulus) (C__law_names : Ce P w K mg base n "_law_names" 46 P__law_names) (C__law_of : Ce P w K mg base n "_law_of" 2 P__law_of) (C__law_same : Ce P w K mg base n "_law_same" 16 P__law_same) (C__law_take : Ce P w K mg base n "_law_take" 1 P__law_take) (C__law_terms : Ce P w K mg base n "_law_terms" 51 P__law_terms) (C__law_why : Ce P w K mg base n "_law_why" 150 P__law_why) (C__law_whys : Ce P w K mg base n "_law_whys" 151 P__law_whys) (C_keeps : Ce P w K mg base n "keeps" 208 P_keeps) (C_names_of : Ce P w K mg base n "names_of" 205 P_names_of) (C_sum_of : Ce P w K mg base n "sum_of" 206 P_sum_of) (Q5 : tabB K "law" = true) (z_dict : mg "dict" = none) (z_int : mg "int" = none) (z_len : mg "len" = none) (z_list : mg "list" = none) (z_range : mg "range" = none) (z_sorted : mg "sorted" = none) (z_sum : mg "sum" = none) (TB : LamX.TabB base mg (tabP K "law").1 (tabP K "law").2) {cdv : Value} {A : Around} {outer : List Env} {s : Shared} {H : Hp} {f : Addr} [TkX (cxOf (L2.CX P w) P w K mg base N_law "law" (defScope s_law) f cdv A outer s H Wsh.E)] (hcode : CodeIs K (He.ga K "law") cdv) (hr2 : Room (3 * n + 42) (A.deeper (envOfC "law" (defScope s_law) s.heap.objs.size f cdv))) (dv : Dv base P (envOfC "law" (defScope s_law) s.heap.objs.size f cdv :: outer) (A.deeper (envOfC "law" (defScope s_law) s.heap.objs.size f cdv))) :
    VB (cxOf (L2.CX P w) P w K mg base N_law "law" (defScope s_law) f cdv A outer s H Wsh.E) (defBody s_law) (T_law_k03 (VM.callN FT n)) := by
  have nd := (sc_law).nd
  have hr : Room (3 * n + 41) (A.deeper (envOfC "law" (defScope s_law) s.heap.objs.size f cdv)) := hr2.mono (Nat.le_succ _)
  have hr0 : Room (3 * n + 40) (A.deeper (envOfC "law" (defScope s_law) s.heap.objs.size f cdv)) := hr.mono (Nat.le_succ _)
  exact (vb_cons (vs_set nd rfl (Or.inr rfl) (ve_calle (i := 0) C__law_bag hr0 rfl (va_cons (ve_var 0) va_nil)) rfl (Or.inl rfl))
    (vb_cons (vs_set nd rfl (Or.inl rfl) (ve_calle (i := 46) C__law_names hr0 rfl (va_cons (ve_var 1) (va_cons ve_int va_nil))) rfl (Or.inr rfl))
    (vb_cons (vs_for (passes_of rfl) rfl (vi_range1 rfl z_range ve_int) (vg_name nd rfl (Or.inl rfl) (Or.inr rfl))
    (vb_cons (vs_set nd rfl (Or.inr rfl) (ve_dictP rfl (ve_comp (own := [("_law_name", 5)]) (sl := [5]) rfl nd  (blkOk_by (by first | (show blkC N_law (defScope s_law) _ _ = true; decide +kernel) | kernel_rfl)) (vi_e (ve_calle (i := 17) C__law_mixed hr0 rfl (va_cons (ve_var 1) (va_cons (ve_var 2) va_nil)))) (by decide) (fun _ _ _ _ _ => (vg_name nd rfl (Or.inl rfl) (Or.inr rfl))) (fun _ _ _ _ _ => vts_nil) (fun _ _ _ _ _ => (ve_tup (va_cons (ve_var 5) (va_cons (ve_calle (i := 2) C__law_of hr0 rfl (va_cons (ve_var 1) (va_cons (ve_lst (va_cons ve_int (va_cons ve_int (va_cons (ve_neg ve_int) (va_cons (ve_bin o_sub (ve_calle (i := 1) C__law_take hr0 rfl (va_cons (ve_var 1) (va_cons ve_int va_nil))) ve_int) (va_cons (ve_bin o_sub (ve_calle (i := 1) C__law_take hr0 rfl (va_cons (ve_var 1) (va_cons (ve_bin o_mul ve_int (ve_bin o_pow ve_int ve_int)) va_nil))) (ve_bin o_pow ve_int ve_int)) va_nil)))))) va_nil))) va_nil))))) rfl z_dict) rfl (Or.inl rfl))
    (vb_cons (vs_set nd rfl (Or.inr rfl) (ve_calle (i := 51) C__law_terms hr0 rfl (va_cons (ve_var 1) (va_cons (ve_var 2) (va_cons ve_int va_nil)))) rfl (Or.inl rfl))
    (vb_cons (vs_set nd rfl (Or.inl rfl) (ve_sum rfl (ve_comp (own := [("_law_name", 5), ("_law_factor", 8)]) (sl := [5, 8]) rfl nd  (blkOk_by (by first | (show blkC N_law (defScope s_law) _ _ = true; decide +kernel) | kernel_rfl)) (vi_e (ve_var 6)) (by decide) (fun _ _ _ _ _ => (vg_tup rfl (vgs_cons (vg_name nd rfl (Or.inl rfl) (Or.inr rfl)) (vgs_cons (vg_name nd rfl (Or.inl rfl) (Or.inr rfl)) vgs_nil)))) (fun _ _ _ _ _ => vts_nil) (fun _ _ _ _ _ => (ve_bin o_mul (ve_var 8) (ve_dget hr.units1 (ve_var 4) (ve_var 5) (by exact fun _ _ => rfl))))) rfl z_sum) rfl (Or.inr rfl))
    (vb_cons (vs_set nd rfl (Or.inr rfl) (ve_calle (i := 22) C__law_modulus hr0 rfl (va_cons (ve_var 1) va_nil)) rfl (Or.inl rfl))
    (vb_cons (vs_set nd rfl (Or.inr rfl) (ve_bin o_add (ve_var 7) (ve_calle (i := 2) C__law_of hr0 rfl (va_cons (ve_var 1) (va_cons (ve_lst (va_cons ve_int (va_cons ve_int (va_cons ve_int (va_cons ve_int (va_cons (ve_neg ve_int) (va_cons (ve_var 9) (va_cons (ve_bin o_mul ve_int (ve_var 9)) (va_cons (ve_bin o_sub ve_int (ve_var 9)) (va_cons ve_int va_nil)))))))))) va_nil)))) rfl (Or.inl rfl))
    (vb_cons (vs_set nd rfl (Or.inl rfl) (ve_cmp (c_eq hr0.units) (ve_var 7) (ve_var 10) (nomark _)) rfl (Or.inr rfl))
    (vb_cons (vs_if (vt_cmp c_gt (ve_var 9) ve_int (nomark _))
    (vb_one (vs_set nd rfl (Or.inl rfl) (ve_cmp (c_eq hr0.units) (ve_bin o_mod (ve_int_ (ve_bin o_sub (ve_var 7) (ve_var 10)) rfl z_int) (ve_var 9)) ve_int (nomark _)) rfl (Or.inr rfl)))
    vb_nil)
    (vb_cons (vs_set nd rfl (Or.inl rfl) (ve_dcopy rfl (ve_var 4) rfl z_list rfl z_dict) rfl (Or.inr rfl))
    (vb_cons (vs_set nd rfl (Or.inl rfl) (ve_lst (va_cons (ve_calle (i := 205) C_names_of hr0 rfl (va_cons (ve_var 6) va_nil)) (va_cons (ve_calle (i := 206) C_sum_of hr0 rfl (va_cons (ve_var 6) (va_cons (ve_var 12) va_nil))) (va_cons (ve_calle (i := 208) C_keeps hr0 rfl (va_cons (ve_tup (va_cons (ve_var 6) (va_cons (ve_var 10) (va_cons (ve_var 9) va_nil)))) (va_cons (ve_var 12) va_nil))) va_nil)))) rfl (Or.inr rfl))
    (vb_cons (vs_if (vt_w (vw_or (vt_not (vt_of (ve_calle (i := 16) C__law_same hr0 rfl (va_cons (ve_var 13) (va_cons (ve_lst (va_cons (ve_sortedS (ve_comp (own := [("_law_name", 5), ("_law_factor", 8)]) (sl := [5, 8]) rfl nd  (blkOk_by (by first | (show blkC N_law (defScope s_law) _ _ = true; decide +kernel) | kernel_rfl)) (vi_e (ve_var 6)) (by decide) (fun _ _ _ _ _ => (vg_tup rfl (vgs_cons (vg_name nd rfl (Or.inl rfl) (Or.inr rfl)) (vgs_cons (vg_name nd rfl (Or.inl rfl) (Or.inr rfl)) vgs_nil)))) (fun _ _ _ _ _ => vts_nil) (fun _ _ _ _ _ => (ve_var 5))) rfl z_sorted) (va_cons (ve_var 7) (va_cons (ve_var 11) va_nil)))) va_nil))))) (vw_or1 (vt_dne hr0.units0 (ve_var 12) (ve_var 4) (nomark _)))))
    (vb_one (vs_ret ve_bl))
    vb_nil)
    (vb_one (vs_if (vt_cmp (c_ne hr0.units) (ve_var 6) (ve_tup va_nil) (nomark _))
    (vb_cons (vs_set nd rfl (Or.inr rfl) (ve_calle (i := 1) C__law_take hr0 rfl (va_cons (ve_var 1) (va_cons (ve_len (ve_var 6) rfl z_len) va_nil))) rfl (Or.inl rfl))
    (vb_cons (vs_set nd rfl (Or.inr rfl) (ve_dictP rfl (ve_comp (own := [("_law_name", 5)]) (sl := [5]) rfl nd  (blkOk_by (by first | (show blkC N_law (defScope s_law) _ _ = true; decide +kernel) | kernel_rfl)) (vi_e (ve_var 2)) (by decide) (fun _ _ _ _ _ => (vg_name nd rfl (Or.inl rfl) (Or.inr rfl))) (fun _ _ _ _ _ => (vts_one (vt_cmp (c_ne hr0.units) (ve_var 5) (ve_ix (ve_ix (ve_var 6) (ve_var 14)) ve_int) (nomark _)))) (fun _ _ _ _ _ => (ve_tup (va_cons (ve_var 5) (va_cons (ve_dget hr.units1 (ve_var 4) (ve_var 5) (by exact fun _ _ => rfl)) va_nil))))) rfl z_dict) rfl (Or.inl rfl))
    (vb_cons (vs_set nd rfl (Or.inl rfl) (ve_lams (ls := [⟨1000055, lam_0.params, lam_0.body, lam_0.scope, _, [6, 15]⟩, ⟨1000056, lam_1.params, lam_1.body, lam_1.scope, _, [15, 6, 10, 9]⟩]) (maker_of (f := f) TB Q5 rfl rfl hcode)
      (lL_cons (lamE_by rfl (by show lamEB N_law (defScope s_law) lam_0.scope _ _ = true; decide +kernel) (.inl ⟨rfl, rfl, fun _ _ _ _ _ _ => rfl⟩))
      (lL_cons (lamE_by rfl (by show lamEB N_law (defScope s_law) lam_1.scope _ _ = true; decide +kernel) (.inr ⟨0, _, _, "_law_a", rfl, rfl, rfl, fun _ _ _ _ _ _ _ => ⟨_, rfl, fun _ => rfl⟩⟩))
      lL_nil)) (fun _ => rfl) rfl rfl C__law_whys rfl hr0 rfl (by decide)) rfl (Or.inr rfl))
    (vb_cons (vs_if (vt_not (vt_of (ve_calle (i := 16) C__law_same hr0 rfl (va_cons (ve_var 16) (va_cons (ve_bin o_mul (ve_lst (va_cons (ve_tup (va_cons ve_str (va_cons (ve_tup (va_cons (ve_ix (ve_ix (ve_var 6) (ve_var 14)) ve_int) va_nil)) va_nil))) va_nil)) ve_int) va_nil)))))
    (vb_one (vs_ret ve_bl))
    vb_nil)
    (vb_one (vs_if (vt_not (vt_of (ve_calle (i := 16) C__law_same hr0 rfl (va_cons (ve_lam1 (L := ⟨1000057, lam_2.params, lam_2.body, lam_2.scope, _, [6]⟩) (maker_of (f := f) TB Q5 rfl rfl hcode) (lamE_by rfl (by show lamEB N_law (defScope s_law) lam_2.scope _ _ = true; decide +kernel) (.inl ⟨rfl, rfl, fun _ _ _ _ _ _ => rfl⟩)) (fun _ => rfl) rfl rfl C__law_why rfl hr0 rfl) (va_cons (ve_tup (va_cons ve_str (va_cons (ve_tup (va_cons (ve_ix (ve_ix (ve_var 6) ve_int) ve_int) va_nil)) va_nil))) va_nil)))))
    (vb_one (vs_ret ve_bl))
    vb_nil))))))
    vb_nil)))))))))))))
    (vb_one (vs_ret (ve_calle (i := 16) C__law_same hr0 rfl (va_cons (ve_lst (va_cons (ve_calle (i := 206) C_sum_of hr0 rfl (va_cons (ve_tup va_nil) (va_cons ve_dnew va_nil))) (va_cons (ve_calle (i := 205) C_names_of hr0 rfl (va_cons (ve_tup va_nil) va_nil)) va_nil))) (va_cons (ve_lst (va_cons ve_int (va_cons (ve_lst va_nil) va_nil))) va_nil))))))))
theorem b__law_bag [Wsh] {n : Nat} (z_int : mg "int" = none) (z_len : mg "len" = none) {cdv : Value} {A : Around} {outer : List Env} {s : Shared} {H : Hp} {f : Addr} [TkX (cxOf (L2.CX P w) P w K mg base N__law_bag "_law_bag" (defScope s__law_bag) f cdv A outer s H Wsh.E)] (hr2 : Room (3 * n + 42) (A.deeper (envOfC "_law_bag" (defScope s__law_bag) s.heap.objs.size f cdv))) (dv : Dv base P (envOfC "_law_bag" (defScope s__law_bag) s.heap.objs.size f cdv :: outer) (A.deeper (envOfC "_law_bag" (defScope s__law_bag) s.heap.objs.size f cdv))) :
    VB (cxOf (L2.CX P w) P w K mg base N__law_bag "_law_bag" (defScope s__law_bag) f cdv A outer s H Wsh.E) (defBody s__law_bag) (T__law_bag (VM.callN FT n)) := by
  have nd := (sc__law_bag).nd
  have hr : Room (3 * n + 41) (A.deeper (envOfC "_law_bag" (defScope s__law_bag) s.heap.objs.size f cdv)) := hr2.mono (Nat.le_succ _)
  have hr0 : Room (3 * n + 40) (A.deeper (envOfC "_law_bag" (defScope s__law_bag) s.heap.objs.size f cdv)) := hr.mono (Nat.le_succ _)
  exact (vb_cons (vs_setc (own := [("_law_cell", 2)]) (sl := [2]) rfl nd rfl rfl (sw_true rfl rfl rfl rfl) (blkOk_by (by first | (show blkC N__law_bag (defScope s__law_bag) _ _ = true; decide +kernel) | kernel_rfl)) (vi_e (ve_sl (ve_var 0) vo_none (vo_some ve_int))) (by decide) (fun _ _ _ _ _ => (vg_name nd rfl (Or.inl rfl) (Or.inr rfl))) (fun _ _ _ _ _ => vts_nil) (fun _ _ _ _ _ => (ve_int_ (ve_var 2) rfl z_int)))
    (vb_cons (vs_set nd rfl (Or.inl rfl) (ve_bin o_add ve_int (ve_bin o_mul ve_int (ve_len (ve_var 1) rfl z_len))) rfl (Or.inr rfl))
    (vb_cons (vs_for (passes_of rfl) rfl (vi_e (ve_var 1)) (vg_name nd rfl (Or.inl rfl) (Or.inr rfl))
    (vb_one (vs_set nd rfl (Or.inl rfl) (ve_bin o_mod (ve_int_ (ve_bin o_add (ve_bin o_mul (ve_var 3) ve_int) (ve_var 2)) rfl z_int) ve_int) rfl (Or.inr rfl))))
    (vb_one (vs_ret (ve_lstM (va_cons (ve_var 1) (va_cons ve_int (va_cons ve_int (va_cons (ve_var 3) (va_cons ve_int va_nil)))))))))))
theorem b__law_take [Wsh] {n : Nat} (z_int : mg "int" = none) (z_len : mg "len" = none) {cdv : Value} {A : Around} {outer : List Env} {s : Shared} {H : Hp} {f : Addr} [TkX (cxOf (L2.CX P w) P w K mg base N__law_take "_law_take" (defScope s__law_take) f cdv A outer s H Wsh.E)] (hr2 : Room (3 * n + 42) (A.deeper (envOfC "_law_take" (defScope s__law_take) s.heap.objs.size f cdv))) (dv : Dv base P (envOfC "_law_take" (defScope s__law_take) s.heap.objs.size f cdv :: outer) (A.deeper (envOfC "_law_take" (defScope s__law_take) s.heap.objs.size f cdv))) :
    VB (cxOf (L2.CX P w) P w K mg base N__law_take "_law_take" (defScope s__law_take) f cdv A outer s H Wsh.E) (defBody s__law_take) (T__law_take (VM.callN FT n)) := by
  have nd := (sc__law_take).nd
  have hr : Room (3 * n + 41) (A.deeper (envOfC "_law_take" (defScope s__law_take) s.heap.objs.size f cdv)) := hr2.mono (Nat.le_succ _)
  have hr0 : Room (3 * n + 40) (A.deeper (envOfC "_law_take" (defScope s__law_take) s.heap.objs.size f cdv)) := hr.mono (Nat.le_succ _)
  exact (vb_cons (vs_setix (ve_bin o_add (ve_ix (ve_var 0) ve_int) ve_int) (ve_var 0) ve_int)
    (vb_cons (vs_if (vt_w (vw_and (vt_cmp c_lt (ve_ix (ve_var 0) ve_int) ve_int (nomark _)) (vw_and1 (vt_cmp c_lt (ve_ix (ve_var 0) ve_int) (ve_len (ve_ix (ve_var 0) ve_int) rfl z_len) (nomark _)))))
    (vb_cons (vs_set nd rfl (Or.inl rfl) (ve_ix (ve_ix (ve_var 0) ve_int) (ve_ix (ve_var 0) ve_int)) rfl (Or.inr rfl))
    (vb_cons (vs_setix (ve_bin o_add (ve_ix (ve_var 0) ve_int) ve_int) (ve_var 0) ve_int)
    (vb_cons (vs_setix (ve_bin o_mod (ve_int_ (ve_bin o_add (ve_bin o_add (ve_bin o_mul (ve_ix (ve_var 0) ve_int) ve_int) (ve_bin o_mul (ve_bin o_mod (ve_int_ (ve_var 2) rfl z_int) ve_int) ve_int)) (ve_ix (ve_var 0) ve_int)) rfl z_int) ve_int) (ve_var 0) ve_int)
    (vb_one (vs_setix (ve_if (vt_cmp c_ge (ve_var 2) (ve_bin o_pow ve_int ve_int) (nomark _)) (ve_var 2) ve_int) (ve_var 0) ve_int)))))
    vb_nil)
    (vb_cons (vs_if (vt_cmp c_gt (ve_ix (ve_var 0) ve_int) ve_int (nomark _))
    (vb_cons (vs_set nd rfl (Or.inl rfl) (ve_bin o_mod (ve_int_ (ve_ix (ve_var 0) ve_int) rfl z_int) (ve_var 1)) rfl (Or.inr rfl))
    (vb_cons (vs_setix (ve_bin (o_fdiv dv) (ve_ix (ve_var 0) ve_int) (ve_var 1)) (ve_var 0) ve_int)
    (vb_one (vs_ret (ve_var 3)))))
    vb_nil)
    (vb_cons (vs_set nd rfl (Or.inl rfl) (ve_bin o_mod (ve_int_ (ve_bin o_add (ve_ix (ve_var 0) ve_int) (ve_bin o_mul (ve_ix (ve_var 0) ve_int) ve_int)) rfl z_int) ve_int) rfl (Or.inr rfl))
    (vb_cons (vs_setix (ve_bin o_mod (ve_int_ (ve_bin o_add (ve_bin o_add (ve_bin o_mul (ve_var 4) (ve_var 4)) (ve_bin o_mul (ve_var 4) ve_int)) ve_int) rfl z_int) ve_int) (ve_var 0) ve_int)
    (vb_one (vs_ret (ve_bin o_mod (ve_int_ (ve_bin o_add (ve_bin (o_fdiv dv) (ve_ix (ve_var 0) ve_int) ve_int) (ve_bin o_mul (ve_bin o_mod (ve_int_ (ve_ix (ve_var 0) ve_int) rfl z_int) ve_int) ve_int)) rfl z_int) (ve_var 1)))))))))
theorem b__law_of [Wsh] {n : Nat} (C__law_take : Ce P w K mg base n "_law_take" 1 P__law_take) (z_len : mg "len" = none) {cdv : Value} {A : Around} {outer : List Env} {s : Shared} {H : Hp} {f : Addr} [TkX (cxOf (L2.CX P w) P w K mg base N__law_of "_law_of" (defScope s__law_of) f cdv A outer s H Wsh.E)] (hr2 : Room (3 * n + 42) (A.deeper (envOfC "_law_of" (defScope s__law_of) s.heap.objs.size f cdv))) (dv : Dv base P (envOfC "_law_of" (defScope s__law_of) s.heap.objs.size f cdv :: outer) (A.deeper (envOfC "_law_of" (defScope s__law_of) s.heap.objs.size f cdv))) :
    VB (cxOf (L2.CX P w) P w K mg base N__law_of "_law_of" (defScope s__law_of) f cdv A outer s H Wsh.E) (defBody s__law_of) (T__law_of (VM.callN FT n)) := by
  have nd := (sc__law_of).nd
  have hr : Room (3 * n + 41) (A.deeper (envOfC "_law_of" (defScope s__law_of) s.heap.objs.size f cdv)) := hr2.mono (Nat.le_succ _)
  have hr0 : Room (3 * n + 40) (A.deeper (envOfC "_law_of" (defScope s__law_of) s.heap.objs.size f cdv)) := hr.mono (Nat.le_succ _)
  exact (vb_one (vs_ret (ve_ix (ve_var 1) (ve_calle (i := 1) C__law_take hr0 rfl (va_cons (ve_var 0) (va_cons (ve_len (ve_var 1) rfl z_len) va_nil))))))
theorem b__law_names [Wsh] {n : Nat} (C__law_of : Ce P w K mg base n "_law_of" 2 P__law_of) (C__law_take : Ce P w K mg base n "_law_take" 1 P__law_take) (z_int : mg "int" = none) (z_len : mg "len" = none) (z_range : mg "range" = none) {cdv : Value} {A : Around} {outer : List Env} {s : Shared} {H : Hp} {f : Addr} [TkX (cxOf (L2.CX P w) P w K mg base N__law_names "_law_names" (defScope s__law_names) f cdv A outer s H Wsh.E)] (hr2 : Room (3 * n + 42) (A.deeper (envOfC "_law_names" (defScope s__law_names) s.heap.objs.size f cdv))) (dv : Dv base P (envOfC "_law_names" (defScope s__law_names) s.heap.objs.size f cdv :: outer) (A.deeper (envOfC "_law_names" (defScope s__law_names) s.heap.objs.size f cdv))) :
    VB (cxOf (L2.CX P w) P w K mg base N__law_names "_law_names" (defScope s__law_names) f cdv A outer s H Wsh.E) (defBody s__law_names) (T__law_names (VM.callN FT n)) := by
  have nd := (sc__law_names).nd
  have hr : Room (3 * n + 41) (A.deeper (envOfC "_law_names" (defScope s__law_names) s.heap.objs.size f cdv)) := hr2.mono (Nat.le_succ _)
  have hr0 : Room (3 * n + 40) (A.deeper (envOfC "_law_names" (defScope s__law_names) s.heap.objs.size f cdv)) := hr.mono (Nat.le_succ _)
  exact (vb_cons (vs_set nd rfl (Or.inr rfl) ve_str rfl (Or.inl rfl))
    (vb_cons (vs_set nd rfl (Or.inr rfl) (ve_join ve_str (ve_comp (own := [("_law_k", 4)]) (sl := [4]) rfl nd  (blkOk_by (by first | (show blkC N__law_names (defScope s__law_names) _ _ = true; decide +kernel) | kernel_rfl)) (vi_range1 rfl z_range (ve_calle (i := 1) C__law_take hr0 rfl (va_cons (ve_var 0) (va_cons ve_int va_nil)))) (by decide) (fun _ _ _ _ _ => (vg_name nd rfl (Or.inl rfl) (Or.inr rfl))) (fun _ _ _ _ _ => vts_nil) (fun _ _ _ _ _ => (ve_calle (i := 2) C__law_of hr0 rfl (va_cons (ve_var 0) (va_cons (ve_var 2) va_nil)))))) rfl (Or.inl rfl))
    (vb_cons (vs_asg (sl := [5, 6]) (ve_tup (va_cons (ve_calle (i := 1) C__law_take hr0 rfl (va_cons (ve_var 0) (va_cons (ve_bin o_add (ve_len (ve_var 3) rfl z_len) ve_int) va_nil))) (va_cons (ve_calle (i := 1) C__law_take hr0 rfl (va_cons (ve_var 0) (va_cons ve_int va_nil))) va_nil))) (vg_tup rfl (vgs_cons (vg_name nd rfl (Or.inr rfl) (Or.inl rfl)) (vgs_cons (vg_name nd rfl (Or.inr rfl) (Or.inl rfl)) vgs_nil))))
    (vb_cons (vs_set nd rfl (Or.inr rfl) (ve_calle (i := 2) C__law_of hr0 rfl (va_cons (ve_var 0) (va_cons (ve_lst (va_cons ve_int (va_cons ve_int (va_cons ve_int (va_cons ve_int (va_cons ve_int (va_cons ve_int (va_cons ve_int (va_cons ve_int (va_cons ve_int (va_cons ve_int va_nil))))))))))) va_nil))) rfl (Or.inl rfl))
    (vb_one (vs_ret (ve_comp (own := [("_law_k", 4)]) (sl := [4]) rfl nd  (blkOk_by (by first | (show blkC N__law_names (defScope s__law_names) _ _ = true; decide +kernel) | kernel_rfl)) (vi_range1 rfl z_range (ve_var 1)) (by decide) (fun _ _ _ _ _ => (vg_name nd rfl (Or.inl rfl) (Or.inr rfl))) (fun _ _ _ _ _ => vts_nil) (fun _ _ _ _ _ => (ve_bin o_add (ve_bin o_add (ve_sl (ve_var 3) vo_none (vo_some (ve_var 5))) (ve_ix (ve_var 2) (ve_bin o_mod (ve_int_ (ve_bin o_add (ve_var 6) (ve_bin o_mul (ve_var 4) (ve_var 7))) rfl z_int) ve_int))) (ve_sl (ve_var 3) (vo_some (ve_var 5)) vo_none))))))))))
theorem b__law_mixed [Wsh] {n : Nat} (C__law_take : Ce P w K mg base n "_law_take" 1 P__law_take) (z_len : mg "len" = none) {cdv : Value} {A : Around} {outer : List Env} {s : Shared} {H : Hp} {f : Addr} [TkX (cxOf (L2.CX P w) P w K mg base N__law_mixed "_law_mixed" (defScope s__law_mixed) f cdv A outer s H Wsh.E)] (hr2 : Room (3 * n + 42) (A.deeper (envOfC "_law_mixed" (defScope s__law_mixed) s.heap.objs.size f cdv))) (dv : Dv base P (envOfC "_law_mixed" (defScope s__law_mixed) s.heap.objs.size f cdv :: outer) (A.deeper (envOfC "_law_mixed" (defScope s__law_mixed) s.heap.objs.size f cdv))) :
    VB (cxOf (L2.CX P w) P w K mg base N__law_mixed "_law_mixed" (defScope s__law_mixed) f cdv A outer s H Wsh.E) (defBody s__law_mixed) (T__law_mixed (VM.callN FT n)) := by
  have nd := (sc__law_mixed).nd
  have hr : Room (3 * n + 41) (A.deeper (envOfC "_law_mixed" (defScope s__law_mixed) s.heap.objs.size f cdv)) := hr2.mono (Nat.le_succ _)
  have hr0 : Room (3 * n + 40) (A.deeper (envOfC "_law_mixed" (defScope s__law_mixed) s.heap.objs.size f cdv)) := hr.mono (Nat.le_succ _)
  exact (vb_cons (vs_set nd rfl (Or.inl rfl) (ve_lstM va_nil) rfl (Or.inr rfl))
    (vb_cons (vs_for (passes_of rfl) rfl (vi_e (ve_var 1)) (vg_name nd rfl (Or.inl rfl) (Or.inr rfl))
    (vb_one (vs_expr (ve_insert (ve_var 2) (ve_calle (i := 1) C__law_take hr0 rfl (va_cons (ve_var 0) (va_cons (ve_bin o_add (ve_len (ve_var 2) rfl z_len) ve_int) va_nil))) (ve_var 3)))))
    (vb_one (vs_ret (ve_var 2)))))
theorem b__law_small [Wsh] {n : Nat} (C__law_of : Ce P w K mg base n "_law_of" 2 P__law_of) {cdv : Value} {A : Around} {outer : List Env} {s : Shared} {H : Hp} {f : Addr} [TkX (cxOf (L2.CX P w) P w K mg base N__law_small "_law_small" (defScope s__law_small) f cdv A outer s H Wsh.E)] (hr2 : Room (3 * n + 42) (A.deeper (envOfC "_law_small" (defScope s__law_small) s.heap.objs.size f cdv))) (dv : Dv base P (envOfC "_law_small" (defScope s__law_small) s.heap.objs.size f cdv :: outer) (A.deeper (envOfC "_law_small" (defScope s__law_small) s.heap.objs.size f cdv))) :
    VB (cxOf (L2.CX P w) P w K mg base N__law_small "_law_small" (defScope s__law_small) f cdv A outer s H Wsh.E) (defBody s__law_small) (T__law_small (VM.callN FT n)) := by
  have nd := (sc__law_small).nd
  have hr : Room (3 * n + 41) (A.deeper (envOfC "_law_small" (defScope s__law_small) s.heap.objs.size f cdv)) := hr2.mono (Nat.le_succ _)
  have hr0 : Room (3 * n + 40) (A.deeper (envOfC "_law_small" (defScope s__law_small) s.heap.objs.size f cdv)) := hr.mono (Nat.le_succ _)
  exact (vb_one (vs_ret (ve_calle (i := 2) C__law_of hr0 rfl (va_cons (ve_var 0) (va_cons (ve_lst (va_cons ve_int (va_cons ve_int (va_cons (ve_neg ve_int) (va_cons ve_int (va_cons (ve_neg ve_int) (va_cons ve_int (va_cons (ve_neg ve_int) (va_cons ve_int (va_cons ve_int (va_cons ve_int (va_cons ve_int (va_cons ve_int va_nil))))))))))))) va_nil)))))
theorem b__law_big_factor [Wsh] {n : Nat} (C__law_small : Ce P w K mg base n "_law_small" 3 P__law_small) (C__law_take : Ce P w K mg base n "_law_take" 1 P__law_take) {cdv : Value} {A : Around} {outer : List Env} {s : Shared} {H : Hp} {f : Addr} [TkX (cxOf (L2.CX P w) P w K mg base N__law_big_factor "_law_big_factor" (defScope s__law_big_factor) f cdv A outer s H Wsh.E)] (hr2 : Room (3 * n + 42) (A.deeper (envOfC "_law_big_factor" (defScope s__law_big_factor) s.heap.objs.size f cdv))) (dv : Dv base P (envOfC "_law_big_factor" (defScope s__law_big_factor) s.heap.objs.size f cdv :: outer) (A.deeper (envOfC "_law_big_factor" (defScope s__law_big_factor) s.heap.objs.size f cdv))) :
    VB (cxOf (L2.CX P w) P w K mg base N__law_big_factor "_law_big_factor" (defScope s__law_big_factor) f cdv A outer s H Wsh.E) (defBody s__law_big_factor) (T__law_big_factor (VM.callN FT n)) := by
  have nd := (sc__law_big_factor).nd
  have hr : Room (3 * n + 41) (A.deeper (envOfC "_law_big_factor" (defScope s__law_big_factor) s.heap.objs.size f cdv)) := hr2.mono (Nat.le_succ _)
  have hr0 : Room (3 * n + 40) (A.deeper (envOfC "_law_big_factor" (defScope s__law_big_factor) s.heap.objs.size f cdv)) := hr.mono (Nat.le_succ _)
  exact (vb_one (vs_ret (ve_if (vt_cmp c_gt (ve_calle (i := 1) C__law_take hr0 rfl (va_cons (ve_var 0) (va_cons ve_int va_nil))) ve_int (nomark _)) (ve_calle (i := 3) C__law_small hr0 rfl (va_cons (ve_var 0) va_nil)) (ve_bin o_sub (ve_calle (i := 1) C__law_take hr0 rfl (va_cons (ve_var 0) (va_cons ve_int va_nil))) ve_int))))
theorem b__law_terms [Wsh] {n : Nat} (C__law_big_factor : Ce P w K mg base n "_law_big_factor" 4 P__law_big_factor) (C__law_mixed : Ce P w K mg base n "_law_mixed" 17 P__law_mixed) (C__law_take : Ce P w K mg base n "_law_take" 1 P__law_take) (z_tuple : mg "tuple" = none) {cdv : Value} {A : Around} {outer : List Env} {s : Shared} {H : Hp} {f : Addr} [TkX (cxOf (L2.CX P w) P w K mg base N__law_terms "_law_terms" (defScope s__law_terms) f cdv A outer s H Wsh.E)] (hr2 : Room (3 * n + 42) (A.deeper (envOfC "_law_terms" (defScope s__law_terms) s.heap.objs.size f cdv))) (dv : Dv base P (envOfC "_law_terms" (defScope s__law_terms) s.heap.objs.size f cdv :: outer) (A.deeper (envOfC "_law_terms" (defScope s__law_terms) s.heap.objs.size f cdv))) :
    VB (cxOf (L2.CX P w) P w K mg base N__law_terms "_law_terms" (defScope s__law_terms) f cdv A outer s H Wsh.E) (defBody s__law_terms) (T__law_terms (VM.callN FT n)) := by
  have nd := (sc__law_terms).nd
  have hr : Room (3 * n + 41) (A.deeper (envOfC "_law_terms" (defScope s__law_terms) s.heap.objs.size f cdv)) := hr2.mono (Nat.le_succ _)
  have hr0 : Room (3 * n + 40) (A.deeper (envOfC "_law_terms" (defScope s__law_terms) s.heap.objs.size f cdv)) := hr.mono (Nat.le_succ _)
  exact (vb_cons (vs_set nd rfl (Or.inl rfl) (ve_sl (ve_calle (i := 17) C__law_mixed hr0 rfl (va_cons (ve_var 0) (va_cons (ve_var 1) va_nil))) vo_none (vo_some (ve_calle (i := 1) C__law_take hr0 rfl (va_cons (ve_var 0) (va_cons (ve_bin o_add (ve_var 2) ve_int) va_nil))))) rfl (Or.inr rfl))
    (vb_one (vs_ret (ve_tuple (ve_comp (own := [("_law_name", 4)]) (sl := [4]) rfl nd  (blkOk_by (by first | (show blkC N__law_terms (defScope s__law_terms) _ _ = true; decide +kernel) | kernel_rfl)) (vi_e (ve_var 3)) (by decide) (fun _ _ _ _ _ => (vg_name nd rfl (Or.inl rfl) (Or.inr rfl))) (fun _ _ _ _ _ => vts_nil) (fun _ _ _ _ _ => (ve_tup (va_cons (ve_var 4) (va_cons (ve_calle (i := 4) C__law_big_factor hr0 rfl (va_cons (ve_var 0) va_nil)) va_nil))))) rfl z_tuple))))
theorem b__law_modulus [Wsh] {n : Nat} (C__law_of : Ce P w K mg base n "_law_of" 2 P__law_of) (C__law_take : Ce P w K mg base n "_law_take" 1 P__law_take) {cdv : Value} {A : Around} {outer : List Env} {s : Shared} {H : Hp} {f : Addr} [TkX (cxOf (L2.CX P w) P w K mg base N__law_modulus "_law_modulus" (defScope s__law_modulus) f cdv A outer s H Wsh.E)] (hr2 : Room (3 * n + 42) (A.deeper (envOfC "_law_modulus" (defScope s__law_modulus) s.heap.objs.size f cdv))) (dv : Dv base P (envOfC "_law_modulus" (defScope s__law_modulus) s.heap.objs.size f cdv :: outer) (A.deeper (envOfC "_law_modulus" (defScope s__law_modulus) s.heap.objs.size f cdv))) :
    VB (cxOf (L2.CX P w) P w K mg base N__law_modulus "_law_modulus" (defScope s__law_modulus) f cdv A outer s H Wsh.E) (defBody s__law_modulus) (T__law_modulus (VM.callN FT n)) := by
  have nd := (sc__law_modulus).nd
  have hr : Room (3 * n + 41) (A.deeper (envOfC "_law_modulus" (defScope s__law_modulus) s.heap.objs.size f cdv)) := hr2.mono (Nat.le_succ _)
  have hr0 : Room (3 * n + 40) (A.deeper (envOfC "_law_modulus" (defScope s__law_modulus) s.heap.objs.size f cdv)) := hr.mono (Nat.le_succ _)
  exact (vb_one (vs_ret (ve_calle (i := 2) C__law_of hr0 rfl (va_cons (ve_var 0) (va_cons (ve_lst (va_cons ve_int (va_cons ve_int (va_cons ve_int (va_cons ve_int (va_cons ve_int (va_cons ve_int (va_cons ve_int (va_cons ve_int (va_cons (ve_bin o_add ve_int (ve_calle (i := 1) C__law_take hr0 rfl (va_cons (ve_var 0) (va_cons ve_int va_nil)))) (va_cons (ve_bin o_add ve_int (ve_calle (i := 1) C__law_take hr0 rfl (va_cons (ve_var 0) (va_cons (ve_bin o_sub (ve_bin o_pow ve_int ve_int) ve_int) va_nil)))) va_nil))))))))))) va_nil)))))
theorem b_names_of [Wsh] {n : Nat} (z_sorted : mg "sorted" = none) {cdv : Value} {A : Around} {outer : List Env} {s : Shared} {H : Hp} {f : Addr} [TkX (cxOf (L2.CX P w) P w K mg base N_names_of "names_of" (defScope s_names_of) f cdv A outer s H Wsh.E)] (hr2 : Room (3 * n + 42) (A.deeper (envOfC "names_of" (defScope s_names_of) s.heap.objs.size f cdv))) (dv : Dv base P (envOfC "names_of" (defScope s_names_of) s.heap.objs.size f cdv :: outer) (A.deeper (envOfC "names_of" (defScope s_names_of) s.heap.objs.size f cdv))) :
    VB (cxOf (L2.CX P w) P w K mg base N_names_of "names_of" (defScope s_names_of) f cdv A outer s H Wsh.E) (defBody s_names_of) (T_names_of (VM.callN FT n)) := by
  have nd := (sc_names_of).nd
  have hr : Room (3 * n + 41) (A.deeper (envOfC "names_of" (defScope s_names_of) s.heap.objs.size f cdv)) := hr2.mono (Nat.le_succ _)
  have hr0 : Room (3 * n + 40) (A.deeper (envOfC "names_of" (defScope s_names_of) s.heap.objs.size f cdv)) := hr.mono (Nat.le_succ _)
  exact (vb_one (vs_ret (ve_sortedS (ve_comp (own := [("name", 1), ("_", 2)]) (sl := [1, 2]) rfl nd  (blkOk_by (by first | (show blkC N_names_of (defScope s_names_of) _ _ = true; decide +kernel) | kernel_rfl)) (vi_e (ve_var 0)) (by decide) (fun _ _ _ _ _ => (vg_tup rfl (vgs_cons (vg_name nd rfl (Or.inl rfl) (Or.inr rfl)) (vgs_cons (vg_name nd rfl (Or.inl rfl) (Or.inr rfl)) vgs_nil)))) (fun _ _ _ _ _ => vts_nil) (fun _ _ _ _ _ => (ve_var 1))) rfl z_sorted)))
theorem b_sum_of [Wsh] {n : Nat} (Q3 : goodE K 31 = true) (g_UnknownName : mg "UnknownName" = some (.ref (cA K 31))) (E_UnknownName : MkE P w K mg base 1 (cA K 31) "LookupError.__init__" "UnknownName" ["name"]) {cdv : Value} {A : Around} {outer : List Env} {s : Shared} {H : Hp} {f : Addr} [TkX (cxOf (L2.CX P w) P w K mg base N_sum_of "sum_of" (defScope s_sum_of) f cdv A outer s H Wsh.E)] (hr2 : Room (3 * n + 42) (A.deeper (envOfC "sum_of" (defScope s_sum_of) s.heap.objs.size f cdv))) (dv : Dv base P (envOfC "sum_of" (defScope s_sum_of) s.heap.objs.size f cdv :: outer) (A.deeper (envOfC "sum_of" (defScope s_sum_of) s.heap.objs.size f cdv))) :
    VB (cxOf (L2.CX P w) P w K mg base N_sum_of "sum_of" (defScope s_sum_of) f cdv A outer s H Wsh.E) (defBody s_sum_of) (T_sum_of (VM.callN FT n)) := by
  have nd := (sc_sum_of).nd
  have hr : Room (3 * n + 41) (A.deeper (envOfC "sum_of" (defScope s_sum_of) s.heap.objs.size f cdv)) := hr2.mono (Nat.le_succ _)
  have hr0 : Room (3 * n + 40) (A.deeper (envOfC "sum_of" (defScope s_sum_of) s.heap.objs.size f cdv)) := hr.mono (Nat.le_succ _)
  exact (vb_cons (vs_set nd rfl (Or.inl rfl) ve_int rfl (Or.inr rfl))
    (vb_cons (vs_for (passes_of rfl) rfl (vi_e (ve_var 0)) (vg_tup rfl (vgs_cons (vg_name nd rfl (Or.inl rfl) (Or.inr rfl)) (vgs_cons (vg_name nd rfl (Or.inl rfl) (Or.inr rfl)) vgs_nil)))
    (vb_cons (vs_if (vt_dnotin hr.units1 (ve_var 3) (ve_var 1))
    (vb_one (vs_raise Q3 XI_UnknownName E_UnknownName (hr0.mono (by omega)) rfl rfl g_UnknownName (va_cons (ve_var 3) va_nil)))
    vb_nil)
    (vb_one (vs_addI nd rfl (Or.inl rfl) (ve_bin o_mul (ve_var 4) (ve_dget hr.units1 (ve_var 1) (ve_var 3) (by exact fun _ _ => rfl))) (Or.inr rfl)))))
    (vb_one (vs_ret (ve_var 2)))))
theorem b_divides [Wsh] {n : Nat}  {cdv : Value} {A : Around} {outer : List Env} {s : Shared} {H : Hp} {f : Addr} [TkX (cxOf (L2.CX P w) P w K mg base N_divides "divides" (defScope s_divides) f cdv A outer s H Wsh.E)] (hr2 : Room (3 * n + 42) (A.deeper (envOfC "divides" (defScope s_divides) s.heap.objs.size f cdv))) (dv : Dv base P (envOfC "divides" (defScope s_divides) s.heap.objs.size f cdv :: outer) (A.deeper (envOfC "divides" (defScope s_divides) s.heap.objs.size f cdv))) :
    VB (cxOf (L2.CX P w) P w K mg base N_divides "divides" (defScope s_divides) f cdv A outer s H Wsh.E) (defBody s_divides) (T_divides (VM.callN FT n)) := by
  have nd := (sc_divides).nd
  have hr : Room (3 * n + 41) (A.deeper (envOfC "divides" (defScope s_divides) s.heap.objs.size f cdv)) := hr2.mono (Nat.le_succ _)
  have hr0 : Room (3 * n + 40) (A.deeper (envOfC "divides" (defScope s_divides) s.heap.objs.size f cdv)) := hr.mono (Nat.le_succ _)
  exact (vb_cons (vs_if (vt_cmp (c_eq hr0.units) (ve_var 0) ve_int (nomark _))
    (vb_one (vs_ret (ve_cmp (c_eq hr0.units) (ve_var 1) ve_int (nomark _))))
    vb_nil)
    (vb_one (vs_ret (ve_cmp (c_eq hr0.units) (ve_bin o_mod (ve_var 1) (ve_var 0)) ve_int (nomark _)))))
theorem b_keeps [Wsh] {n : Nat} (C_divides : Ce P w K mg base n "divides" 207 P_divides) (C_sum_of : Ce P w K mg base n "sum_of" 206 P_sum_of) {cdv : Value} {A : Around} {outer : List Env} {s : Shared} {H : Hp} {f : Addr} [TkX (cxOf (L2.CX P w) P w K mg base N_keeps "keeps" (defScope s_keeps) f cdv A outer s H Wsh.E)] (hr2 : Room (3 * n + 42) (A.deeper (envOfC "keeps" (defScope s_keeps) s.heap.objs.size f cdv))) (dv : Dv base P (envOfC "keeps" (defScope s_keeps) s.heap.objs.size f cdv :: outer) (A.deeper (envOfC "keeps" (defScope s_keeps) s.heap.objs.size f cdv))) :
    VB (cxOf (L2.CX P w) P w K mg base N_keeps "keeps" (defScope s_keeps) f cdv A outer s H Wsh.E) (defBody s_keeps) (T_keeps (VM.callN FT n)) := by
  have nd := (sc_keeps).nd
  have hr : Room (3 * n + 41) (A.deeper (envOfC "keeps" (defScope s_keeps) s.heap.objs.size f cdv)) := hr2.mono (Nat.le_succ _)
  have hr0 : Room (3 * n + 40) (A.deeper (envOfC "keeps" (defScope s_keeps) s.heap.objs.size f cdv)) := hr.mono (Nat.le_succ _)
  exact (vb_one (vs_ret (ve_calle (i := 207) C_divides hr0 rfl (va_cons (ve_ix (ve_var 0) ve_int) (va_cons (ve_bin o_sub (ve_calle (i := 206) C_sum_of hr0 rfl (va_cons (ve_ix (ve_var 0) ve_int) (va_cons (ve_var 1) va_nil))) (ve_ix (ve_var 0) ve_int)) va_nil)))))
theorem b__law_same [Wsh] {n : Nat} (C__law_same : Ce P w K mg base n "_law_same" 16 P__law_same) (z_all : mg "all" = none) (z_bool : mg "bool" = none) (z_int : mg "int" = none) (z_isinstance : mg "isinstance" = none) (z_len : mg "len" = none) (z_list : mg "list" = none) (z_str : mg "str" = none) (z_tuple : mg "tuple" = none) (z_zip : mg "zip" = none) {cdv : Value} {A : Around} {outer : List Env} {s : Shared} {H : Hp} {f : Addr} [TkX (cxOf (L2.CX P w) P w K mg base N__law_same "_law_same" (defScope s__law_same) f cdv A outer s H Wsh.E)] (hr2 : Room (3 * n + 42) (A.deeper (envOfC "_law_same" (defScope s__law_same) s.heap.objs.size f cdv))) (dv : Dv base P (envOfC "_law_same" (defScope s__law_same) s.heap.objs.size f cdv :: outer) (A.deeper (envOfC "_law_same" (defScope s__law_same) s.heap.objs.size f cdv))) :
    VB (cxOf (L2.CX P w) P w K mg base N__law_same "_law_same" (defScope s__law_same) f cdv A outer s H Wsh.E) (defBody s__law_same) (T__law_same (VM.callN FT n)) := by
  have nd := (sc__law_same).nd
  have hr : Room (3 * n + 41) (A.deeper (envOfC "_law_same" (defScope s__law_same) s.heap.objs.size f cdv)) := hr2.mono (Nat.le_succ _)
  have hr0 : Room (3 * n + 40) (A.deeper (envOfC "_law_same" (defScope s__law_same) s.heap.objs.size f cdv)) := hr.mono (Nat.le_succ _)
  exact (vb_cons (vs_if (vt_cmp c_isN (ve_var 1) ve_non (nomark _))
    (vb_one (vs_ret (ve_cmp c_isN (ve_var 0) ve_non (nomark _))))
    vb_nil)
    (vb_cons (vs_if (vt_w (vw_or (vt_of (ve_isi (T := .bool) (ve_var 1) (ve_ty rfl z_bool rfl) rfl z_isinstance)) (vw_or1 (vt_of (ve_isi (T := .bool) (ve_var 0) (ve_ty rfl z_bool rfl) rfl z_isinstance)))))
    (vb_one (vs_ret (ve_and (ve_isi (T := .bool) (ve_var 1) (ve_ty rfl z_bool rfl) rfl z_isinstance) (ve_and (ve_isi (T := .bool) (ve_var 0) (ve_ty rfl z_bool rfl) rfl z_isinstance) (ve_one (ve_cmp (c_eq hr0.units) (ve_var 0) (ve_var 1) (nomark _)))))))
    vb_nil)
    (vb_cons (vs_if (vt_of (ve_isiT (Ts := [.int, .str]) (ve_var 1) (.cons (T := .int) (ve_ty rfl z_int rfl) (.cons (T := .str) (ve_ty rfl z_str rfl) .nil rfl) rfl) (by decide) rfl z_isinstance))
    (vb_one (vs_ret (ve_and (ve_isiT (Ts := [.int, .str]) (ve_var 0) (.cons (T := .int) (ve_ty rfl z_int rfl) (.cons (T := .str) (ve_ty rfl z_str rfl) .nil rfl) rfl) (by decide) rfl z_isinstance) (ve_and (ve_cmp (c_eq hr0.units) (ve_isi (T := .int) (ve_var 0) (ve_ty rfl z_int rfl) rfl z_isinstance) (ve_isi (T := .int) (ve_var 1) (ve_ty rfl z_int rfl) rfl z_isinstance) (nomark _)) (ve_one (ve_cmp (c_eq hr0.units) (ve_var 0) (ve_var 1) (nomark _)))))))
    vb_nil)
    (vb_cons (vs_if (vt_w (vw_or (vt_cmp (c_ne hr0.units) (ve_isi (T := .list) (ve_var 1) (ve_ty rfl z_list rfl) rfl z_isinstance) (ve_isi (T := .list) (ve_var 0) (ve_ty rfl z_list rfl) rfl z_isinstance) (nomark _)) (vw_or1 (vt_cmp (c_ne hr0.units) (ve_isi (T := .tuple) (ve_var 1) (ve_ty rfl z_tuple rfl) rfl z_isinstance) (ve_isi (T := .tuple) (ve_var 0) (ve_ty rfl z_tuple rfl) rfl z_isinstance) (nomark _)))))
    (vb_one (vs_ret ve_bl))
    vb_nil)
    (vb_cons (vs_if (vt_w (vw_or (vt_not (vt_of (ve_isiT (Ts := [.list, .tuple]) (ve_var 0) (.cons (T := .list) (ve_ty rfl z_list rfl) (.cons (T := .tuple) (ve_ty rfl z_tuple rfl) .nil rfl) rfl) (by decide) rfl z_isinstance))) (vw_or1 (vt_cmp (c_ne hr0.units) (ve_len (ve_var 0) rfl z_len) (ve_len (ve_var 1) rfl z_len) (nomark _)))))
    (vb_one (vs_ret ve_bl))
    vb_nil)
    (vb_one (vs_ret (ve_all rfl (ve_comp (own := [("_law_one", 2), ("_law_two", 3)]) (sl := [2, 3]) rfl nd  (blkOk_by (by first | (show blkC N__law_same (defScope s__law_same) _ _ = true; decide +kernel) | kernel_rfl)) (vi_zip rfl z_zip (ve_var 0) (ve_var 1)) (by decide) (fun _ _ _ _ _ => (vg_tup rfl (vgs_cons (vg_name nd rfl (Or.inl rfl) (Or.inr rfl)) (vgs_cons (vg_name nd rfl (Or.inl rfl) (Or.inr rfl)) vgs_nil)))) (fun _ _ _ _ _ => vts_nil) (fun _ _ _ _ _ => (ve_calle (i := 16) C__law_same hr0 rfl (va_cons (ve_var 2) (va_cons (ve_var 3) va_nil))))) rfl z_all))))))))
theorem b__law_fields [Wsh] {n : Nat}  {cdv : Value} {A : Around} {outer : List Env} {s : Shared} {H : Hp} {f : Addr} [TkX (cxC P w K mg base N__law_fields "_law_fields" (defScope s__law_fields) f cdv A outer s H Wsh.E)] (hrh : L2H.RoomH (3 * n + 42) (A.deeper (envOfC "_law_fields" (defScope s__law_fields) s.heap.objs.size f cdv))) :
    VB (cxC P w K mg base N__law_fields "_law_fields" (defScope s__law_fields) f cdv A outer s H Wsh.E) (defBody s__law_fields) (T__law_fields (VM.callN FT n)) := by
  have nd := (sc__law_fields).nd
  exact (vb_cons (vs_if (vt_cmp c_in (ve_xfld (ve_var 0) rfl (by decide)) (ve_lst (va_cons ve_str (va_cons ve_str (va_cons ve_str (va_cons ve_str va_nil))))) (by rfl))
    (vb_one (vs_ret (ve_tup (va_cons (ve_xfld (ve_var 0) rfl (by decide)) va_nil))))
    vb_nil)
    (vb_cons (vs_if (vt_cmp c_in (ve_xfld (ve_var 0) rfl (by decide)) (ve_lst (va_cons ve_str (va_cons ve_str (va_cons ve_str (va_cons ve_str va_nil))))) (by rfl))
    (vb_one (vs_ret (ve_tup (va_cons (ve_xfld (ve_var 0) rfl (by decide)) va_nil))))
    vb_nil)
    (vb_cons (vs_if (vt_cmp c_in (ve_xfld (ve_var 0) rfl (by decide)) (ve_lst (va_cons ve_str (va_cons ve_str va_nil))) (by rfl))
    (vb_one (vs_ret (ve_tup (va_cons (ve_xfld (ve_var 0) rfl (by decide)) va_nil))))
    vb_nil)
    (vb_cons (vs_if (vt_cmp c_in (ve_xfld (ve_var 0) rfl (by decide)) (ve_lst (va_cons ve_str (va_cons ve_str va_nil))) (by rfl))
    (vb_one (vs_ret (ve_tup (va_cons (ve_xfld (ve_var 0) rfl (by decide)) va_nil))))
    vb_nil)
    (vb_cons (vs_if (vt_cmp c_in (ve_xfld (ve_var 0) rfl (by decide)) (ve_lst (va_cons ve_str (va_cons ve_str va_nil))) (by rfl))
    (vb_one (vs_ret (ve_tup (va_cons (ve_xfld (ve_var 0) rfl (by decide)) va_nil))))
    vb_nil)
    (vb_cons (vs_if (vt_cmp (c_eq (rh_units hrh)) (ve_xfld (ve_var 0) rfl (by decide)) ve_str (nomark _))
    (vb_one (vs_ret (ve_tup (va_cons (ve_xfld (ve_var 0) rfl (by decide)) va_nil))))
    vb_nil)
    (vb_cons (vs_if (vt_cmp (c_eq (rh_units hrh)) (ve_xfld (ve_var 0) rfl (by decide)) ve_str (nomark _))
    (vb_one (vs_ret (ve_tup (va_cons (ve_xfld (ve_var 0) rfl (by decide)) (va_cons (ve_xfld (ve_var 0) rfl (by decide)) va_nil)))))
    vb_nil)
    (vb_cons (vs_if (vt_cmp (c_eq (rh_units hrh)) (ve_xfld (ve_var 0) rfl (by decide)) ve_str (nomark _))
    (vb_one (vs_ret (ve_tup (va_cons (ve_xfld (ve_var 0) rfl (by decide)) va_nil))))
    vb_nil)
    (vb_one (vs_ret (ve_tup va_nil)))))))))))
theorem b__law_got [Wsh] {n : Nat} (C__law_fields : Cc P w K mg base n "_law_fields" 148 P__law_fields) (Q4 : gotIn K = true) (g_CrossError : mg "CrossError" = some (.ref (cA K 35))) (g_Missing : mg "Missing" = some (.ref (cA K 36))) (g_NothingLeft : mg "NothingLeft" = some (.ref (cA K 34))) (LM : ∀ m, 1000000 ≤ m → LmOk P w K mg base (VM.callN FT n) (3 * n + 40) m) {cdv : Value} {A : Around} {outer : List Env} {s : Shared} {H : Hp} {f : Addr} [TkX (cxOf (L2.CX P w) P w K mg base N__law_got "_law_got" (defScope s__law_got) f cdv A outer s H Wsh.E)] (hr2 : Room (3 * n + 42) (A.deeper (envOfC "_law_got" (defScope s__law_got) s.heap.objs.size f cdv))) (dv : Dv base P (envOfC "_law_got" (defScope s__law_got) s.heap.objs.size f cdv :: outer) (A.deeper (envOfC "_law_got" (defScope s__law_got) s.heap.objs.size f cdv))) :
    VB (cxOf (L2.CX P w) P w K mg base N__law_got "_law_got" (defScope s__law_got) f cdv A outer s H Wsh.E) (defBody s__law_got) (T__law_got (VM.callN FT n)) := by
  have nd := (sc__law_got).nd
  have hr : Room (3 * n + 41) (A.deeper (envOfC "_law_got" (defScope s__law_got) s.heap.objs.size f cdv)) := hr2.mono (Nat.le_succ _)
  have hr0 : Room (3 * n + 40) (A.deeper (envOfC "_law_got" (defScope s__law_got) s.heap.objs.size f cdv)) := hr.mono (Nat.le_succ _)
  exact (vb_one (vs_tryR rfl rfl rfl nd rfl rfl rfl rfl rfl g_CrossError g_Missing g_NothingLeft Q4 (fun pn xe => (ve_tup (va_cons ve_str (va_cons (ve_act LM hr0 (ve_var 0)) va_nil)))) (fun a pn => (vb_one (vs_ret (ve_tup (va_cons (ve_xfld (ve_var 1) rfl (by decide)) (va_cons (ve_callC (i := 148) C__law_fields (rh_mark hr0) rfl (va_cons (ve_var 1) va_nil)) va_nil))))))))
theorem b__law_why [Wsh] {n : Nat} (C__law_got : Ce P w K mg base n "_law_got" 149 P__law_got) {cdv : Value} {A : Around} {outer : List Env} {s : Shared} {H : Hp} {f : Addr} [TkX (cxOf (L2.CX P w) P w K mg base N__law_why "_law_why" (defScope s__law_why) f cdv A outer s H Wsh.E)] (hr2 : Room (3 * n + 42) (A.deeper (envOfC "_law_why" (defScope s__law_why) s.heap.objs.size f cdv))) (dv : Dv base P (envOfC "_law_why" (defScope s__law_why) s.heap.objs.size f cdv :: outer) (A.deeper (envOfC "_law_why" (defScope s__law_why) s.heap.objs.size f cdv))) :
    VB (cxOf (L2.CX P w) P w K mg base N__law_why "_law_why" (defScope s__law_why) f cdv A outer s H Wsh.E) (defBody s__law_why) (T__law_why (VM.callN FT n)) := by
  have nd := (sc__law_why).nd
  have hr : Room (3 * n + 41) (A.deeper (envOfC "_law_why" (defScope s__law_why) s.heap.objs.size f cdv)) := hr2.mono (Nat.le_succ _)
  have hr0 : Room (3 * n + 40) (A.deeper (envOfC "_law_why" (defScope s__law_why) s.heap.objs.size f cdv)) := hr.mono (Nat.le_succ _)
  exact (vb_cons (vs_set nd rfl (Or.inl rfl) (ve_calle (i := 149) C__law_got hr0 rfl (va_cons (ve_var 0) va_nil)) rfl (Or.inr rfl))
    (vb_one (vs_ret (ve_if (vt_cmp (c_ne hr0.units) (ve_ix (ve_var 1) ve_int) ve_str (nomark _)) (ve_var 1) (ve_tup (va_cons ve_str (va_cons ve_non va_nil)))))))
theorem b__law_whys [Wsh] {n : Nat} (C__law_why : Ce P w K mg base n "_law_why" 150 P__law_why) {cdv : Value} {A : Around} {outer : List Env} {s : Shared} {H : Hp} {f : Addr} [TkX (cxOf (L2.CX P w) P w K mg base N__law_whys "_law_whys" (defScope s__law_whys) f cdv A outer s H Wsh.E)] (hr2 : Room (3 * n + 42) (A.deeper (envOfC "_law_whys" (defScope s__law_whys) s.heap.objs.size f cdv))) (dv : Dv base P (envOfC "_law_whys" (defScope s__law_whys) s.heap.objs.size f cdv :: outer) (A.deeper (envOfC "_law_whys" (defScope s__law_whys) s.heap.objs.size f cdv))) :
    VB (cxOf (L2.CX P w) P w K mg base N__law_whys "_law_whys" (defScope s__law_whys) f cdv A outer s H Wsh.E) (defBody s__law_whys) (T__law_whys (VM.callN FT n)) := by
  have nd := (sc__law_whys).nd
  have hr : Room (3 * n + 41) (A.deeper (envOfC "_law_whys" (defScope s__law_whys) s.heap.objs.size f cdv)) := hr2.mono (Nat.le_succ _)
  have hr0 : Room (3 * n + 40) (A.deeper (envOfC "_law_whys" (defScope s__law_whys) s.heap.objs.size f cdv)) := hr.mono (Nat.le_succ _)
  exact (vb_one (vs_ret (ve_comp (own := [("_law_deed", 1)]) (sl := [1]) rfl nd  (blkOk_by (by first | (show blkC N__law_whys (defScope s__law_whys) _ _ = true; decide +kernel) | kernel_rfl)) (vi_e (ve_var 0)) (by decide) (fun _ _ _ _ _ => (vg_name nd rfl (Or.inl rfl) (Or.inr rfl))) (fun _ _ _ _ _ => vts_nil) (fun _ _ _ _ _ => (ve_calle (i := 150) C__law_why hr0 rfl (va_cons (ve_var 1) va_nil))))))
theorem b_lam_0 [Wsh] {n : Nat} (C_sum_of : Ce P w K mg base n "sum_of" 206 P_sum_of) {q : Str} {cl : List (Str × Addr)} {f c' : Addr} {A : Around} {outer : List Env} {s : Shared} {H : Hp} [TkX (cxL P w K mg base lam_0.free q lam_0.scope cl A outer s H Wsh.E f c')] (hr2 : Room (3 * n + 42) (A.deeper (envL q lam_0.scope s.heap.objs.size f c' cl))) :
    VE (cxL P w K mg base lam_0.free q lam_0.scope cl A outer s H Wsh.E f c') lam_0.body (TL_0 (VM.callN FT n)) := by
  have hr : Room (3 * n + 41) (A.deeper (envL q lam_0.scope s.heap.objs.size f c' cl)) := hr2.mono (Nat.le_succ _)
  have hr0 : Room (3 * n + 40) (A.deeper (envL q lam_0.scope s.heap.objs.size f c' cl)) := hr.mono (Nat.le_succ _)
  exact (ve_calle (i := 206) C_sum_of hr0 rfl (va_cons (ve_var 0) (va_cons (ve_var 1) va_nil)))
theorem b_lam_1 [Wsh] {n : Nat} (C_keeps : Ce P w K mg base n "keeps" 208 P_keeps) {q : Str} {cl : List (Str × Addr)} {f c' : Addr} {A : Around} {outer : List Env} {s : Shared} {H : Hp} [TkX (cxL P w K mg base lam_1.free q lam_1.scope cl A outer s H Wsh.E f c')] (hr2 : Room (3 * n + 42) (A.deeper (envL q lam_1.scope s.heap.objs.size f c' cl))) :
    VE (cxL P w K mg base lam_1.free q lam_1.scope cl A outer s H Wsh.E f c') lam_1.body (TL_1 (VM.callN FT n)) := by
  have hr : Room (3 * n + 41) (A.deeper (envL q lam_1.scope s.heap.objs.size f c' cl)) := hr2.mono (Nat.le_succ _)
  have hr0 : Room (3 * n + 40) (A.deeper (envL q lam_1.scope s.heap.objs.size f c' cl)) := hr.mono (Nat.le_succ _)
  exact (ve_calle (i := 208) C_keeps hr0 rfl (va_cons (ve_tup (va_cons (ve_var 1) (va_cons (ve_var 2) (va_cons (ve_var 3) va_nil)))) (va_cons (ve_var 0) va_nil)))
theorem b_lam_2 [Wsh] {n : Nat} (C_sum_of : Ce P w K mg base n "sum_of" 206 P_sum_of) {q : Str} {cl : List (Str × Addr)} {f c' : Addr} {A : Around} {outer : List Env} {s : Shared} {H : Hp} [TkX (cxL P w K mg base lam_2.free q lam_2.scope cl A outer s H Wsh.E f c')] (hr2 : Room (3 * n + 42) (A.deeper (envL q lam_2.scope s.heap.objs.size f c' cl))) :
    VE (cxL P w K mg base lam_2.free q lam_2.scope cl A outer s H Wsh.E f c') lam_2.body (TL_2 (VM.callN FT n)) := by
  have hr : Room (3 * n + 41) (A.deeper (envL q lam_2.scope s.heap.objs.size f c' cl)) := hr2.mono (Nat.le_succ _)
  have hr0 : Room (3 * n + 40) (A.deeper (envL q lam_2.scope s.heap.objs.size f c' cl)) := hr.mono (Nat.le_succ _)
  exact (ve_calle (i := 206) C_sum_of hr0 rfl (va_cons (ve_var 0) (va_cons ve_dnew va_nil)))
abbrev FnV (K : PySem.W.Frag) (x q : Str) (st : Stmt) (f : Addr) (dvs : List V) : Prop := ∃ fd, FunD K x q (defArgs st) (defBody st) (defScope st) dvs [] f fd
def Fs (K : PySem.W.Frag) (mg : Str → Option Value) : Prop := FnV K "law" "law" s_law (He.ga K "law") [] ∧ mg "law" = some (.ref (He.ga K "law")) ∧ FnV K "_law_bag" "_law_bag" s__law_bag (He.ga K "_law_bag") [] ∧ mg "_law_bag" = some (.ref (He.ga K "_law_bag")) ∧ FnV K "_law_take" "_law_take" s__law_take (He.ga K "_law_take") [] ∧ mg "_law_take" = some (.ref (He.ga K "_law_take")) ∧ FnV K "_law_of" "_law_of" s__law_of (He.ga K "_law_of") [] ∧ mg "_law_of" = some (.ref (He.ga K "_law_of")) ∧ FnV K "_law_names" "_law_names" s__law_names (He.ga K "_law_names") [] ∧ mg "_law_names" = some (.ref (He.ga K "_law_names")) ∧ FnV K "_law_mixed" "_law_mixed" s__law_mixed (He.ga K "_law_mixed") [] ∧ mg "_law_mixed" = some (.ref (He.ga K "_law_mixed")) ∧ FnV K "_law_small" "_law_small" s__law_small (He.ga K "_law_small") [] ∧ mg "_law_small" = some (.ref (He.ga K "_law_small")) ∧ FnV K "_law_big_factor" "_law_big_factor" s__law_big_factor (He.ga K "_law_big_factor") [] ∧ mg "_law_big_factor" = some (.ref (He.ga K "_law_big_factor")) ∧ FnV K "_law_terms" "_law_terms" s__law_terms (He.ga K "_law_terms") [] ∧ mg "_law_terms" = some (.ref (He.ga K "_law_terms")) ∧ FnV K "_law_modulus" "_law_modulus" s__law_modulus (He.ga K "_law_modulus") [] ∧ mg "_law_modulus" = some (.ref (He.ga K "_law_modulus")) ∧ FnV K "names_of" "names_of" s_names_of (He.ga K "names_of") [] ∧ mg "names_of" = some (.ref (He.ga K "names_of")) ∧ FnV K "sum_of" "sum_of" s_sum_of (He.ga K "sum_of") [] ∧ mg "sum_of" = some (.ref (He.ga K "sum_of")) ∧ FnV K "divides" "divides" s_divides (He.ga K "divides") [] ∧ mg "divides" = some (.ref (He.ga K "divides")) ∧ FnV K "keeps" "keeps" s_keeps (He.ga K "keeps") [] ∧ mg "keeps" = some (.ref (He.ga K "keeps")) ∧ FnV K "_law_same" "_law_same" s__law_same (He.ga K "_law_same") [] ∧ mg "_law_same" = some (.ref (He.ga K "_law_same")) ∧ FnV K "_law_fields" "_law_fields" s__law_fields (He.ga K "_law_fields") [] ∧ mg "_law_fields" = some (.ref (He.ga K "_law_fields")) ∧ FnV K "_law_got" "_law_got" s__law_got (He.ga K "_law_got") [] ∧ mg "_law_got" = some (.ref (He.ga K "_law_got")) ∧ FnV K "_law_why" "_law_why" s__law_why (He.ga K "_law_why") [] ∧ mg "_law_why" = some (.ref (He.ga K "_law_why")) ∧ FnV K "_law_whys" "_law_whys" s__law_whys (He.ga K "_law_whys") [] ∧ mg "_law_whys" = some (.ref (He.ga K "_law_whys")) ∧ FnV K "__init__" "UnknownName.__init__" s_UnknownName___init__ (mA K 31 "__init__") []
def Zs (mg : Str → Option Value) : Prop := mg "all" = none ∧ mg "bool" = none ∧ mg "dict" = none ∧ mg "int" = none ∧ mg "isinstance" = none ∧ mg "len" = none ∧ mg "list" = none ∧ mg "range" = none ∧ mg "sorted" = none ∧ mg "str" = none ∧ mg "sum" = none ∧ mg "tuple" = none ∧ mg "zip" = none
def Gs (K : PySem.W.Frag) (mg : Str → Option Value) : Prop := (mg "CrossError" = some (.ref (cA K 35))) ∧ (mg "Missing" = some (.ref (cA K 36))) ∧ (mg "NothingLeft" = some (.ref (cA K 34))) ∧ (mg "UnknownName" = some (.ref (cA K 31)))
def Qs (K : PySem.W.Frag) : Prop := (errLB K 31 = true) ∧ (initB K 31 ["name"] = true) ∧ (baseB K 36 "LookupError.__init__" = true) ∧ (goodE K 31 = true) ∧ (gotIn K = true) ∧ (tabB K "law" = true)
theorem q_tab (h : Qs K) : tabB K "law" = true := by
  obtain ⟨Q0, Q1, Q2, Q3, Q4, Q5⟩ := h
  exact Q5
def All (P : Program) (w : World) (K : PySem.W.Frag) (mg : Str → Option Value) (base : Heap) (n : Nat) : Prop := Ce P w K mg base n "law" 209 P_law ∧ Ce P w K mg base n "_law_bag" 0 P__law_bag ∧ Ce P w K mg base n "_law_take" 1 P__law_take ∧ Ce P w K mg base n "_law_of" 2 P__law_of ∧ Ce P w K mg base n "_law_names" 46 P__law_names ∧ Ce P w K mg base n "_law_mixed" 17 P__law_mixed ∧ Ce P w K mg base n "_law_small" 3 P__law_small ∧ Ce P w K mg base n "_law_big_factor" 4 P__law_big_factor ∧ Ce P w K mg base n "_law_terms" 51 P__law_terms ∧ Ce P w K mg base n "_law_modulus" 22 P__law_modulus ∧ Ce P w K mg base n "names_of" 205 P_names_of ∧ Ce P w K mg base n "sum_of" 206 P_sum_of ∧ Ce P w K mg base n "divides" 207 P_divides ∧ Ce P w K mg base n "keeps" 208 P_keeps ∧ Ce P w K mg base n "_law_same" 16 P__law_same ∧ Cc P w K mg base n "_law_fields" 148 P__law_fields ∧ Ce P w K mg base n "_law_got" 149 P__law_got ∧ Ce P w K mg base n "_law_why" 150 P__law_why ∧ Ce P w K mg base n "_law_whys" 151 P__law_whys ∧ (∀ m, 1000000 ≤ m → LmOk P w K mg base (VM.callN FT n) (3 * n + 40) m)
theorem all_ok (hF : Fs K mg) (hZ : Zs mg) (hG : Gs K mg) (hQ : Qs K) (hS : base.NoSeer) (hT : P.given.tree = none) (TB : LamX.TabB base mg (tabP K "law").1 (tabP K "law").2) : ∀ n, All P w K mg base n := by
  obtain ⟨⟨fd0, F0⟩, m0, ⟨fd1, F1⟩, m1, ⟨fd2, F2⟩, m2, ⟨fd3, F3⟩, m3, ⟨fd4, F4⟩, m4, ⟨fd5, F5⟩, m5, ⟨fd6, F6⟩, m6, ⟨fd7, F7⟩, m7, ⟨fd8, F8⟩, m8, ⟨fd9, F9⟩, m9, ⟨fd10, F10⟩, m10, ⟨fd11, F11⟩, m11, ⟨fd12, F12⟩, m12, ⟨fd13, F13⟩, m13, ⟨fd14, F14⟩, m14, ⟨fd15, F15⟩, m15, ⟨fd16, F16⟩, m16, ⟨fd17, F17⟩, m17, ⟨fd18, F18⟩, m18, ⟨fdE_UnknownName, FE_UnknownName⟩⟩ := hF
  obtain ⟨z_all, z_bool, z_dict, z_int, z_isinstance, z_len, z_list, z_range, z_sorted, z_str, z_sum, z_tuple, z_zip⟩ := hZ
  obtain ⟨g_CrossError, g_Missing, g_NothingLeft, g_UnknownName⟩ := hG
  obtain ⟨Q0, Q1, Q2, Q3, Q4, Q5⟩ := hQ
  letI : Wsh := W0 K
  have bE_UnknownName : Binds K fdE_UnknownName P_UnknownName___init__ [] := FE_UnknownName.bindsN fun _ _ _ _ _ _ us hl => match us, hl with | [_, _], _ => rfl
  have E_UnknownName : MkE P w K mg base 1 (cA K 31) "LookupError.__init__" "UnknownName" ["name"] := mkE_of (msg := "unknown name") (errLB_ok Q0) Q1 FE_UnknownName sc_UnknownName___init__ rfl rfl (by decide) (fun cdv A outer s H E => pss_cons (ps_expr (pe_errinit rfl g_Missing (baseB_ok Q2).1 (baseB_ok Q2).2 rfl (pa_cons (pe_var (i := 0) rfl (.inl rfl)) (pa_cons pe_str pa_nil)))) (pss_cons (ps_errset (pe_var (i := 0) rfl (.inl rfl)) pe_str) (pss_one (ps_errset (pe_var (i := 0) rfl (.inl rfl)) (pe_var (i := 1) rfl (.inl rfl)))))) bE_UnknownName
  have b0 : Binds K fd0 P_law [] := F0.bindsN fun _ _ _ _ _ _ us hl => match us, hl with | [_], _ => rfl
  have b1 : Binds K fd1 P__law_bag [] := F1.bindsN fun _ _ _ _ _ _ us hl => match us, hl with | [_], _ => rfl
  have b2 : Binds K fd2 P__law_take [] := F2.bindsN fun _ _ _ _ _ _ us hl => match us, hl with | [_, _], _ => rfl
  have b3 : Binds K fd3 P__law_of [] := F3.bindsN fun _ _ _ _ _ _ us hl => match us, hl with | [_, _], _ => rfl
  have b4 : Binds K fd4 P__law_names [] := F4.bindsN fun _ _ _ _ _ _ us hl => match us, hl with | [_, _], _ => rfl
  have b5 : Binds K fd5 P__law_mixed [] := F5.bindsN fun _ _ _ _ _ _ us hl => match us, hl with | [_, _], _ => rfl
  have b6 : Binds K fd6 P__law_small [] := F6.bindsN fun _ _ _ _ _ _ us hl => match us, hl with | [_], _ => rfl
  have b7 : Binds K fd7 P__law_big_factor [] := F7.bindsN fun _ _ _ _ _ _ us hl => match us, hl with | [_], _ => rfl
  have b8 : Binds K fd8 P__law_terms [] := F8.bindsN fun _ _ _ _ _ _ us hl => match us, hl with | [_, _, _], _ => rfl
  have b9 : Binds K fd9 P__law_modulus [] := F9.bindsN fun _ _ _ _ _ _ us hl => match us, hl with | [_], _ => rfl
  have b10 : Binds K fd10 P_names_of [] := F10.bindsN fun _ _ _ _ _ _ us hl => match us, hl with | [_], _ => rfl
  have b11 : Binds K fd11 P_sum_of [] := F11.bindsN fun _ _ _ _ _ _ us hl => match us, hl with | [_, _], _ => rfl
  have b12 : Binds K fd12 P_divides [] := F12.bindsN fun _ _ _ _ _ _ us hl => match us, hl with | [_, _], _ => rfl
  have b13 : Binds K fd13 P_keeps [] := F13.bindsN fun _ _ _ _ _ _ us hl => match us, hl with | [_, _], _ => rfl
  have b14 : Binds K fd14 P__law_same [] := F14.bindsN fun _ _ _ _ _ _ us hl => match us, hl with | [_, _], _ => rfl
  have b15 : Binds K fd15 P__law_fields [] := F15.bindsN fun _ _ _ _ _ _ us hl => match us, hl with | [_], _ => rfl
  have b16 : Binds K fd16 P__law_got [] := F16.bindsN fun _ _ _ _ _ _ us hl => match us, hl with | [_], _ => rfl
  have b17 : Binds K fd17 P__law_why [] := F17.bindsN fun _ _ _ _ _ _ us hl => match us, hl with | [_], _ => rfl
  have b18 : Binds K fd18 P__law_whys [] := F18.bindsN fun _ _ _ _ _ _ us hl => match us, hl with | [_], _ => rfl
  intro n
  induction n with
  | zero => exact ⟨⟨⟨_, fd0, fn_zero, m0, F0.kp, b0, lk_of F0⟩, fun _ _ _ _ h => callN_len (hF := show FT 209 = some ⟨1, 17, T_law_k03⟩ from rfl) rfl h⟩,
      ⟨⟨_, fd1, fn_zero, m1, F1.kp, b1, lk_of F1⟩, fun _ _ _ _ h => callN_len (hF := show FT 0 = some ⟨1, 4, T__law_bag⟩ from rfl) rfl h⟩,
      ⟨⟨_, fd2, fn_zero, m2, F2.kp, b2, lk_of F2⟩, fun _ _ _ _ h => callN_len (hF := show FT 1 = some ⟨2, 5, T__law_take⟩ from rfl) rfl h⟩,
      ⟨⟨_, fd3, fn_zero, m3, F3.kp, b3, lk_of F3⟩, fun _ _ _ _ h => callN_len (hF := show FT 2 = some ⟨2, 2, T__law_of⟩ from rfl) rfl h⟩,
      ⟨⟨_, fd4, fn_zero, m4, F4.kp, b4, lk_of F4⟩, fun _ _ _ _ h => callN_len (hF := show FT 46 = some ⟨2, 8, T__law_names⟩ from rfl) rfl h⟩,
      ⟨⟨_, fd5, fn_zero, m5, F5.kp, b5, lk_of F5⟩, fun _ _ _ _ h => callN_len (hF := show FT 17 = some ⟨2, 4, T__law_mixed⟩ from rfl) rfl h⟩,
      ⟨⟨_, fd6, fn_zero, m6, F6.kp, b6, lk_of F6⟩, fun _ _ _ _ h => callN_len (hF := show FT 3 = some ⟨1, 1, T__law_small⟩ from rfl) rfl h⟩,
      ⟨⟨_, fd7, fn_zero, m7, F7.kp, b7, lk_of F7⟩, fun _ _ _ _ h => callN_len (hF := show FT 4 = some ⟨1, 1, T__law_big_factor⟩ from rfl) rfl h⟩,
      ⟨⟨_, fd8, fn_zero, m8, F8.kp, b8, lk_of F8⟩, fun _ _ _ _ h => callN_len (hF := show FT 51 = some ⟨3, 5, T__law_terms⟩ from rfl) rfl h⟩,
      ⟨⟨_, fd9, fn_zero, m9, F9.kp, b9, lk_of F9⟩, fun _ _ _ _ h => callN_len (hF := show FT 22 = some ⟨1, 1, T__law_modulus⟩ from rfl) rfl h⟩,
      ⟨⟨_, fd10, fn_zero, m10, F10.kp, b10, lk_of F10⟩, fun _ _ _ _ h => callN_len (hF := show FT 205 = some ⟨1, 3, T_names_of⟩ from rfl) rfl h⟩,
      ⟨⟨_, fd11, fn_zero, m11, F11.kp, b11, lk_of F11⟩, fun _ _ _ _ h => callN_len (hF := show FT 206 = some ⟨2, 5, T_sum_of⟩ from rfl) rfl h⟩,
      ⟨⟨_, fd12, fn_zero, m12, F12.kp, b12, lk_of F12⟩, fun _ _ _ _ h => callN_len (hF := show FT 207 = some ⟨2, 2, T_divides⟩ from rfl) rfl h⟩,
      ⟨⟨_, fd13, fn_zero, m13, F13.kp, b13, lk_of F13⟩, fun _ _ _ _ h => callN_len (hF := show FT 208 = some ⟨2, 2, T_keeps⟩ from rfl) rfl h⟩,
      ⟨⟨_, fd14, fn_zero, m14, F14.kp, b14, lk_of F14⟩, fun _ _ _ _ h => callN_len (hF := show FT 16 = some ⟨2, 4, T__law_same⟩ from rfl) rfl h⟩,
      ⟨⟨_, fd15, fnC_zero, m15, F15.kp, b15, lk_of F15⟩, fun _ _ _ _ h => callN_len (hF := show FT 148 = some ⟨1, 1, T__law_fields⟩ from rfl) rfl h⟩,
      ⟨⟨_, fd16, fn_zero, m16, F16.kp, b16, lk_of F16⟩, fun _ _ _ _ h => callN_len (hF := show FT 149 = some ⟨1, 2, T__law_got⟩ from rfl) rfl h⟩,
      ⟨⟨_, fd17, fn_zero, m17, F17.kp, b17, lk_of F17⟩, fun _ _ _ _ h => callN_len (hF := show FT 150 = some ⟨1, 2, T__law_why⟩ from rfl) rfl h⟩,
      ⟨⟨_, fd18, fn_zero, m18, F18.kp, b18, lk_of F18⟩, fun _ _ _ _ h => callN_len (hF := show FT 151 = some ⟨1, 2, T__law_whys⟩ from rfl) rfl h⟩,
      fun m _ => lm_zero⟩
  | succ n IH =>
    obtain ⟨C_law, C__law_bag, C__law_take, C__law_of, C__law_names, C__law_mixed, C__law_small, C__law_big_factor, C__law_terms, C__law_modulus, C_names_of, C_sum_of, C_divides, C_keeps, C__law_same, C__law_fields, C__law_got, C__law_why, C__law_whys, LM⟩ := IH
    have k0 : FnOk P w K mg base (L2.CX P w) (3 * (n + 1) + 40) (He.ga K "law") fd0 P_law (spOf K (VM.callN FT (n + 1)) 209 P_law.length) := fn_succL F0 sc_law (show FT 209 = some ⟨1, 17, T_law_k03⟩ from rfl) rfl rfl fun cdv A outer s H => fun hcode hr => b_law C__law_bag C__law_mixed C__law_modulus C__law_names C__law_of C__law_same C__law_take C__law_terms C__law_why C__law_whys C_keeps C_names_of C_sum_of Q5 z_dict z_int z_len z_list z_range z_sorted z_sum TB hcode hr (dv_fn hS hT sc_law hr)
    have k1 : FnOk P w K mg base (L2.CX P w) (3 * (n + 1) + 40) (He.ga K "_law_bag") fd1 P__law_bag (spOf K (VM.callN FT (n + 1)) 0 P__law_bag.length) := fn_succ F1 sc__law_bag (show FT 0 = some ⟨1, 4, T__law_bag⟩ from rfl) rfl rfl fun cdv A outer s H => fun hr => b__law_bag z_int z_len hr (dv_fn hS hT sc__law_bag hr)
    have k2 : FnOk P w K mg base (L2.CX P w) (3 * (n + 1) + 40) (He.ga K "_law_take") fd2 P__law_take (spOf K (VM.callN FT (n + 1)) 1 P__law_take.length) := fn_succ F2 sc__law_take (show FT 1 = some ⟨2, 5, T__law_take⟩ from rfl) rfl rfl fun cdv A outer s H => fun hr => b__law_take z_int z_len hr (dv_fn hS hT sc__law_take hr)
    have k3 : FnOk P w K mg base (L2.CX P w) (3 * (n + 1) + 40) (He.ga K "_law_of") fd3 P__law_of (spOf K (VM.callN FT (n + 1)) 2 P__law_of.length) := fn_succ F3 sc__law_of (show FT 2 = some ⟨2, 2, T__law_of⟩ from rfl) rfl rfl fun cdv A outer s H => fun hr => b__law_of C__law_take z_len hr (dv_fn hS hT sc__law_of hr)
    have k4 : FnOk P w K mg base (L2.CX P w) (3 * (n + 1) + 40) (He.ga K "_law_names") fd4 P__law_names (spOf K (VM.callN FT (n + 1)) 46 P__law_names.length) := fn_succ F4 sc__law_names (show FT 46 = some ⟨2, 8, T__law_names⟩ from rfl) rfl rfl fun cdv A outer s H => fun hr => b__law_names C__law_of C__law_take z_int z_len z_range hr (dv_fn hS hT sc__law_names hr)
    have k5 : FnOk P w K mg base (L2.CX P w) (3 * (n + 1) + 40) (He.ga K "_law_mixed") fd5 P__law_mixed (spOf K (VM.callN FT (n + 1)) 17 P__law_mixed.length) := fn_succ F5 sc__law_mixed (show FT 17 = some ⟨2, 4, T__law_mixed⟩ from rfl) rfl rfl fun cdv A outer s H => fun hr => b__law_mixed C__law_take z_len hr (dv_fn hS hT sc__law_mixed hr)
    have k6 : FnOk P w K mg base (L2.CX P w) (3 * (n + 1) + 40) (He.ga K "_law_small") fd6 P__law_small (spOf K (VM.callN FT (n + 1)) 3 P__law_small.length) := fn_succ F6 sc__law_small (show FT 3 = some ⟨1, 1, T__law_small⟩ from rfl) rfl rfl fun cdv A outer s H => fun hr => b__law_small C__law_of hr (dv_fn hS hT sc__law_small hr)
    have k7 : FnOk P w K mg base (L2.CX P w) (3 * (n + 1) + 40) (He.ga K "_law_big_factor") fd7 P__law_big_factor (spOf K (VM.callN FT (n + 1)) 4 P__law_big_factor.length) := fn_succ F7 sc__law_big_factor (show FT 4 = some ⟨1, 1, T__law_big_factor⟩ from rfl) rfl rfl fun cdv A outer s H => fun hr => b__law_big_factor C__law_small C__law_take hr (dv_fn hS hT sc__law_big_factor hr)
    have k8 : FnOk P w K mg base (L2.CX P w) (3 * (n + 1) + 40) (He.ga K "_law_terms") fd8 P__law_terms (spOf K (VM.callN FT (n + 1)) 51 P__law_terms.length) := fn_succ F8 sc__law_terms (show FT 51 = some ⟨3, 5, T__law_terms⟩ from rfl) rfl rfl fun cdv A outer s H => fun hr => b__law_terms C__law_big_factor C__law_mixed C__law_take z_tuple hr (dv_fn hS hT sc__law_terms hr)
    have k9 : FnOk P w K mg base (L2.CX P w) (3 * (n + 1) + 40) (He.ga K "_law_modulus") fd9 P__law_modulus (spOf K (VM.callN FT (n + 1)) 22 P__law_modulus.length) := fn_succ F9 sc__law_modulus (show FT 22 = some ⟨1, 1, T__law_modulus⟩ from rfl) rfl rfl fun cdv A outer s H => fun hr => b__law_modulus C__law_of C__law_take hr (dv_fn hS hT sc__law_modulus hr)
    have k10 : FnOk P w K mg base (L2.CX P w) (3 * (n + 1) + 40) (He.ga K "names_of") fd10 P_names_of (spOf K (VM.callN FT (n + 1)) 205 P_names_of.length) := fn_succ F10 sc_names_of (show FT 205 = some ⟨1, 3, T_names_of⟩ from rfl) rfl rfl fun cdv A outer s H => fun hr => b_names_of z_sorted hr (dv_fn hS hT sc_names_of hr)
    have k11 : FnOk P w K mg base (L2.CX P w) (3 * (n + 1) + 40) (He.ga K "sum_of") fd11 P_sum_of (spOf K (VM.callN FT (n + 1)) 206 P_sum_of.length) := fn_succ F11 sc_sum_of (show FT 206 = some ⟨2, 5, T_sum_of⟩ from rfl) rfl rfl fun cdv A outer s H => fun hr => b_sum_of Q3 g_UnknownName E_UnknownName hr (dv_fn hS hT sc_sum_of hr)
    have k12 : FnOk P w K mg base (L2.CX P w) (3 * (n + 1) + 40) (He.ga K "divides") fd12 P_divides (spOf K (VM.callN FT (n + 1)) 207 P_divides.length) := fn_succ F12 sc_divides (show FT 207 = some ⟨2, 2, T_divides⟩ from rfl) rfl rfl fun cdv A outer s H => fun hr => b_divides  hr (dv_fn hS hT sc_divides hr)
    have k13 : FnOk P w K mg base (L2.CX P w) (3 * (n + 1) + 40) (He.ga K "keeps") fd13 P_keeps (spOf K (VM.callN FT (n + 1)) 208 P_keeps.length) := fn_succ F13 sc_keeps (show FT 208 = some ⟨2, 2, T_keeps⟩ from rfl) rfl rfl fun cdv A outer s H => fun hr => b_keeps C_divides C_sum_of hr (dv_fn hS hT sc_keeps hr)
    have k14 : FnOk P w K mg base (L2.CX P w) (3 * (n + 1) + 40) (He.ga K "_law_same") fd14 P__law_same (spOf K (VM.callN FT (n + 1)) 16 P__law_same.length) := fn_succ F14 sc__law_same (show FT 16 = some ⟨2, 4, T__law_same⟩ from rfl) rfl rfl fun cdv A outer s H => fun hr => b__law_same C__law_same z_all z_bool z_int z_isinstance z_len z_list z_str z_tuple z_zip hr (dv_fn hS hT sc__law_same hr)
    have k15 : FnC P w K mg base (3 * (n + 1) + 40) (He.ga K "_law_fields") fd15 P__law_fields (spOf K (VM.callN FT (n + 1)) 148 P__law_fields.length) := fnC_succ F15 sc__law_fields (show FT 148 = some ⟨1, 1, T__law_fields⟩ from rfl) rfl rfl fun cdv A outer s H => fun hr => b__law_fields  hr
    have k16 : FnOk P w K mg base (L2.CX P w) (3 * (n + 1) + 40) (He.ga K "_law_got") fd16 P__law_got (spOf K (VM.callN FT (n + 1)) 149 P__law_got.length) := fn_succ F16 sc__law_got (show FT 149 = some ⟨1, 2, T__law_got⟩ from rfl) rfl rfl fun cdv A outer s H => fun hr => b__law_got C__law_fields Q4 g_CrossError g_Missing g_NothingLeft LM hr (dv_fn hS hT sc__law_got hr)
    have k17 : FnOk P w K mg base (L2.CX P w) (3 * (n + 1) + 40) (He.ga K "_law_why") fd17 P__law_why (spOf K (VM.callN FT (n + 1)) 150 P__law_why.length) := fn_succ F17 sc__law_why (show FT 150 = some ⟨1, 2, T__law_why⟩ from rfl) rfl rfl fun cdv A outer s H => fun hr => b__law_why C__law_got hr (dv_fn hS hT sc__law_why hr)
    have k18 : FnOk P w K mg base (L2.CX P w) (3 * (n + 1) + 40) (He.ga K "_law_whys") fd18 P__law_whys (spOf K (VM.callN FT (n + 1)) 151 P__law_whys.length) := fn_succ F18 sc__law_whys (show FT 151 = some ⟨1, 2, T__law_whys⟩ from rfl) rfl rfl fun cdv A outer s H => fun hr => b__law_whys C__law_why hr (dv_fn hS hT sc__law_whys hr)
    have LM' : ∀ m, 1000000 ≤ m → LmOk P w K mg base (VM.callN FT (n + 1)) (3 * (n + 1) + 40) m := fun m hm => by
      by_cases e0 : m = 1000055
      · subst e0
        exact lm_succ (te := TL_0) (I := lam_0) rfl (show FT 1000055 = some ⟨2, 2, fun cs => VM.sRet (TL_0 cs)⟩ from rfl) (by decide +kernel) fun q cl f c' A outer s H => fun hr => b_lam_0 C_sum_of hr
      by_cases e1 : m = 1000056
      · subst e1
        exact lm_succ (te := TL_1) (I := lam_1) rfl (show FT 1000056 = some ⟨4, 4, fun cs => VM.sRet (TL_1 cs)⟩ from rfl) (by decide +kernel) fun q cl f c' A outer s H => fun hr => b_lam_1 C_keeps hr
      by_cases e2 : m = 1000057
      · subst e2
        exact lm_succ (te := TL_2) (I := lam_2) rfl (show FT 1000057 = some ⟨1, 1, fun cs => VM.sRet (TL_2 cs)⟩ from rfl) (by decide +kernel) fun q cl f c' A outer s H => fun hr => b_lam_2 C_sum_of hr
      exact lm_none (ft_none m hm e0 e1 e2)
    exact ⟨⟨⟨_, fd0, k0, m0, F0.kp, b0, lk_of F0⟩, fun _ _ _ _ h => callN_len (hF := show FT 209 = some ⟨1, 17, T_law_k03⟩ from rfl) rfl h⟩,
      ⟨⟨_, fd1, k1, m1, F1.kp, b1, lk_of F1⟩, fun _ _ _ _ h => callN_len (hF := show FT 0 = some ⟨1, 4, T__law_bag⟩ from rfl) rfl h⟩,
      ⟨⟨_, fd2, k2, m2, F2.kp, b2, lk_of F2⟩, fun _ _ _ _ h => callN_len (hF := show FT 1 = some ⟨2, 5, T__law_take⟩ from rfl) rfl h⟩,
      ⟨⟨_, fd3, k3, m3, F3.kp, b3, lk_of F3⟩, fun _ _ _ _ h => callN_len (hF := show FT 2 = some ⟨2, 2, T__law_of⟩ from rfl) rfl h⟩,
      ⟨⟨_, fd4, k4, m4, F4.kp, b4, lk_of F4⟩, fun _ _ _ _ h => callN_len (hF := show FT 46 = some ⟨2, 8, T__law_names⟩ from rfl) rfl h⟩,
      ⟨⟨_, fd5, k5, m5, F5.kp, b5, lk_of F5⟩, fun _ _ _ _ h => callN_len (hF := show FT 17 = some ⟨2, 4, T__law_mixed⟩ from rfl) rfl h⟩,
      ⟨⟨_, fd6, k6, m6, F6.kp, b6, lk_of F6⟩, fun _ _ _ _ h => callN_len (hF := show FT 3 = some ⟨1, 1, T__law_small⟩ from rfl) rfl h⟩,
      ⟨⟨_, fd7, k7, m7, F7.kp, b7, lk_of F7⟩, fun _ _ _ _ h => callN_len (hF := show FT 4 = some ⟨1, 1, T__law_big_factor⟩ from rfl) rfl h⟩,
      ⟨⟨_, fd8, k8, m8, F8.kp, b8, lk_of F8⟩, fun _ _ _ _ h => callN_len (hF := show FT 51 = some ⟨3, 5, T__law_terms⟩ from rfl) rfl h⟩,
      ⟨⟨_, fd9, k9, m9, F9.kp, b9, lk_of F9⟩, fun _ _ _ _ h => callN_len (hF := show FT 22 = some ⟨1, 1, T__law_modulus⟩ from rfl) rfl h⟩,
      ⟨⟨_, fd10, k10, m10, F10.kp, b10, lk_of F10⟩, fun _ _ _ _ h => callN_len (hF := show FT 205 = some ⟨1, 3, T_names_of⟩ from rfl) rfl h⟩,
      ⟨⟨_, fd11, k11, m11, F11.kp, b11, lk_of F11⟩, fun _ _ _ _ h => callN_len (hF := show FT 206 = some ⟨2, 5, T_sum_of⟩ from rfl) rfl h⟩,
      ⟨⟨_, fd12, k12, m12, F12.kp, b12, lk_of F12⟩, fun _ _ _ _ h => callN_len (hF := show FT 207 = some ⟨2, 2, T_divides⟩ from rfl) rfl h⟩,
      ⟨⟨_, fd13, k13, m13, F13.kp, b13, lk_of F13⟩, fun _ _ _ _ h => callN_len (hF := show FT 208 = some ⟨2, 2, T_keeps⟩ from rfl) rfl h⟩,
      ⟨⟨_, fd14, k14, m14, F14.kp, b14, lk_of F14⟩, fun _ _ _ _ h => callN_len (hF := show FT 16 = some ⟨2, 4, T__law_same⟩ from rfl) rfl h⟩,
      ⟨⟨_, fd15, k15, m15, F15.kp, b15, lk_of F15⟩, fun _ _ _ _ h => callN_len (hF := show FT 148 = some ⟨1, 1, T__law_fields⟩ from rfl) rfl h⟩,
      ⟨⟨_, fd16, k16, m16, F16.kp, b16, lk_of F16⟩, fun _ _ _ _ h => callN_len (hF := show FT 149 = some ⟨1, 2, T__law_got⟩ from rfl) rfl h⟩,
      ⟨⟨_, fd17, k17, m17, F17.kp, b17, lk_of F17⟩, fun _ _ _ _ h => callN_len (hF := show FT 150 = some ⟨1, 2, T__law_why⟩ from rfl) rfl h⟩,
      ⟨⟨_, fd18, k18, m18, F18.kp, b18, lk_of F18⟩, fun _ _ _ _ h => callN_len (hF := show FT 151 = some ⟨1, 2, T__law_whys⟩ from rfl) rfl h⟩,
      LM'⟩
end
end L_k03
theorem L_k03.law_true (is : List Int) (hl : is.length ≤ 63) : VM.callN L_k03.FT 60 209 [.scr is] [] (fun v _ => v = .bl true) (fun _ _ => False) := VP.law_true03 is hl _
set_option maxHeartbeats 0
namespace L_k03
open PySem PySem.Spec PyProof.Rows L2 VS
noncomputable instance : Wsh := W0 (He.frG (fun _ => none) [])
def d_law : DefV := ⟨fun K => He.ga K "law", "law", "law", defArgs s_law, defBody s_law, defScope s_law, []⟩
def d__law_bag : DefV := ⟨fun K => He.ga K "_law_bag", "_law_bag", "_law_bag", defArgs s__law_bag, defBody s__law_bag, defScope s__law_bag, []⟩
def d__law_take : DefV := ⟨fun K => He.ga K "_law_take", "_law_take", "_law_take", defArgs s__law_take, defBody s__law_take, defScope s__law_take, []⟩
def d__law_of : DefV := ⟨fun K => He.ga K "_law_of", "_law_of", "_law_of", defArgs s__law_of, defBody s__law_of, defScope s__law_of, []⟩
def d__law_names : DefV := ⟨fun K => He.ga K "_law_names", "_law_names", "_law_names", defArgs s__law_names, defBody s__law_names, defScope s__law_names, []⟩
def d__law_mixed : DefV := ⟨fun K => He.ga K "_law_mixed", "_law_mixed", "_law_mixed", defArgs s__law_mixed, defBody s__law_mixed, defScope s__law_mixed, []⟩
def d__law_small : DefV := ⟨fun K => He.ga K "_law_small", "_law_small", "_law_small", defArgs s__law_small, defBody s__law_small, defScope s__law_small, []⟩
def d__law_big_factor : DefV := ⟨fun K => He.ga K "_law_big_factor", "_law_big_factor", "_law_big_factor", defArgs s__law_big_factor, defBody s__law_big_factor, defScope s__law_big_factor, []⟩
def d__law_terms : DefV := ⟨fun K => He.ga K "_law_terms", "_law_terms", "_law_terms", defArgs s__law_terms, defBody s__law_terms, defScope s__law_terms, []⟩
def d__law_modulus : DefV := ⟨fun K => He.ga K "_law_modulus", "_law_modulus", "_law_modulus", defArgs s__law_modulus, defBody s__law_modulus, defScope s__law_modulus, []⟩
def d_names_of : DefV := ⟨fun K => He.ga K "names_of", "names_of", "names_of", defArgs s_names_of, defBody s_names_of, defScope s_names_of, []⟩
def d_sum_of : DefV := ⟨fun K => He.ga K "sum_of", "sum_of", "sum_of", defArgs s_sum_of, defBody s_sum_of, defScope s_sum_of, []⟩
def d_divides : DefV := ⟨fun K => He.ga K "divides", "divides", "divides", defArgs s_divides, defBody s_divides, defScope s_divides, []⟩
def d_keeps : DefV := ⟨fun K => He.ga K "keeps", "keeps", "keeps", defArgs s_keeps, defBody s_keeps, defScope s_keeps, []⟩
def d__law_same : DefV := ⟨fun K => He.ga K "_law_same", "_law_same", "_law_same", defArgs s__law_same, defBody s__law_same, defScope s__law_same, []⟩
def d__law_fields : DefV := ⟨fun K => He.ga K "_law_fields", "_law_fields", "_law_fields", defArgs s__law_fields, defBody s__law_fields, defScope s__law_fields, []⟩
def d__law_got : DefV := ⟨fun K => He.ga K "_law_got", "_law_got", "_law_got", defArgs s__law_got, defBody s__law_got, defScope s__law_got, []⟩
def d__law_why : DefV := ⟨fun K => He.ga K "_law_why", "_law_why", "_law_why", defArgs s__law_why, defBody s__law_why, defScope s__law_why, []⟩
def d__law_whys : DefV := ⟨fun K => He.ga K "_law_whys", "_law_whys", "_law_whys", defArgs s__law_whys, defBody s__law_whys, defScope s__law_whys, []⟩
def d_UnknownName___init__ : DefV := ⟨fun K => mA K 31 "__init__", "__init__", "UnknownName.__init__", defArgs s_UnknownName___init__, defBody s_UnknownName___init__, defScope s_UnknownName___init__, []⟩
def fn : List DefV := [d_law, d__law_bag, d__law_take, d__law_of, d__law_names, d__law_mixed, d__law_small, d__law_big_factor, d__law_terms, d__law_modulus, d_names_of, d_sum_of, d_divides, d_keeps, d__law_same, d__law_fields, d__law_got, d__law_why, d__law_whys, d_UnknownName___init__]
def fa : List He.Fa := [.glo "law", .glo "_law_bag", .glo "_law_take", .glo "_law_of", .glo "_law_names", .glo "_law_mixed", .glo "_law_small", .glo "_law_big_factor", .glo "_law_terms", .glo "_law_modulus", .glo "names_of", .glo "sum_of", .glo "divides", .glo "keeps", .glo "_law_same", .glo "_law_fields", .glo "_law_got", .glo "_law_why", .glo "_law_whys", .free "all", .free "bool", .free "dict", .free "int", .free "isinstance", .free "len", .free "list", .free "range", .free "sorted", .free "str", .free "sum", .free "tuple", .free "zip", .glo "CrossError", .glo "Missing", .glo "NothingLeft", .glo "UnknownName"]
def ex (K : PySem.W.Frag) : Bool := errLB K 31 && (initB K 31 ["name"] && (baseB K 36 "LookupError.__init__" && (goodE K 31 && (gotIn K && (tabB K "law")))))
abbrev R : PySem.W.OpenRow := PySem.W.OpenLaw.row PySem.Challenge.rw_whatcrosses_k03_sums_and_kept_rows
abbrev hk : PySem.W.Hook := hookT ["law"] 5 fa fn ex
def ob (s : PySem.W.SharedT) : AlV := obsT ["law"] 5 fa fn ex (HandSHeadRun.getT s)
theorem ob_eq (s : PySem.W.SharedT) : ob s = hk.obs s.abs := obsT_eq (HandSHeadRun.getT_eq s)
def names0 : List PySem.Str := ["__name__", "CrossError", "Missing", "UnknownName", "NothingLeft", "names_of", "sum_of", "divides", "keeps", "_law_bag", "_law_take", "_law_of", "_law_mixed", "_law_same", "_law_fields", "_law_got"]
def names1 : List PySem.Str := ["_law_why", "_law_whys", "_law_names", "_law_small", "_law_big_factor", "_law_terms", "_law_modulus"]
def names : List PySem.Str := names0 ++ names1
theorem run (w : World) : HandSHeadRun.RunEq R (PySem.W.view R.prog [25]) hk ob 40000 names w := by
  intro os
  kernel_rfl
theorem facts {K : PySem.W.Frag} {h : Heap} {mg : Str → Option Value} (X : K.In h) (G : h.Ns mainGlobals mg) (c : SaysV fa fn ex K) : Fs K mg ∧ Zs mg ∧ Gs K mg ∧ Qs K := by
  have hx := c.b.2.2.1
  unfold ex at hx
  simp only [Bool.and_eq_true] at hx
  obtain ⟨e0, e1, e2, e3, e4, e5⟩ := hx
  exact ⟨⟨c.def_ 0 (d := d_law) rfl, He.glo_ok X G (c.fact 0 (f := .glo "law") rfl), c.def_ 1 (d := d__law_bag) rfl, He.glo_ok X G (c.fact 1 (f := .glo "_law_bag") rfl), c.def_ 2 (d := d__law_take) rfl, He.glo_ok X G (c.fact 2 (f := .glo "_law_take") rfl), c.def_ 3 (d := d__law_of) rfl, He.glo_ok X G (c.fact 3 (f := .glo "_law_of") rfl), c.def_ 4 (d := d__law_names) rfl, He.glo_ok X G (c.fact 4 (f := .glo "_law_names") rfl), c.def_ 5 (d := d__law_mixed) rfl, He.glo_ok X G (c.fact 5 (f := .glo "_law_mixed") rfl), c.def_ 6 (d := d__law_small) rfl, He.glo_ok X G (c.fact 6 (f := .glo "_law_small") rfl), c.def_ 7 (d := d__law_big_factor) rfl, He.glo_ok X G (c.fact 7 (f := .glo "_law_big_factor") rfl), c.def_ 8 (d := d__law_terms) rfl, He.glo_ok X G (c.fact 8 (f := .glo "_law_terms") rfl), c.def_ 9 (d := d__law_modulus) rfl, He.glo_ok X G (c.fact 9 (f := .glo "_law_modulus") rfl), c.def_ 10 (d := d_names_of) rfl, He.glo_ok X G (c.fact 10 (f := .glo "names_of") rfl), c.def_ 11 (d := d_sum_of) rfl, He.glo_ok X G (c.fact 11 (f := .glo "sum_of") rfl), c.def_ 12 (d := d_divides) rfl, He.glo_ok X G (c.fact 12 (f := .glo "divides") rfl), c.def_ 13 (d := d_keeps) rfl, He.glo_ok X G (c.fact 13 (f := .glo "keeps") rfl), c.def_ 14 (d := d__law_same) rfl, He.glo_ok X G (c.fact 14 (f := .glo "_law_same") rfl), c.def_ 15 (d := d__law_fields) rfl, He.glo_ok X G (c.fact 15 (f := .glo "_law_fields") rfl), c.def_ 16 (d := d__law_got) rfl, He.glo_ok X G (c.fact 16 (f := .glo "_law_got") rfl), c.def_ 17 (d := d__law_why) rfl, He.glo_ok X G (c.fact 17 (f := .glo "_law_why") rfl), c.def_ 18 (d := d__law_whys) rfl, He.glo_ok X G (c.fact 18 (f := .glo "_law_whys") rfl), c.def_ 19 (d := d_UnknownName___init__) rfl⟩, ⟨He.free_ok X G (c.fact 19 (f := .free "all") rfl), He.free_ok X G (c.fact 20 (f := .free "bool") rfl), He.free_ok X G (c.fact 21 (f := .free "dict") rfl), He.free_ok X G (c.fact 22 (f := .free "int") rfl), He.free_ok X G (c.fact 23 (f := .free "isinstance") rfl), He.free_ok X G (c.fact 24 (f := .free "len") rfl), He.free_ok X G (c.fact 25 (f := .free "list") rfl), He.free_ok X G (c.fact 26 (f := .free "range") rfl), He.free_ok X G (c.fact 27 (f := .free "sorted") rfl), He.free_ok X G (c.fact 28 (f := .free "str") rfl), He.free_ok X G (c.fact 29 (f := .free "sum") rfl), He.free_ok X G (c.fact 30 (f := .free "tuple") rfl), He.free_ok X G (c.fact 31 (f := .free "zip") rfl)⟩, ⟨He.glo_ok X G (c.fact 32 (f := .glo "CrossError") rfl), He.glo_ok X G (c.fact 33 (f := .glo "Missing") rfl), He.glo_ok X G (c.fact 34 (f := .glo "NothingLeft") rfl), He.glo_ok X G (c.fact 35 (f := .glo "UnknownName") rfl)⟩, ⟨e0, e1, e2, e3, e4, e5⟩⟩
end L_k03
open PySem PySem.W PySem.Calls PyProof.Rows
theorem PySem.Challenge.cw_whatcrosses_k03_sums_and_kept_rows_holds : PySem.Challenge.rw_whatcrosses_k03_sums_and_kept_rows.Holds := by
  w_on; o_law
  refine HandSHeadRun.head_any (r := OpenLaw.row PySem.Challenge.rw_whatcrosses_k03_sums_and_kept_rows) (q := view (OpenLaw.row PySem.Challenge.rw_whatcrosses_k03_sums_and_kept_rows).prog [25]) (H := L_k03.hk) (ob := L_k03.ob) (M := 40000) (loose := L_k03.names) (d := HandSHeadRun.topDef (OpenLaw.row PySem.Challenge.rw_whatcrosses_k03_sums_and_kept_rows).prog 25) (kwd := []) L_k03.ob_eq
    (by kernel_rfl) (fun s => by kernel_rfl) L_k03.run (by kernel_rfl) (by kernel_rfl) (by kernel_rfl) (by rfl) (by first | assumption | decide +kernel) (by decide +kernel) ⟨rfl, rfl, rfl, rfl, rfl, by decide +kernel⟩ ?hw ?hc
  case hw => w_witness2
  case hc =>
    refine VS.walk_ofT (l := PySem.Challenge.rw_whatcrosses_k03_sums_and_kept_rows) (n := 63) (k := 3 * 60 + 40) (x := "_law_script") (own := ["law"]) rfl (by decide) (by kernel_rfl) ⟨rfl, by decide, by decide⟩ (by kernel_rfl) (fun y hy => Option.isSome_iff_exists.mp (by rw [List.mem_singleton.mp hy]; kernel_rfl)) ?F
    intro w mg fa h Y G hmg0
    obtain ⟨K, KX, c⟩ := Y
    have hmg : mg ("law" : PySem.Str) = some (.ref fa) := by
      have e : (HandSHeadRun.topDef (OpenLaw.row PySem.Challenge.rw_whatcrosses_k03_sums_and_kept_rows).prog 25).name = ("law" : PySem.Str) := by kernel_rfl
      rw [← e]
      exact hmg0
    obtain ⟨hF, hZ, hG, hQ⟩ := L_k03.facts KX G c
    obtain ⟨fd0, F0⟩ := hF.1
    have m0 := hF.2.1
    have ef : He.ga K "law" = fa := by
      have e := m0.symm.trans hmg
      cases e
      rfl
    have b := L2.FunD.bindsA (ps := ["_law_script"]) F0 fun _ _ _ _ _ _ us hl => match us, hl with | [_], _ => rfl
    have HB : ∀ y ∈ (["law"] : List PySem.Str), VS.tabB K y = true := fun y hy => by rw [List.mem_singleton.mp hy]; exact L_k03.q_tab hQ
    refine ⟨K, fd0, KX, c.b.2.2.2, HB, fun s v => b s [v] rfl, VS.spOf K (VM.callN L_k03.FT 60) 209 1, fun H a is hl hT hS => VS.sp_law (VS.lamT_tbl HB hT) hS (L_k03.law_true is hl), fun base hK hN hS hTB => ?_⟩
    obtain ⟨f1, fd1, F1, m1, k1, b1, lk1⟩ := (L_k03.all_ok (P := (PySem.Challenge.rw_whatcrosses_k03_sums_and_kept_rows).prog) (w := w) (base := base) hF hZ hG hQ hS (by kernel_rfl) (hTB _ (List.mem_singleton.mpr rfl)) 60).1.ok
    have e1 : f1 = fa := by
      have e := m1.symm.trans hmg
      cases e
      rfl
    subst e1
    have e2 : fd1 = fd0 := VS.lk_inj lk1 (by rw [← ef]; exact VS.lk_of F0)
    subst e2
    exact F1
