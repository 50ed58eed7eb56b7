import PyProof.Rows.All
import Wide.All
import OpenK.AllK
import Wide.FinOn
import KE.KeyNested
import HandS.List
import HandS.Base
import HandS.Call
import HandS.Exc
import HandS.HeadHook2
import HandS.ExcInit
import HandS.HotCalls
import HandS.IsInst
import HandS.TupAny
import HandS.Wide
import HandS.Deep
import HandS.Text
import HandS.TupMul
import HandS.Comp
import HandS.Defaults
import HandS.Iter
import HandS.Style
import KE.GoesEnumKw
import HandS.Rev
import HandS.Zip
import HandS.ExcInitHot
import KE.KExcInit
import PyProof.ExcBaseAll.LookupError
import PyProof.ReprRoads
import HandS.ExcIs
import HandS.ExcField
import HandS.SetBool
import HandS.SetKeys
import HandS.HeadEnd
import HandS.EndBits
import HandS.Head0
import HandS.Head1
import HandS.Head2
import HandS.Words
import HandS.ExcValue
import KE.KStateDown
import Lean
import HandS.HeadHook1
import PySem.Challenge.RW_likenest_k05_errors_of_two_families
/-! PvCore -/
section
set_option Elab.async false
set_option linter.all false
set_option maxRecDepth 100000
/-! Pv: a pure meaning of a part of Python: values as trees, lists, dicts and instances in a heap of one's own. -/
namespace Pv
open PySem

/-! ### values -/
inductive Val where
  | non | bl (b : Bool) | int (i : Int) | str (x : Str) | tup (vs : List Val) | ref (l : Nat) | glo (x : Str)
  deriving Inhabited
mutual
def Val.beq : Val → Val → Bool
  | .non, .non => true
  | .bl a, .bl b => a == b
  | .int a, .int b => decide (a = b)
  | .str a, .str b => decide (a = b)
  | .ref a, .ref b => decide (a = b)
  | .glo a, .glo b => decide (a = b)
  | .tup a, .tup b => Val.beqs a b
  | _, _ => false
def Val.beqs : List Val → List Val → Bool
  | [], [] => true
  | a :: r, b :: s => Val.beq a b && Val.beqs r s
  | _, _ => false
end
mutual
theorem Val.beq_self : ∀ a : Val, Val.beq a a = true
  | .non => rfl
  | .bl a => by simp [Val.beq]
  | .int a => by simp [Val.beq]
  | .str a => by simp [Val.beq]
  | .ref a => by simp [Val.beq]
  | .glo a => by simp [Val.beq]
  | .tup a => by rw [Val.beq]; exact Val.beqs_self a
theorem Val.beqs_self : ∀ a : List Val, Val.beqs a a = true
  | [] => rfl
  | a :: r => by rw [Val.beqs, Val.beq_self a, Val.beqs_self r]; rfl
end
mutual
theorem Val.eq_of_beq : ∀ a b : Val, Val.beq a b = true → a = b
  | .non, b, h => by cases b <;> simp_all [Val.beq]
  | .bl a, b, h => by cases b <;> simp_all [Val.beq]
  | .int a, b, h => by cases b <;> simp_all [Val.beq]
  | .str a, b, h => by cases b <;> simp_all [Val.beq]
  | .ref a, b, h => by cases b <;> simp_all [Val.beq]
  | .glo a, b, h => by cases b <;> simp_all [Val.beq]
  | .tup a, b, h => by
    cases b with
    | tup b => rw [Val.beq] at h; rw [Val.eq_of_beqs a b h]
    | _ => simp [Val.beq] at h
theorem Val.eq_of_beqs : ∀ a b : List Val, Val.beqs a b = true → a = b
  | [], b, h => by cases b <;> simp_all [Val.beqs]
  | a :: r, b, h => by
    cases b with
    | nil => simp [Val.beqs] at h
    | cons b s =>
      rw [Val.beqs, Bool.and_eq_true] at h
      rw [Val.eq_of_beq a b h.1, Val.eq_of_beqs r s h.2]
end
instance : DecidableEq Val := fun a b => if h : Val.beq a b = true then .isTrue (Val.eq_of_beq a b h) else .isFalse fun e => h (e ▸ Val.beq_self a)

abbrev Flds := List (Str × Val)
/-- what stands in the heap; frz: a list that is read alone; dct: keys that are tuples (true), ints and texts (false); exo: a caught exception -/
inductive VObj where
  | lst (vs : List Val) | frz (vs : List Val) | dct (t : Bool) (kvs : List (Val × Val)) | ins (c : Str) (fs : Flds) | exo (c : Str) (fs : Flds) | xob (c : Str) (fs : Flds)
  deriving Inhabited, DecidableEq
abbrev VH := List VObj

/-! ### outcomes -/
inductive Out (α : Type) where
  | ok (a : α) (h : VH) | er (c : Str) (fs : Flds) (h : VH) | bad
def Out.bind {α β : Type} (o : Out α) (k : α → VH → Out β) : Out β := match o with
  | .ok a h => k a h
  | .er c fs h => .er c fs h
  | .bad => .bad
@[simp] theorem Out.bind_ok {α β : Type} (a : α) (h : VH) (k : α → VH → Out β) : (Out.ok a h).bind k = k a h := rfl
@[simp] theorem Out.bind_er {α β : Type} (c : Str) (fs : Flds) (h : VH) (k : α → VH → Out β) : (Out.er c fs h : Out α).bind k = .er c fs h := rfl
@[simp] theorem Out.bind_bad {α β : Type} (k : α → VH → Out β) : (Out.bad : Out α).bind k = .bad := rfl
theorem Out.bind_assoc {α β γ : Type} (o : Out α) (k : α → VH → Out β) (m : β → VH → Out γ) : (o.bind k).bind m = o.bind fun a h => (k a h).bind m := by cases o <;> rfl
/-- what is wanted of an outcome -/
def Out.W {α : Type} (o : Out α) (Q : α → VH → Prop) (E : Str → Flds → VH → Prop) : Prop := match o with
  | .ok a h => Q a h
  | .er c fs h => E c fs h
  | .bad => False
theorem Out.W_bind {α β : Type} (o : Out α) (k : α → VH → Out β) (Q : β → VH → Prop) (E : Str → Flds → VH → Prop) : (o.bind k).W Q E = o.W (fun a h => (k a h).W Q E) E := by cases o <;> rfl
theorem Out.W.mono {α : Type} {o : Out α} {Q Q' : α → VH → Prop} {E E' : Str → Flds → VH → Prop} (x : o.W Q E) (h : ∀ a v, Q a v → Q' a v) (h' : ∀ c f v, E c f v → E' c f v) : o.W Q' E' := by
  cases o with
  | ok a v => exact h a v x
  | er c f v => exact h' c f v x
  | bad => exact x
def got {α : Type} (o : Option α) (h : VH) : Out α := match o with
  | some a => .ok a h
  | none => .bad
@[simp] theorem got_some {α : Type} (a : α) (h : VH) : got (some a) h = .ok a h := rfl
@[simp] theorem got_none {α : Type} (h : VH) : (got (none : Option α) h) = .bad := rfl

abbrev Env := List (Option Val)
structure Cfg where
  /-- a function of the text (a method: class.name), its positional arguments, its keywords -/
  call : Option Nat → Nat → List Val → List (Str × Val) → VH → Out Val
  /-- the exception that is handled -/
  hot : Option Nat
abbrev Tm := Cfg → Env → VH → Out Val
abbrev Tt := Cfg → Env → VH → Out Bool
abbrev Ta := Cfg → Env → VH → Out (List Val)

def LIM : Nat := 16777216

/-! ### data -/
/-- a value as data, so deep at most -/
def toD : Nat → VH → Val → Option PyData
  | 0, _, _ => none
  | _ + 1, _, .non => some .none
  | _ + 1, _, .bl b => some (.bool b)
  | _ + 1, _, .int i => some (.int i)
  | _ + 1, _, .str x => some (.str x)
  | n + 1, h, .tup vs => (vs.mapM (toD n h)).map .tuple
  | n + 1, h, .ref l => match h[l]? with
    | some (.lst vs) => (vs.mapM (toD n h)).map .list
    | some (.frz vs) => (vs.mapM (toD n h)).map .list
    | _ => none
  | _ + 1, _, .glo _ => none
abbrev DEEP : Nat := 40

/-! ### operators -/
def repN (n : Nat) (vs : List Val) : List Val := (List.replicate n vs).flatten
def opAdd (a b : Val) (h : VH) : Out Val := match a, b with
  | .int i, .int j => .ok (.int (i + j)) h
  | .str x, .str y => if x.length + y.length ≤ LIM then .ok (.str (x ++ y)) h else .bad
  | .tup x, .tup y => if x.length + y.length ≤ LIM then .ok (.tup (x ++ y)) h else .bad
  | .ref l, .ref m => match h[l]?, h[m]? with
    | some (.lst x), some (.lst y) => if x.length + y.length ≤ LIM then .ok (.ref h.length) (h ++ [.lst (x ++ y)]) else .bad
    | _, _ => .bad
  | _, _ => .bad
def opSub (a b : Val) (h : VH) : Out Val := match a, b with
  | .int i, .int j => .ok (.int (i - j)) h
  | _, _ => .bad
def opMul (a b : Val) (h : VH) : Out Val := match a, b with
  | .int i, .int j => if i.natAbs.log2 + j.natAbs.log2 < 900000 then .ok (.int (i * j)) h else .bad
  | .tup x, .int j => if x ≠ [] ∧ 2 ≤ j ∧ j ≤ 1000 ∧ x.length ≤ 1000 then .ok (.tup (repN j.toNat x)) h else .bad
  | .ref l, .int j => match h[l]? with
    | some (.lst x) => if x.length * j.toNat ≤ LIM ∧ j < 2 ^ 62 ∧ -(2 ^ 62) < j then .ok (.ref h.length) (h ++ [.lst (repN j.toNat x)]) else .bad
    | _ => .bad
  | _, _ => .bad
def opMod (a b : Val) (h : VH) : Out Val := match a, b with
  | .int i, .int j => if 0 < j then .ok (.int (i % j)) h else .bad
  | _, _ => .bad
def opDiv (a b : Val) (h : VH) : Out Val := match a, b with
  | .int i, .int j => if 0 < j ∧ j.natAbs.log2 < 9000 then .ok (.int (i / j)) h else .bad
  | _, _ => .bad
def opPow (a b : Val) (h : VH) : Out Val := match a, b with
  | .int i, .int j => if 0 ≤ j ∧ j ≤ 1000000 ∧ i.natAbs < 2 ^ 64 then .ok (.int (i ^ j.toNat)) h else .bad
  | _, _ => .bad
def opNeg (a : Val) (h : VH) : Out Val := match a with
  | .int i => .ok (.int (-i)) h
  | _ => .bad
/-- truth -/
def truth (a : Val) (h : VH) : Option Bool := match a with
  | .non => some false
  | .bl b => some b
  | .int i => some (i != 0)
  | .str x => some ((x.length : Int) != 0)
  | .tup vs => some (!vs.isEmpty)
  | .ref l => match h[l]? with
    | some (.lst vs) => some (!vs.isEmpty)
    | some (.frz vs) => some (!vs.isEmpty)
    | _ => none
  | .glo _ => none
/-! ### comparisons -/
def opEq (a b : Val) (h : VH) : Out Val := match toD DEEP h a, toD DEEP h b with
  | some d, some e => .ok (.bl (PyData.eqv d e)) h
  | _, _ => .bad
def opNe (a b : Val) (h : VH) : Out Val := match toD DEEP h a, toD DEEP h b with
  | some d, some e => .ok (.bl (!PyData.eqv d e)) h
  | _, _ => .bad
def opLt (a b : Val) (h : VH) : Out Val := match a, b with
  | .int i, .int j => .ok (.bl (decide (i < j))) h
  | _, _ => .bad
def opLe (a b : Val) (h : VH) : Out Val := match a, b with
  | .int i, .int j => .ok (.bl (decide (i ≤ j))) h
  | _, _ => .bad
def opGt (a b : Val) (h : VH) : Out Val := match a, b with
  | .int i, .int j => .ok (.bl (decide (j < i))) h
  | _, _ => .bad
def opGe (a b : Val) (h : VH) : Out Val := match a, b with
  | .int i, .int j => .ok (.bl (decide (j ≤ i))) h
  | _, _ => .bad
/-- is None (the other side None) -/
def opIs (a b : Val) (h : VH) : Out Val := match b with
  | .non => .ok (.bl (decide (a = .non))) h
  | _ => .bad
def opIsNot (a b : Val) (h : VH) : Out Val := match b with
  | .non => .ok (.bl (!decide (a = .non))) h
  | _ => .bad
def flatD : Val → Option PyData
  | .non => some .none
  | .bl b => some (.bool b)
  | .int i => some (.int i)
  | .str x => some (.str x)
  | _ => none
/-- whether a is in b: a sign in a text; flat things in a tuple; data in a list -/
def isIn (a b : Val) (h : VH) : Option Bool := match b with
  | .str z => match a with
    | .str c => if c.cps.size = 1 then some (decide (c.cps.getD 0 0 ∈ z.cps.toList)) else none
    | _ => none
  | .tup vs => match flatD a, vs.mapM flatD with
    | some d, some ds => some (ds.any fun z => PyData.eqv z d)
    | _, _ => none
  | .ref l => match h[l]? with
    | some (.lst vs) => match toD DEEP h a, vs.mapM (toD DEEP h) with
      | some d, some ds => some (ds.any fun z => PyData.eqv z d)
      | _, _ => none
    | _ => none
  | _ => none
def opIn (a b : Val) (h : VH) : Out Val := (got (isIn a b h) h).bind fun k h => .ok (.bl k) h
def opNotIn (a b : Val) (h : VH) : Out Val := (got (isIn a b h) h).bind fun k h => .ok (.bl (!k)) h
/-! ### parts -/
def cutL {α : Type} (xs : List α) (lo hi : Option Int) : List α := (xs.drop (HT.sIx xs.length 0 lo)).take (HT.sIx xs.length xs.length hi - HT.sIx xs.length 0 lo)
def opIdx (a b : Val) (h : VH) : Out Val := match b with
  | .int i => match a with
    | .tup vs => got (L2.atI vs i) h
    | .str z => (got (L2.atI z.cps.toList i) h).bind fun c h => .ok (.str ⟨#[c]⟩) h
    | .ref l => match h[l]? with
      | some (.lst vs) => got (L2.atI vs i) h
      | some (.frz vs) => got (L2.atI vs i) h
      | _ => .bad
    | _ => .bad
  | _ => .bad
/-- len -/
def lenOf (a : Val) (h : VH) : Option Nat := match a with
  | .str x => some x.length
  | .tup vs => some vs.length
  | .ref l => match h[l]? with
    | some (.lst vs) => some vs.length
    | some (.frz vs) => some vs.length
    | _ => none
  | _ => none
/-- a[lo:hi] -/
def opSl (a : Val) (lo hi : Option Int) (h : VH) : Out Val := match a with
  | .tup vs => .ok (.tup (cutL vs lo hi)) h
  | .str z => .ok (.str ⟨(cutL z.cps.toList lo hi).toArray⟩) h
  | .ref l => match h[l]? with
    | some (.lst vs) => .ok (.ref h.length) (h ++ [.lst (cutL vs lo hi)])
    | _ => .bad
  | _ => .bad
/-- a[::-1] -/
def opRev (a : Val) (h : VH) : Out Val := match a with
  | .ref l => match h[l]? with
    | some (.lst vs) => .ok (.ref h.length) (h ++ [.lst vs.reverse])
    | _ => .bad
  | _ => .bad

/-! ### built-ins -/
def bLen (vs : List Val) (h : VH) : Out Val := match vs with
  | [a] => (got (lenOf a h) h).bind fun n h => .ok (.int n) h
  | _ => .bad
/-- the items of a list or tuple -/
def itemsOf (a : Val) (h : VH) : Option (List Val) := match a with
  | .tup vs => some vs
  | .ref l => match h[l]? with
    | some (.lst vs) => some vs
    | some (.frz vs) => some vs
    | _ => none
  | _ => none
def bList (vs : List Val) (h : VH) : Out Val := match vs with
  | [a] => (got (itemsOf a h) h).bind fun vs h => .ok (.ref h.length) (h ++ [.lst vs])
  | _ => .bad
def bTuple (vs : List Val) (h : VH) : Out Val := match vs with
  | [a] => (got (itemsOf a h) h).bind fun vs h => .ok (.tup vs) h
  | _ => .bad
def boolL : List Val → Option (List Bool)
  | [] => some []
  | .bl b :: r => (boolL r).map (b :: ·)
  | _ => none
def intL : List Val → Option (List Int)
  | [] => some []
  | .int b :: r => (intL r).map (b :: ·)
  | _ => none
def strL : List Val → Option (List Str)
  | [] => some []
  | .str b :: r => (strL r).map (b :: ·)
  | _ => none
/-- the items of a list -/
def lstOf (a : Val) (h : VH) : Option (List Val) := match a with
  | .ref l => match h[l]? with
    | some (.lst vs) => some vs
    | some (.frz vs) => some vs
    | _ => none
  | _ => none
def bAll (vs : List Val) (h : VH) : Out Val := match vs with
  | [a] => (got ((lstOf a h).bind boolL) h).bind fun bs h => .ok (.bl (bs.all id)) h
  | _ => .bad
def bAny (vs : List Val) (h : VH) : Out Val := match vs with
  | [a] => (got ((lstOf a h).bind boolL) h).bind fun bs h => .ok (.bl (bs.any id)) h
  | _ => .bad
def bSum (vs : List Val) (h : VH) : Out Val := match vs with
  | [a] => (got ((lstOf a h).bind intL) h).bind fun ns h => .ok (.int ns.sum) h
  | _ => .bad
def maxI : List Int → Int
  | [] => 0
  | [a] => a
  | a :: b :: r => max a (maxI (b :: r))
def minI : List Int → Int
  | [] => 0
  | [a] => a
  | a :: b :: r => min a (minI (b :: r))
def bMax (vs : List Val) (h : VH) : Out Val := match vs with
  | [a] => (got ((lstOf a h).bind intL) h).bind fun ns h => if ns = [] then .bad else .ok (.int (maxI ns)) h
  | [.int i, .int j] => .ok (.int (max i j)) h
  | _ => .bad
def bMin (vs : List Val) (h : VH) : Out Val := match vs with
  | [a] => (got ((lstOf a h).bind intL) h).bind fun ns h => if ns = [] then .bad else .ok (.int (minI ns)) h
  | [.int i, .int j] => .ok (.int (min i j)) h
  | _ => .bad
def bStr (vs : List Val) (h : VH) : Out Val := match vs with
  | [.int i] => if i.natAbs.log2 < 1920 then .ok (.str (toString i)) h else .bad
  | _ => .bad
def bInt (vs : List Val) (h : VH) : Out Val := match vs with
  | [.int i] => .ok (.int i) h
  | [.str x] => match PySem.intText? x with
    | some n => if x.length ≤ 640 then .ok (.int n) h else .bad
    | none => .bad
  | _ => .bad
end Pv
end
/-! PvRel -/
section
set_option Elab.async false
set_option linter.all false
set_option maxRecDepth 100000
/-! Pv: how the pure heap stands in the abstract heap of the layer. -/
namespace Pv
open PySem PySem.Spec PyProof.Rows L2

/-- text that is well formed and not too long -/
def okS (x : Str) : Prop := PyData.strOk x = true ∧ x.length ≤ sizeLine

mutual
inductive RV (K : PySem.W.Frag) (mu : List Addr) (H : Hp) : Val → V → Prop
  | non : RV K mu H .non .non
  | bl (b : Bool) : RV K mu H (.bl b) (.bl b)
  | int (i : Int) : RV K mu H (.int i) (.int i)
  | str {x : Str} (h : okS x) : RV K mu H (.str x) (.str x)
  | tup {a : Addr} {vs : List Val} {xs : List V} (h : SqT K H a xs) (r : RVs K mu H vs xs) : RV K mu H (.tup vs) (.ref a)
  | ref {l : Nat} {a : Addr} (h : mu[l]? = some a) : RV K mu H (.ref l) (.ref a)
  | glo (x : Str) : RV K mu H (.glo x) (.ref (He.ga K x))
inductive RVs (K : PySem.W.Frag) (mu : List Addr) (H : Hp) : List Val → List V → Prop
  | nil : RVs K mu H [] []
  | cons {v : Val} {vs : List Val} {x : V} {xs : List V} (r : RV K mu H v x) (t : RVs K mu H vs xs) : RVs K mu H (v :: vs) (x :: xs)
end

/-- the heap has grown: what never changes stands -/
structure Gro (mu : List Addr) (H : Hp) (mu' : List Addr) (H' : Hp) : Prop where
  tups : ∀ b xs, H b = some (.tup xs) → H' b = some (.tup xs)
  frzs : ∀ b o u, H b = some (.frz o u) → H' b = some (.frz o u)
  xds : ∀ b fs, H b = some (.xd fs) → H' b = some (.xd fs)
  mu : mu <+: mu'
theorem Gro.refl (mu : List Addr) (H : Hp) : Gro mu H mu H := ⟨fun _ _ h => h, fun _ _ _ h => h, fun _ _ h => h, List.prefix_refl _⟩
theorem Gro.trans {m1 m2 m3 : List Addr} {H1 H2 H3 : Hp} (a : Gro m1 H1 m2 H2) (b : Gro m2 H2 m3 H3) : Gro m1 H1 m3 H3 :=
  ⟨fun c xs h => b.tups c xs (a.tups c xs h), fun c o u h => b.frzs c o u (a.frzs c o u h), fun c fs h => b.xds c fs (a.xds c fs h), a.mu.trans b.mu⟩
theorem Gro.sqT {K : PySem.W.Frag} {m m' : List Addr} {H H' : Hp} (g : Gro m H m' H') {a : Addr} {xs : List V} (h : SqT K H a xs) : SqT K H' a xs := by
  rcases h with (h | ⟨o, h⟩) | h
  · exact .inl (.inl (g.tups _ _ h))
  · exact .inl (.inr ⟨o, g.frzs _ _ _ h⟩)
  · exact .inr h
theorem Gro.at {m m' : List Addr} {H H' : Hp} (g : Gro m H m' H') {l : Nat} {a : Addr} (h : m[l]? = some a) : m'[l]? = some a := by
  obtain ⟨t, rfl⟩ := g.mu
  obtain ⟨h1, _⟩ := List.getElem?_eq_some_iff.mp h
  rw [List.getElem?_append_left h1]; exact h
mutual
theorem RV.gro {K : PySem.W.Frag} {m m' : List Addr} {H H' : Hp} (g : Gro m H m' H') : ∀ {v : Val} {x : V}, RV K m H v x → RV K m' H' v x
  | _, _, .non => .non
  | _, _, .bl b => .bl b
  | _, _, .int i => .int i
  | _, _, .str h => .str h
  | _, _, .tup h r => .tup (g.sqT h) (RVs.gro g r)
  | _, _, .ref h => .ref (g.at h)
  | _, _, .glo x => .glo x
theorem RVs.gro {K : PySem.W.Frag} {m m' : List Addr} {H H' : Hp} (g : Gro m H m' H') : ∀ {vs : List Val} {xs : List V}, RVs K m H vs xs → RVs K m' H' vs xs
  | _, _, .nil => .nil
  | _, _, .cons r t => .cons (RV.gro g r) (RVs.gro g t)
end
section
variable {K : PySem.W.Frag} {mu : List Addr} {H : Hp}
theorem RVs.length : ∀ {vs : List Val} {xs : List V}, RVs K mu H vs xs → vs.length = xs.length
  | _, _, .nil => rfl
  | _, _, .cons _ t => by simp [RVs.length t]
theorem RVs.app : ∀ {vs ws : List Val} {xs ys : List V}, RVs K mu H vs xs → RVs K mu H ws ys → RVs K mu H (vs ++ ws) (xs ++ ys)
  | _, _, _, _, .nil, s => s
  | _, _, _, _, .cons r t, s => .cons r (RVs.app t s)
theorem RVs.get : ∀ {vs : List Val} {xs : List V} {i : Nat} {v : Val}, RVs K mu H vs xs → vs[i]? = some v → ∃ x, xs[i]? = some x ∧ RV K mu H v x
  | _, _, _, _, .nil, e => by simp at e
  | _, _, 0, _, .cons r _, e => by simp at e; subst e; exact ⟨_, rfl, r⟩
  | _, _, i + 1, v, .cons _ t, e => by
    obtain ⟨x, h1, h2⟩ := RVs.get (i := i) (v := v) t (by simpa using e)
    exact ⟨x, by simpa using h1, h2⟩
theorem RVs.get' : ∀ {vs : List Val} {xs : List V} {i : Nat} {x : V}, RVs K mu H vs xs → xs[i]? = some x → ∃ v, vs[i]? = some v ∧ RV K mu H v x
  | _, _, _, _, .nil, e => by simp at e
  | _, _, 0, _, .cons r _, e => by simp at e; subst e; exact ⟨_, rfl, r⟩
  | _, _, i + 1, x, .cons _ t, e => by
    obtain ⟨v, h1, h2⟩ := RVs.get' (i := i) (x := x) t (by simpa using e)
    exact ⟨v, by simpa using h1, h2⟩
theorem RVs.take : ∀ {vs : List Val} {xs : List V} (n : Nat), RVs K mu H vs xs → RVs K mu H (vs.take n) (xs.take n)
  | _, _, 0, _ => .nil
  | _, _, _ + 1, .nil => .nil
  | _, _, n + 1, .cons r t => .cons r (RVs.take n t)
theorem RVs.drop : ∀ {vs : List Val} {xs : List V} (n : Nat), RVs K mu H vs xs → RVs K mu H (vs.drop n) (xs.drop n)
  | _, _, 0, r => r
  | _, _, _ + 1, .nil => .nil
  | _, _, n + 1, .cons _ t => RVs.drop n t
theorem RVs.set {v : Val} {x : V} (r : RV K mu H v x) : ∀ {vs : List Val} {xs : List V} (i : Nat), RVs K mu H vs xs → RVs K mu H (vs.set i v) (xs.set i x)
  | _, _, _, .nil => .nil
  | _, _, 0, .cons _ t => .cons r t
  | _, _, i + 1, .cons q t => .cons q (RVs.set r i t)
theorem RVs.rev {vs : List Val} {xs : List V} (r : RVs K mu H vs xs) : RVs K mu H vs.reverse xs.reverse := by
  have key : ∀ {vs ws : List Val} {xs ys : List V}, RVs K mu H vs xs → RVs K mu H ws ys → RVs K mu H (vs.reverse ++ ws) (xs.reverse ++ ys) := by
    intro vs
    induction vs with
    | nil => intro ws xs ys a b; cases a; exact b
    | cons v vs ih => intro ws xs ys a b; cases a with
      | cons r t => simp only [List.reverse_cons, List.append_assoc]; exact ih t (.cons r b)
  have := key r .nil
  simpa using this
theorem RVs.rep {vs : List Val} {xs : List V} (r : RVs K mu H vs xs) : ∀ n : Nat, RVs K mu H (repN n vs) ((List.replicate n xs).flatten)
  | 0 => .nil
  | n + 1 => by
    show RVs K mu H ((List.replicate (n + 1) vs).flatten) _
    rw [List.replicate_succ, List.replicate_succ, List.flatten_cons, List.flatten_cons]
    exact RVs.app r (RVs.rep r n)
theorem RVs.erase : ∀ {vs : List Val} {xs : List V} (i : Nat), RVs K mu H vs xs → RVs K mu H (vs.eraseIdx i) (xs.eraseIdx i)
  | _, _, _, .nil => .nil
  | _, _, 0, .cons _ t => t
  | _, _, i + 1, .cons q t => .cons q (RVs.erase i t)
theorem RVs.map {α : Type} {f : α → Val} {g : α → V} (h : ∀ a, RV K mu H (f a) (g a)) : ∀ l : List α, RVs K mu H (l.map f) (l.map g)
  | [] => .nil
  | a :: l => .cons (h a) (RVs.map h l)
end

/-! ### objects -/
/-- fields -/
def FV (K : PySem.W.Frag) (mu : List Addr) (H : Hp) : Flds → List (Str × V) → Prop := Paired fun p q => p.1 = q.1 ∧ RV K mu H p.2 q.2
theorem FV.gro {K : PySem.W.Frag} {m m' : List Addr} {H H' : Hp} (g : Gro m H m' H') {fs : Flds} {xs : List (Str × V)} (h : FV K m H fs xs) : FV K m' H' fs xs := Paired.mapP h fun _ _ r => ⟨r.1, r.2.gro g⟩
/-- a list that is never written -/
def FrzL (K : PySem.W.Frag) (H : Hp) (a : Addr) (xs : List V) : Prop :=
  (∃ o, H a = some (.frz o (.lst xs))) ∨
    ∃ (o : Obj) (its : Array Value) (n : Nat), K.lookup a = some o ∧ o.cls = .type "list" ∧ o.dict = none ∧ o.data = .seq its n ∧ its.size ≤ sizeLine ∧ Vals xs its.toList
theorem FrzL.sq {K : PySem.W.Frag} {H : Hp} {a : Addr} {xs : List V} (h : FrzL K H a xs) : SqL K H a xs := by
  rcases h with ⟨o, h⟩ | h
  · exact .inl (.inr ⟨o, h⟩)
  · exact .inr h
theorem FrzL.gro {K : PySem.W.Frag} {m m' : List Addr} {H H' : Hp} (g : Gro m H m' H') {a : Addr} {xs : List V} (h : FrzL K H a xs) : FrzL K H' a xs := by
  rcases h with ⟨o, h⟩ | h
  · exact .inl ⟨o, g.frzs _ _ _ h⟩
  · exact .inr h
mutual
def keyOf : Val → Option NestedKey
  | .non => some .none
  | .bl b => some (.num (if b then 1 else 0))
  | .int i => some (.num i)
  | .str x => some (.text x)
  | .tup vs => (keysOf vs).map .tup
  | .ref _ => none
  | .glo _ => none
def keysOf : List Val → Option (List NestedKey)
  | [] => some []
  | v :: vs => match keyOf v, keysOf vs with
    | some k, some ks => some (k :: ks)
    | _, _ => none
end

/-- a key carried by value -/
def leafKey : Val → Option Key
  | .int i => some (.inl i)
  | .str x => some (.inr x)
  | _ => none
/-- a dict whose keys are ints and texts -/
def DctK (K : PySem.W.Frag) (mu : List Addr) (H : Hp) (a : Addr) (kvs : List (Val × Val)) : Prop :=
  ∃ ks : List (Key × V), H a = some (.dK ks) ∧ Paired (fun p q => leafKey p.1 = some q.1 ∧ (∀ x, p.1 = .str x → okS x) ∧ RV K mu H p.2 q.2) kvs ks
/-- a dict whose keys are tuples: known to its object -/
def DctH (P : Program) (w : World) (K : PySem.W.Frag) (mu : List Addr) (H : Hp) (a : Addr) (kvs : List (Val × Val)) : Prop :=
  ∃ (o : Obj) (es : Array DictEntry) (ep : Nat) (xs : List (NestedKey × Addr × Value)), H a = some (.ext fun h => h.get? a = some o) ∧ (a == sysModules) = false ∧ kvs.length ≤ sizeLine ∧
    o.ExactDict ∧ o.data = .dict es ep ∧ es.toList = xs.map (entryOfKey (nestedKind P w)) ∧ (xs.map (·.1)).Nodup ∧
    Paired (fun p q => keyOf p.1 = some q.1 ∧ RV K mu H p.1 (.ref q.2.1) ∧ q.1.depth ≤ 8 ∧ ∃ x, RV K mu H p.2 x ∧ RelV x q.2.2) kvs xs
/-- the fields of the classes of the text -/
def FLDS : List Str := ["kinds", "rows", "numbers", "below", "roots", "ways", "grove", "told", "parted", "past", "pairs", "rules", "shown", "forest", "lines", "twos", "places", "rest", "table", "heads", "limit", "mood", "gone", "kept"]
/-- the methods of the classes of the text, and their __init__, by number -/
def MIDS : List ((Str × Str) × Nat) := ([(("Forest", "copy"), 28), (("Forest", "add"), 29), (("Forest", "look_of"), 30), (("Forest", "is_one"), 31), (("Forest", "link"), 32), (("Forest", "turn_to"), 33), (("Forest", "settle"), 34), (("Forest", "unite"), 35)] : List ((Str × Str) × Nat)) ++ ([(("Forest", "is_alike"), 36), (("Forest", "known"), 37), (("Forest", "classes"), 38), (("Forest", "firsts"), 39), (("Book", "need_known"), 42), (("Book", "know"), 43), (("Book", "tell"), 44), (("Book", "part"), 45)] : List ((Str × Str) × Nat)) ++ ([(("Book", "push"), 46), (("Book", "back"), 47), (("Book", "tried"), 48), (("Book", "are_terms"), 49), (("Book", "alike"), 50), (("Book", "first"), 51), (("Book", "forest_with"), 52), (("Book", "classes"), 53)] : List ((Str × Str) × Nat)) ++ ([(("Book", "known"), 54), (("Book", "givens"), 55), (("Book", "unlikes"), 56), (("Book", "levels"), 57), (("Book", "signs"), 58), (("Book", "twin"), 59), (("Book", "state"), 60), (("Book", "__len__"), 61)] : List ((Str × Str) × Nat)) ++ ([(("Book", "__eq__"), 62), (("Book", "__str__"), 63), (("Matcher", "fits"), 76), (("Matcher", "matches"), 77), (("Looker", "is_ahead"), 83), (("Looker", "of_self"), 84), (("Looker", "of_given"), 85), (("Looker", "of_turned"), 86)] : List ((Str × Str) × Nat)) ++ ([(("Looker", "of_joined"), 87), (("Looker", "of_parts"), 88), (("Looker", "of_rule"), 89), (("Looker", "pair_of"), 90), (("Looker", "through"), 91), (("Teller", "put"), 107), (("Teller", "way_up"), 108), (("Teller", "way_to"), 109)] : List ((Str × Str) × Nat)) ++ ([(("Teller", "reason_of"), 110), (("Teller", "line_of"), 111), (("Teller", "step"), 112), (("Teller", "between"), 113), (("Worths", "of_row"), 120), (("Worths", "is_same"), 121), (("Rounds", "is_new"), 145), (("Rounds", "instances"), 146)] : List ((Str × Str) × Nat)) ++ ([(("Rounds", "is_too_much"), 147), (("Rounds", "go"), 148), (("Rounds", "go_on"), 149), (("Rounds", "word"), 150), (("Rounds", "done"), 151), (("Rounds", "known"), 152), (("Rounds", "classes"), 153), (("Rounds", "signs"), 154)] : List ((Str × Str) × Nat)) ++ ([(("Rounds", "need_known"), 155), (("Rounds", "first"), 156), (("Rounds", "alike"), 157), (("Rounds", "answer"), 158), (("Rounds", "__len__"), 159), (("Rounds", "__str__"), 160), (("Desk", "say"), 198), (("Desk", "deed"), 199)] : List ((Str × Str) × Nat)) ++ ([(("Desk", "asked"), 200), (("Desk", "why"), 201)] : List ((Str × Str) × Nat))
def INITS : List (Str × Nat) := ([("Forest", 27), ("Book", 41), ("Matcher", 75), ("Looker", 82), ("Teller", 106), ("Worths", 119), ("Rounds", 144), ("Desk", 197)] : List (Str × Nat))
/-- a class of the text: its instances are plain -/
structure ClsG (K : PySem.W.Frag) (c : Str) : Prop where
  cls : Cls K (He.ga K c)
  no : ∀ f ∈ FLDS, NoAttr K (He.ga K c) f
  mt : ∀ m i, MIDS.lookup (c, m) = some i → ∃ f, Meth K (He.ga K c) m f
def RO (P : Program) (w : World) (K : PySem.W.Frag) (mu : List Addr) (H : Hp) (a : Addr) : VObj → Prop
  | .lst vs => ∃ xs, H a = some (.lst xs) ∧ RVs K mu H vs xs
  | .frz vs => ∃ xs, FrzL K H a xs ∧ RVs K mu H vs xs
  | .dct true kvs => DctH P w K mu H a kvs
  | .dct false kvs => DctK K mu H a kvs
  | .ins c fs => ∃ dx xs, H a = some (.ins (He.ga K c) dx xs) ∧ FV K mu H fs xs ∧ ClsG K c
  | .exo _ _ => True
  | .xob c fs => ∃ od, H a = some (exo a (He.ga K c) od) ∧ ((fs = [] ∧ od = none) ∨ ∃ d xs, od = some d ∧ H d = some (.xd xs) ∧ FV K mu H fs xs)
def mutO : VObj → Bool
  | .lst _ => true
  | .dct _ _ => true
  | .ins _ _ => true
  | .xob _ _ => true
  | _ => false
/-- the pure heap stands in the abstract one -/
structure Rel (P : Program) (w : World) (K : PySem.W.Frag) (mu : List Addr) (vh : VH) (H : Hp) : Prop where
  len : mu.length = vh.length
  inj : ∀ (i j : Nat) (a : Addr) (o u : VObj), mu[i]? = some a → mu[j]? = some a → vh[i]? = some o → vh[j]? = some u → mutO o = true → mutO u = true → i = j
  obj : ∀ (i : Nat) (a : Addr) (o : VObj), mu[i]? = some a → vh[i]? = some o → RO P w K mu H a o
section
variable {P : Program} {w : World} {K : PySem.W.Frag} {mu mu' : List Addr} {vh : VH} {H H' : Hp} {a : Addr}
theorem Rel.at (R : Rel P w K mu vh H) {l : Nat} {o : VObj} (h : vh[l]? = some o) : ∃ a, mu[l]? = some a ∧ RO P w K mu H a o := by
  obtain ⟨h1, _⟩ := List.getElem?_eq_some_iff.mp h
  have h2 : l < mu.length := by rw [R.len]; exact h1
  exact ⟨mu[l], List.getElem?_eq_getElem h2, R.obj l _ o (List.getElem?_eq_getElem h2) h⟩
/-- an object's description stays where its own object stays -/
theorem RO.gro (g : Gro mu H mu' H') {o : VObj} (h : RO P w K mu H a o) (k : mutO o = true → H' a = H a) : RO P w K mu' H' a o := by
  cases o with
  | lst vs => obtain ⟨xs, e, r⟩ := h; exact ⟨xs, (k rfl).trans e, r.gro g⟩
  | frz vs => obtain ⟨xs, e, r⟩ := h; exact ⟨xs, e.gro g, r.gro g⟩
  | dct t kvs =>
    cases t with
    | false =>
      obtain ⟨ks, e, r⟩ := h
      exact ⟨ks, (k rfl).trans e, Paired.mapP r fun p q z => ⟨z.1, z.2.1, z.2.2.gro g⟩⟩
    | true =>
      obtain ⟨o, es, ep, xs, e, ns, hl, h1, h2, h3, h4, r⟩ := h
      exact ⟨o, es, ep, xs, (k rfl).trans e, ns, hl, h1, h2, h3, h4, Paired.mapP r fun p q ⟨z1, z2, z3, x, z4, z5⟩ => ⟨z1, z2.gro g, z3, x, z4.gro g, z5⟩⟩
  | ins c fs => obtain ⟨dx, xs, e, r, hc⟩ := h; exact ⟨dx, xs, (k rfl).trans e, FV.gro g r, hc⟩
  | exo c fs => trivial
  | xob c fs =>
    obtain ⟨od, e, r⟩ := h
    refine ⟨od, (k rfl).trans e, ?_⟩
    rcases r with r | ⟨d, xs, e1, e2, e3⟩
    · exact .inl r
    · exact .inr ⟨d, xs, e1, g.xds d xs e2, FV.gro g e3⟩
/-- what a mutable object's address holds -/
theorem RO.some {o : VObj} (h : RO P w K mu H a o) (m : mutO o = true) : ∃ u, H a = some u ∧ Mut (some u) := by
  cases o with
  | lst vs => obtain ⟨xs, e, _⟩ := h; exact ⟨_, e, trivial⟩
  | dct t kvs =>
    cases t with
    | false => obtain ⟨ks, e, _⟩ := h; exact ⟨_, e, trivial⟩
    | true => obtain ⟨o, es, ep, xs, e, _⟩ := h; exact ⟨_, e, trivial⟩
  | ins c fs => obtain ⟨dx, xs, e, _⟩ := h; exact ⟨_, e, trivial⟩
  | frz vs => cases m
  | exo c fs => cases m
  | xob c fs => obtain ⟨od, e, _⟩ := h; exact ⟨_, e, trivial⟩
/-- something new at a free place -/
theorem Gro.new {p : Addr} {u : HO} (hp : H p = none) (t : List Addr) : Gro mu H (mu ++ t) (upd H p u) :=
  ⟨fun b xs h => by rw [upd_ne (ne_of_none h hp)]; exact h, fun b o x h => by rw [upd_ne (ne_of_none h hp)]; exact h, fun b fs h => by rw [upd_ne (ne_of_none h hp)]; exact h, List.prefix_append _ _⟩
theorem Gro.new0 {p : Addr} {u : HO} (hp : H p = none) : Gro mu H mu (upd H p u) := by
  have := Gro.new (mu := mu) (u := u) hp []
  rwa [List.append_nil] at this
/-- a mutable object is written -/
theorem Gro.write {p : Addr} {u v : HO} (hp : H p = some u) (m : Mut (some u)) : Gro mu H mu (upd H p v) := by
  have ne : ∀ b o, H b = some o → ¬ Mut (some o) → b ≠ p := fun b o h n e => by subst e; rw [hp] at h; cases h; exact n m
  exact ⟨fun b xs h => by rw [upd_ne (ne b _ h fun z => z)]; exact h, fun b o x h => by rw [upd_ne (ne b _ h fun z => z)]; exact h, fun b fs h => by rw [upd_ne (ne b _ h fun z => z)]; exact h, List.prefix_refl _⟩
/-- untracked things, tuples are laid: nothing of ours is touched -/
theorem Rel.laid (R : Rel P w K mu vh H) {p : Addr} {u : HO} (hp : H p = none) : Rel P w K mu vh (upd H p u) :=
  ⟨R.len, R.inj, fun i b o h1 h2 => RO.gro (Gro.new0 hp) (R.obj i b o h1 h2) fun m => by
    obtain ⟨u', e, _⟩ := RO.some (R.obj i b o h1 h2) m
    exact upd_ne (ne_of_none e hp)⟩
/-- a new object of ours -/
theorem Rel.new (R : Rel P w K mu vh H) {p : Addr} {u : HO} {o : VObj} (hp : H p = none) (h : RO P w K (mu ++ [p]) (upd H p u) p o) : Rel P w K (mu ++ [p]) (vh ++ [o]) (upd H p u) := by
  have hl := R.len
  have cas : ∀ (i : Nat) (b : Addr) (o' : VObj), (mu ++ [p])[i]? = some b → (vh ++ [o])[i]? = some o' → (mu[i]? = some b ∧ vh[i]? = some o') ∨ (i = mu.length ∧ b = p ∧ o' = o) := by
    intro i b o' h1 h2
    by_cases hi : i < mu.length
    · rw [List.getElem?_append_left hi] at h1
      rw [List.getElem?_append_left (by omega)] at h2
      exact .inl ⟨h1, h2⟩
    · have h3 : i < (mu ++ [p]).length := (List.getElem?_eq_some_iff.mp h1).1
      have h4 : i = mu.length := by simp at h3; omega
      subst h4
      simp at h1
      rw [hl] at h2
      simp at h2
      exact .inr ⟨rfl, h1.symm, h2.symm⟩
  refine ⟨by simp [hl], fun i j b o1 o2 h1 h2 h3 h4 m1 m2 => ?_, fun i b o' h1 h2 => ?_⟩
  · rcases cas i b o1 h1 h3 with ⟨a1, a2⟩ | ⟨a1, a2, a3⟩ <;> rcases cas j b o2 h2 h4 with ⟨b1, b2⟩ | ⟨b1, b2, b3⟩
    · exact R.inj i j b o1 o2 a1 b1 a2 b2 m1 m2
    · obtain ⟨u', e, _⟩ := RO.some (R.obj i b o1 a1 a2) m1
      rw [b2, hp] at e; cases e
    · obtain ⟨u', e, _⟩ := RO.some (R.obj j b o2 b1 b2) m2
      rw [a2, hp] at e; cases e
    · rw [a1, b1]
  · rcases cas i b o' h1 h2 with ⟨a1, a2⟩ | ⟨_, rfl, rfl⟩
    · exact RO.gro (Gro.new hp _) (R.obj i b o' a1 a2) fun m => by
        obtain ⟨u', e, _⟩ := RO.some (R.obj i b o' a1 a2) m
        exact upd_ne (ne_of_none e hp)
    · exact h
/-- an object of ours is written -/
theorem Rel.write (R : Rel P w K mu vh H) {l : Nat} {p : Addr} {u : HO} {o o' : VObj} (hl : mu[l]? = some p) (ho : vh[l]? = some o) (m : mutO o = true) (h : RO P w K mu (upd H p u) p o') (m' : mutO o' = true) :
    Rel P w K mu (vh.set l o') (upd H p u) := by
  obtain ⟨u0, e0, mu0⟩ := RO.some (R.obj l p o hl ho) m
  have hlt : l < vh.length := (List.getElem?_eq_some_iff.mp ho).1
  have get : ∀ (i : Nat) (x : VObj), (vh.set l o')[i]? = some x → (i = l ∧ x = o') ∨ (i ≠ l ∧ vh[i]? = some x) := fun i x hx => by
    by_cases hi : l = i
    · subst hi; rw [List.getElem?_set_self hlt] at hx; exact .inl ⟨rfl, (Option.some.inj hx).symm⟩
    · rw [List.getElem?_set_ne hi] at hx; exact .inr ⟨fun z => hi z.symm, hx⟩
  refine ⟨by rw [List.length_set]; exact R.len, fun i j b o1 o2 h1 h2 h3 h4 m1 m2 => ?_, fun i b x h1 h2 => ?_⟩
  · rcases get i o1 h3 with ⟨a1, a2⟩ | ⟨a1, a2⟩ <;> rcases get j o2 h4 with ⟨b1, b2⟩ | ⟨b1, b2⟩
    · rw [a1, b1]
    · subst a1; exact R.inj i j b o o2 h1 h2 ho b2 m m2
    · subst b1; exact R.inj i j b o1 o h1 h2 a2 ho m1 m
    · exact R.inj i j b o1 o2 h1 h2 a2 b2 m1 m2
  · rcases get i x h2 with ⟨a1, a2⟩ | ⟨a1, a2⟩
    · subst a1; rw [hl] at h1; cases h1; subst a2; exact h
    · refine RO.gro (Gro.write e0 mu0) (R.obj i b x h1 a2) fun mx => upd_ne fun z => ?_
      subst z
      exact a1 (R.inj i l b x o h1 hl a2 ho mx m)
end
end Pv
end
/-! PvSim -/
section
set_option Elab.async false
set_option linter.all false
set_option maxRecDepth 100000
set_option autoImplicit false
/-! Pv: what it says that an expression has a pure meaning. -/
namespace Pv
open PySem PySem.Spec PyProof.Rows L2
abbrev Sl := L2.St

structure REnv (K : PySem.W.Frag) (mu : List Addr) (H : Hp) (rho : Env) (sg : Sl) : Prop where
  len : rho.length = sg.length
  get : ∀ (i : Nat) (v : Val), rho[i]? = some (some v) → ∃ x, sg[i]? = some (some x) ∧ RV K mu H v x
theorem REnv.gro {K : PySem.W.Frag} {m m' : List Addr} {H H' : Hp} (g : Gro m H m' H') {rho : Env} {sg : Sl} (h : REnv K m H rho sg) : REnv K m' H' rho sg := ⟨h.len, fun i v e => by
  obtain ⟨x, h1, h2⟩ := h.get i v e
  exact ⟨x, h1, h2.gro g⟩⟩
theorem REnv.put {K : PySem.W.Frag} {mu : List Addr} {H : Hp} {rho : Env} {sg : Sl} (h : REnv K mu H rho sg) {v : Val} {x : V} (r : RV K mu H v x) (i : Nat) : REnv K mu H (rho.set i (some v)) (sg.set i (some x)) :=
  ⟨by rw [List.length_set, List.length_set, h.len], fun j w e => by
    by_cases hj : i = j
    · subst hj
      by_cases hl : i < rho.length
      · rw [List.getElem?_set_self hl] at e
        cases e
        exact ⟨x, List.getElem?_set_self (by rw [← h.len]; exact hl), r⟩
      · rw [List.getElem?_eq_none (by rw [List.length_set]; omega)] at e; cases e
    · rw [List.getElem?_set_ne hj] at e
      rw [List.getElem?_set_ne hj]
      exact h.get j w e⟩
theorem REnv.del {K : PySem.W.Frag} {mu : List Addr} {H : Hp} {rho : Env} {sg : Sl} (h : REnv K mu H rho sg) (i : Nat) : REnv K mu H (rho.set i none) (sg.set i none) :=
  ⟨by rw [List.length_set, List.length_set, h.len], fun j w e => by
    by_cases hj : i = j
    · subst hj
      by_cases hl : i < rho.length
      · rw [List.getElem?_set_self hl] at e; cases e
      · rw [List.getElem?_eq_none (by rw [List.length_set]; omega)] at e; cases e
    · rw [List.getElem?_set_ne hj] at e
      rw [List.getElem?_set_ne hj]
      exact h.get j w e⟩
/-- a caught exception's fields -/
def RX (K : PySem.W.Frag) (mu : List Addr) (H : Hp) (c : Str) (fs : Flds) (cls : Value) (d : Option Addr) : Prop :=
  cls = .ref (He.ga K c) ∧ ((fs = [] ∧ d = none) ∨ ∃ dx xs, d = some dx ∧ H dx = some (.xd xs) ∧ FV K mu H fs xs)
theorem RX.gro {K : PySem.W.Frag} {m m' : List Addr} {H H' : Hp} (g : Gro m H m' H') {c : Str} {fs : Flds} {cls : Value} {d : Option Addr} (h : RX K m H c fs cls d) : RX K m' H' c fs cls d := by
  obtain ⟨h1, h2 | ⟨dx, xs, h2, h3, h4⟩⟩ := h
  · exact ⟨h1, .inl h2⟩
  · exact ⟨h1, .inr ⟨dx, xs, h2, g.xds _ _ h3, FV.gro g h4⟩⟩
/-- the exception that is handled, if any -/
def HotR (X : Cx) (hot : Option Nat) (mu : List Addr) (vh : VH) (H : Hp) : Prop := match hot with
  | none => True
  | some l => ∃ p c fs, p ∈ X.pn ∧ L2H.Hot1 X.A p ∧ mu[l]? = some p.1 ∧ vh[l]? = some (.exo c fs) ∧ RX X.K mu H c fs p.2.cls p.2.dict
/-- exceptions that are known stay known -/
def Exo (vh vh' : VH) : Prop := ∀ (l : Nat) (c : Str) (fs : Flds), vh[l]? = some (.exo c fs) → vh'[l]? = some (.exo c fs)
theorem Exo.refl (vh : VH) : Exo vh vh := fun _ _ _ h => h
theorem Exo.trans {a b c : VH} (x : Exo a b) (y : Exo b c) : Exo a c := fun l d fs h => y l d fs (x l d fs h)
theorem Exo.app (vh t : VH) : Exo vh (vh ++ t) := fun l c fs h => by
  rw [List.getElem?_append_left (List.getElem?_eq_some_iff.mp h).1]; exact h
theorem Exo.set {vh : VH} {l : Nat} {o o' : VObj} (h : vh[l]? = some o) (m : mutO o = true) : Exo vh (vh.set l o') := fun i c fs e => by
  have ne : l ≠ i := fun z => by subst z; rw [h] at e; cases e; cases m
  rw [List.getElem?_set_ne ne]; exact e
theorem HotR.gro {X : Cx} {hot : Option Nat} {m m' : List Addr} {v v' : VH} {H H' : Hp} (g : Gro m H m' H') (x : Exo v v') (h : HotR X hot m v H) : HotR X hot m' v' H' := by
  cases hot with
  | none => trivial
  | some l =>
    obtain ⟨p, c, fs, h1, h2, h3, h4, h5⟩ := h
    exact ⟨p, c, fs, h1, h2, g.at h3, x _ _ _ h4, h5.gro g⟩
/-- the state -/
structure Sm (X : Cx) (hot : Option Nat) (pins : List (Addr × Obj)) (rho : Env) (mu : List Addr) (vh : VH) (sg : Sl) (H : Hp) (s : Shared) : Prop where
  inv : Inv X pins sg H s
  rel : Rel X.prog X.w X.K mu vh H
  env : REnv X.K mu H rho sg
  hot : HotR X hot mu vh H
/-- no mutable object of ours stands at a -/
def Apt (mu : List Addr) (vh : VH) (a : Addr) : Prop := ∀ (i : Nat) (o : VObj), mu[i]? = some a → vh[i]? = some o → mutO o = false
/-- a step: nothing is lost -/
structure Ex (mu : List Addr) (vh : VH) (H : Hp) (mu' : List Addr) (vh' : VH) (H' : Hp) : Prop where
  gro : Gro mu H mu' H'
  exo : Exo vh vh'
  fresh : ∀ (i : Nat) (a : Addr), mu.length ≤ i → mu'[i]? = some a → H a = none
  dom : ∀ a, H' a = none → H a = none
  rest : ∀ a u, H a = some u → Apt mu vh a → H' a = some u ∧ Apt mu' vh' a
theorem Ex.refl (mu : List Addr) (vh : VH) (H : Hp) : Ex mu vh H mu vh H := ⟨.refl _ _, .refl _, fun i a h e => (by rw [List.getElem?_eq_none h] at e; cases e), fun _ h => h, fun _ _ h k => ⟨h, k⟩⟩
theorem Ex.trans {m1 m2 m3 : List Addr} {v1 v2 v3 : VH} {H1 H2 H3 : Hp} (a : Ex m1 v1 H1 m2 v2 H2) (b : Ex m2 v2 H2 m3 v3 H3) : Ex m1 v1 H1 m3 v3 H3 :=
  ⟨a.gro.trans b.gro, a.exo.trans b.exo, fun i p h e => (by
    by_cases hi : i < m2.length
    · obtain ⟨t, rfl⟩ := b.gro.mu
      rw [List.getElem?_append_left hi] at e
      exact a.fresh i p h e
    · exact a.dom p (b.fresh i p (by omega) e)), fun p h => a.dom p (b.dom p h), fun p u h k => let ⟨h1, k1⟩ := a.rest p u h k; b.rest p u h1 k1⟩
theorem upd_none {H : Hp} {p a : Addr} {u : HO} (h : upd H p u a = none) : H a = none := by
  by_cases e : a = p
  · subst e; rw [upd_same] at h; cases h
  · rw [upd_ne e] at h; exact h
/-- something immutable is laid -/
theorem Ex.laid {mu : List Addr} {vh : VH} {H : Hp} {p : Addr} {u : HO} (hp : H p = none) : Ex mu vh H mu vh (upd H p u) :=
  ⟨Gro.new0 hp, .refl _, fun i a h e => (by rw [List.getElem?_eq_none h] at e; cases e), fun _ h => upd_none h, fun a o h k => ⟨(upd_ne (ne_of_none h hp)).trans h, k⟩⟩
/-- something of ours is new -/
theorem Ex.new {mu : List Addr} {vh : VH} {H : Hp} {p : Addr} {u : HO} (o : VObj) (hl : mu.length = vh.length) (hp : H p = none) : Ex mu vh H (mu ++ [p]) (vh ++ [o]) (upd H p u) := ⟨Gro.new hp _, .app _ _, fun i a h e => (by
  have h3 : i < (mu ++ [p]).length := (List.getElem?_eq_some_iff.mp e).1
  have h4 : i = mu.length := by simp at h3; omega
  subst h4
  simp at e
  rw [← e]; exact hp), fun _ h => upd_none h, fun a w h k => ⟨(upd_ne (ne_of_none h hp)).trans h, fun i o' h1 h2 => (by
    by_cases hi : i < mu.length
    · rw [List.getElem?_append_left hi] at h1
      rw [List.getElem?_append_left (by omega)] at h2
      exact k i o' h1 h2
    · have h3 : i < (mu ++ [p]).length := (List.getElem?_eq_some_iff.mp h1).1
      have h4 : i = mu.length := by simp at h3; omega
      subst h4
      simp at h1
      subst h1
      rw [hp] at h; cases h)⟩⟩
theorem Ex.write {mu : List Addr} {vh : VH} {H : Hp} {p : Addr} {u v : HO} {l : Nat} {o o' : VObj} (hp : H p = some u) (m : Mut (some u)) (hl : mu[l]? = some p) (h : vh[l]? = some o) (mo : mutO o = true) : Ex mu vh H mu (vh.set l o') (upd H p v) :=
  ⟨Gro.write hp m, Exo.set h mo, fun i a h e => (by rw [List.getElem?_eq_none h] at e; cases e), fun _ h => upd_none h, fun a w ha k => (by
    have ne : a ≠ p := fun z => by
      subst z
      rw [k l o hl h] at mo; cases mo
    refine ⟨(upd_ne ne).trans ha, fun i o2 h1 h2 => ?_⟩
    have hne : l ≠ i := fun z => by
      subst z
      rw [hl] at h1
      exact ne (Option.some.inj h1).symm
    rw [List.getElem?_set_ne hne] at h2
    exact k i o2 h1 h2)⟩
theorem Ex.asideFrom {m1 mu : List Addr} {v1 vh : VH} {H1 H : Hp} {D : Addr} {xs ys : List V} (e : Ex m1 v1 H1 mu vh H) (h1 : H1 D = none) (hD : H D = some (.lst xs)) : Ex m1 v1 H1 mu vh (upd H D (.lst ys)) :=
  ⟨e.gro.trans (Gro.write hD trivial), e.exo, e.fresh, fun _ h => e.dom _ (upd_none h), fun a u h k => let ⟨h2, k2⟩ := e.rest a u h k; ⟨(upd_ne (ne_of_none h h1)).trans h2, k2⟩⟩

section
variable {X : Cx} {hot : Option Nat} {pins : List (Addr × Obj)} {rho : Env} {mu mu' : List Addr} {vh vh' : VH} {sg : Sl} {H H' : Hp} {s s' : Shared}
theorem Sm.step (S : Sm X hot pins rho mu vh sg H s) (I : Inv X pins sg H' s') (R : Rel X.prog X.w X.K mu' vh' H') (g : Ex mu vh H mu' vh' H') : Sm X hot pins rho mu' vh' sg H' s' :=
  ⟨I, R, S.env.gro g.gro, S.hot.gro g.gro g.exo⟩
theorem Sm.same (S : Sm X hot pins rho mu vh sg H s) (I : Inv X pins sg H s') : Sm X hot pins rho mu vh sg H s' := ⟨I, S.rel, S.env, S.hot⟩
/-- what the abstract layer is asked for, where Q is wanted of the pure outcome -/
def PQ (X : Cx) (mu : List Addr) (vh : VH) (H : Hp) (Q : Val → VH → Prop) : VK := fun x H' => ∃ v vh' mu', Q v vh' ∧ Rel X.prog X.w X.K mu' vh' H' ∧ Ex mu vh H mu' vh' H' ∧ RV X.K mu' H' v x
/-- the end of an expression -/
def EQ (X : Cx) (hot : Option Nat) (pins : List (Addr × Obj)) (rho : Env) (mu : List Addr) (vh : VH) (sg : Sl) (H : Hp) (Q : Val → VH → Prop) (u : Value) (s' : Shared) : Prop :=
  ∃ v vh' x mu' H', Q v vh' ∧ Sm X hot pins rho mu' vh' sg H' s' ∧ Ex mu vh H mu' vh' H' ∧ RV X.K mu' H' v x ∧ RelV x u
theorem EQ.of (S : Sm X hot pins rho mu vh sg H s) {Q : Val → VH → Prop} {u : Value} (h : EP X pins sg (PQ X mu vh H Q) u s') : EQ X hot pins rho mu vh sg H Q u s' := by
  obtain ⟨x, H', I, r, v, vh', mu', q, R, g, rv⟩ := h
  exact ⟨v, vh', x, mu', H', q, S.step I R g, g, rv, r⟩
theorem EQ.out {Q : Val → VH → Prop} {u : Value} (h : EQ X hot pins rho mu vh sg H Q u s') : EP X pins sg (PQ X mu vh H Q) u s' := by
  obtain ⟨v, vh', x, mu', H', q, S, g, rv, r⟩ := h
  exact ⟨x, H', S.inv, r, v, vh', mu', q, S.rel, g, rv⟩
theorem EQ.mono {Q Q' : Val → VH → Prop} {u : Value} (h : EQ X hot pins rho mu vh sg H Q u s') (k : ∀ v h, Q v h → Q' v h) : EQ X hot pins rho mu vh sg H Q' u s' := by
  obtain ⟨v, vh', x, mu', H', q, S, g, rv, r⟩ := h
  exact ⟨v, vh', x, mu', H', k _ _ q, S, g, rv, r⟩
theorem EQ.from {mu1 : List Addr} {vh1 : VH} {H1 : Hp} {Q : Val → VH → Prop} {u : Value} (g1 : Ex mu vh H mu1 vh1 H1) (h : EQ X hot pins rho mu1 vh1 sg H1 Q u s') : EQ X hot pins rho mu vh sg H Q u s' := by
  obtain ⟨v, vh', x, mu', H', q, S, g, rv, r⟩ := h
  exact ⟨v, vh', x, mu', H', q, S, g1.trans g, rv, r⟩
/-- nothing but a value came -/
theorem EQ.pure (S : Sm X hot pins rho mu vh sg H s) {Q : Val → VH → Prop} {v : Val} {x : V} {u : Value} (q : Q v vh) (rv : RV X.K mu H v x) (r : RelV x u) (I : Inv X pins sg H s') : EQ X hot pins rho mu vh sg H Q u s' :=
  ⟨v, vh, x, mu, H, q, S.same I, .refl _ _ _, rv, r⟩
/-- what is wished of exceptions -/
def Wish (X : Cx) (rho : Env) (mu : List Addr) (vh : VH) (H : Hp) (E : Str → Flds → VH → Prop) : Prop :=
  L2N.Takes X fun cls d sg H' => ∃ c fs mu' vh', Rel X.prog X.w X.K mu' vh' H' ∧ Ex mu vh H mu' vh' H' ∧ REnv X.K mu' H' rho sg ∧ RX X.K mu' H' c fs cls d ∧ E c fs vh'
theorem Wish.from {X : Cx} {rho : Env} {mu mu1 : List Addr} {vh vh1 : VH} {H H1 : Hp} {E : Str → Flds → VH → Prop} (W : Wish X rho mu vh H E) (g : Ex mu vh H mu1 vh1 H1) : Wish X rho mu1 vh1 H1 E :=
  L2N.Takes.imp W fun _ _ _ _ ⟨c, fs, mu', vh', h1, h2, h3, h4, h5⟩ => ⟨c, fs, mu', vh', h1, g.trans h2, h3, h4, h5⟩
def TQ (X : Cx) (hot : Option Nat) (pins : List (Addr × Obj)) (rho : Env) (mu : List Addr) (vh : VH) (sg : Sl) (H : Hp) (Q : Bool → VH → Prop) (b : Bool) (s' : Shared) : Prop :=
  ∃ vh' mu' H', Q b vh' ∧ Sm X hot pins rho mu' vh' sg H' s' ∧ Ex mu vh H mu' vh' H'
def AQ (n : Nat) (X : Cx) (hot : Option Nat) (pins : List (Addr × Obj)) (rho : Env) (mu : List Addr) (vh : VH) (sg : Sl) (H : Hp) (Q : List Val → VH → Prop) (us : List Value) (s' : Shared) : Prop :=
  ∃ vs vh' xs mu' H', Q vs vh' ∧ Sm X hot pins rho mu' vh' sg H' s' ∧ Ex mu vh H mu' vh' H' ∧ RVs X.K mu' H' vs xs ∧ Vals xs us ∧ us.length = n
end
/-- what is known of where one stands -/
structure Sc where
  N : List Str
  sc : Scope
  st : Scope
structure XIn (c : Sc) (X : Cx) : Prop where
  N : X.N = c.N
  sc : X.env.scope = c.sc
  nd : X.N.Nodup
  st : ∀ x, c.st.names.lookup x = some .local ∨ c.st.names.lookup x = some .cell → Loc X.env.scope x ∧ (X.fn x = true ∨ X.env.scope.names.lookup x = some .local)
/-- the calls' world: what of X the calls lean on -/
abbrev World' := Cfg → Cx → Prop
/-- an expression has a pure meaning -/
structure SimE (G : World') (c : Sc) (e : Expr) (m : Tm) : Prop where
  run : ∀ (cfg : Cfg) (X : Cx), G cfg X → XIn c X → ∀ (pins : List (Addr × Obj)) (rho : Env) (mu : List Addr) (vh : VH) (sg : Sl) (H : Hp) (s : Shared) (Q : Val → VH → Prop) (E : Str → Flds → VH → Prop),
    Sm X cfg.hot pins rho mu vh sg H s → Wish X rho mu vh H E → (m cfg rho vh).W Q E → wpAny (model X.prog X.w) X.A (eval e X.env) (EQ X cfg.hot pins rho mu vh sg H Q) X.xe s
instance {G : World'} {c : Sc} {e : Expr} {m : Tm} : CoeFun (SimE G c e m) fun _ => ∀ (cfg : Cfg) (X : Cx), G cfg X → XIn c X → ∀ (pins : List (Addr × Obj)) (rho : Env) (mu : List Addr) (vh : VH) (sg : Sl) (H : Hp) (s : Shared) (Q : Val → VH → Prop) (E : Str → Flds → VH → Prop),
    Sm X cfg.hot pins rho mu vh sg H s → Wish X rho mu vh H E → (m cfg rho vh).W Q E → wpAny (model X.prog X.w) X.A (eval e X.env) (EQ X cfg.hot pins rho mu vh sg H Q) X.xe s := ⟨SimE.run⟩
structure SimT (G : World') (c : Sc) (e : Expr) (m : Tt) : Prop where
  run : ∀ (cfg : Cfg) (X : Cx), G cfg X → XIn c X → ∀ (pins : List (Addr × Obj)) (rho : Env) (mu : List Addr) (vh : VH) (sg : Sl) (H : Hp) (s : Shared) (Q : Bool → VH → Prop) (E : Str → Flds → VH → Prop),
    Sm X cfg.hot pins rho mu vh sg H s → Wish X rho mu vh H E → (m cfg rho vh).W Q E → wpAny (model X.prog X.w) X.A (isTrue e X.env (eval e X.env)) (TQ X cfg.hot pins rho mu vh sg H Q) X.xe s
instance {G : World'} {c : Sc} {e : Expr} {m : Tt} : CoeFun (SimT G c e m) fun _ => ∀ (cfg : Cfg) (X : Cx), G cfg X → XIn c X → ∀ (pins : List (Addr × Obj)) (rho : Env) (mu : List Addr) (vh : VH) (sg : Sl) (H : Hp) (s : Shared) (Q : Bool → VH → Prop) (E : Str → Flds → VH → Prop),
    Sm X cfg.hot pins rho mu vh sg H s → Wish X rho mu vh H E → (m cfg rho vh).W Q E → wpAny (model X.prog X.w) X.A (isTrue e X.env (eval e X.env)) (TQ X cfg.hot pins rho mu vh sg H Q) X.xe s := ⟨SimT.run⟩
structure SimA (G : World') (c : Sc) (es : List Expr) (m : Ta) : Prop where
  run : ∀ (cfg : Cfg) (X : Cx), G cfg X → XIn c X → ∀ (pos : Pos) (pins : List (Addr × Obj)) (rho : Env) (mu : List Addr) (vh : VH) (sg : Sl) (H : Hp) (s : Shared) (Q : List Val → VH → Prop) (E : Str → Flds → VH → Prop),
    Sm X cfg.hot pins rho mu vh sg H s → Wish X rho mu vh H E → (m cfg rho vh).W Q E → wpAny (model X.prog X.w) X.A (spliced (backTo pos (starEach es X.env))) (AQ es.length X cfg.hot pins rho mu vh sg H Q) X.xe s
instance {G : World'} {c : Sc} {es : List Expr} {m : Ta} : CoeFun (SimA G c es m) fun _ => ∀ (cfg : Cfg) (X : Cx), G cfg X → XIn c X → ∀ (pos : Pos) (pins : List (Addr × Obj)) (rho : Env) (mu : List Addr) (vh : VH) (sg : Sl) (H : Hp) (s : Shared) (Q : List Val → VH → Prop) (E : Str → Flds → VH → Prop),
    Sm X cfg.hot pins rho mu vh sg H s → Wish X rho mu vh H E → (m cfg rho vh).W Q E → wpAny (model X.prog X.w) X.A (spliced (backTo pos (starEach es X.env))) (AQ es.length X cfg.hot pins rho mu vh sg H Q) X.xe s := ⟨SimA.run⟩
/-- an operation on two values -/
def SimV2 (f : Cx → Value → Value → Sem Value) (ok : Cfg → Cx → Prop) (op : Val → Val → VH → Out Val) : Prop :=
  ∀ (cfg : Cfg) (X : Cx), ok cfg X → ∀ (pins : List (Addr × Obj)) (rho : Env) (mu : List Addr) (vh : VH) (sg : Sl) (H : Hp) (s : Shared) (v w : Val) (x y : V) (u t : Value) (Q : Val → VH → Prop) (E : Str → Flds → VH → Prop),
    Sm X cfg.hot pins rho mu vh sg H s → RV X.K mu H v x → RV X.K mu H w y → RelV x u → RelV y t → (op v w vh).W Q E → wpAny (model X.prog X.w) X.A (f X u t) (EQ X cfg.hot pins rho mu vh sg H Q) X.xe s
/-- a call of a built-in with values -/
def SimVs (f : Cx → List Value → Sem Value) (ok : Cfg → Cx → Prop) (op : List Val → VH → Out Val) : Prop :=
  ∀ (cfg : Cfg) (X : Cx), ok cfg X → ∀ (pins : List (Addr × Obj)) (rho : Env) (mu : List Addr) (vh : VH) (sg : Sl) (H : Hp) (s : Shared) (vs : List Val) (xs : List V) (us : List Value) (Q : Val → VH → Prop) (E : Str → Flds → VH → Prop),
    Sm X cfg.hot pins rho mu vh sg H s → RVs X.K mu H vs xs → Vals xs us → (op vs vh).W Q E → wpAny (model X.prog X.w) X.A (f X us) (EQ X cfg.hot pins rho mu vh sg H Q) X.xe s
def SimV1 (f : Cx → Value → Sem Value) (ok : Cfg → Cx → Prop) (op : Val → VH → Out Val) : Prop :=
  ∀ (cfg : Cfg) (X : Cx), ok cfg X → ∀ (pins : List (Addr × Obj)) (rho : Env) (mu : List Addr) (vh : VH) (sg : Sl) (H : Hp) (s : Shared) (v : Val) (x : V) (u : Value) (Q : Val → VH → Prop) (E : Str → Flds → VH → Prop),
    Sm X cfg.hot pins rho mu vh sg H s → RV X.K mu H v x → RelV x u → (op v vh).W Q E → wpAny (model X.prog X.w) X.A (f X u) (EQ X cfg.hot pins rho mu vh sg H Q) X.xe s

/-! ### the combinators of expressions, and that they are sound -/
def eC (v : Val) : Tm := fun _ _ h => .ok v h
def eV (i : Nat) : Tm := fun _ rho h => match rho[i]? with
  | some (some v) => .ok v h
  | _ => .bad
def aNil : Ta := fun _ _ h => .ok [] h
def aCons (m : Tm) (t : Ta) : Ta := fun c rho h => (m c rho h).bind fun v h => (t c rho h).bind fun vs h => .ok (v :: vs) h
def eTup (t : Ta) : Tm := fun c rho h => (t c rho h).bind fun vs h => .ok (.tup vs) h
def eLst (t : Ta) : Tm := fun c rho h => (t c rho h).bind fun vs h => .ok (.ref h.length) (h ++ [.lst vs])
def eOp (op : Val → Val → VH → Out Val) (a b : Tm) : Tm := fun c rho h => (a c rho h).bind fun v h => (b c rho h).bind fun w h => op v w h
def eUn (op : Val → VH → Out Val) (a : Tm) : Tm := fun c rho h => (a c rho h).bind fun v h => op v h
def tVal (a : Tm) : Tt := fun c rho h => (a c rho h).bind fun v h => got (truth v h) h
def tNot (a : Tt) : Tt := fun c rho h => (a c rho h).bind fun b h => .ok (!b) h
def tAnd (a b : Tt) : Tt := fun c rho h => (a c rho h).bind fun p h => if p then b c rho h else .ok false h
def tOr (a b : Tt) : Tt := fun c rho h => (a c rho h).bind fun p h => if p then .ok true h else b c rho h
def eAnd (a b : Tm) : Tm := fun c rho h => (a c rho h).bind fun v h => (got (truth v h) h).bind fun p h => if p then b c rho h else .ok v h
def eOr (a b : Tm) : Tm := fun c rho h => (a c rho h).bind fun v h => (got (truth v h) h).bind fun p h => if p then .ok v h else b c rho h
def eNot (a : Tm) : Tm := fun c rho h => (a c rho h).bind fun v h => (got (truth v h) h).bind fun p h => .ok (.bl (!p)) h
def eIf (t : Tt) (a b : Tm) : Tm := fun c rho h => (t c rho h).bind fun p h => if p then a c rho h else b c rho h
section
variable {G : World'} {c : Sc} {a b : Expr} {ma mb : Tm} {es : List Expr} {mt : Ta} {pos : Pos}
/-- the first expression, then the rest -/
theorem SimE.then (ha : SimE G c a ma) {cfg : Cfg} {X : Cx} (g : G cfg X) (xi : XIn c X) {pins : List (Addr × Obj)} {rho : Env} {mu : List Addr} {vh : VH} {sg : Sl} {H : Hp} {s : Shared} {E : Str → Flds → VH → Prop} {β : Type} {k : Val → VH → Out β} {Q : β → VH → Prop} {R : Value → Shared → Prop}
    (S : Sm X cfg.hot pins rho mu vh sg H s) (W : Wish X rho mu vh H E) (q : ((ma cfg rho vh).bind k).W Q E)
    (h : ∀ v vh1 x mu1 H1 u s1, Sm X cfg.hot pins rho mu1 vh1 sg H1 s1 → Ex mu vh H mu1 vh1 H1 → RV X.K mu1 H1 v x → RelV x u → (k v vh1).W Q E → R u s1) :
    wpAny (model X.prog X.w) X.A (eval a X.env) R X.xe s := by
  rw [Out.W_bind] at q
  refine thn (ha cfg X g xi pins rho mu vh sg H s _ E S W q) fun u s1 hq => ?_
  obtain ⟨v, vh1, x, mu1, H1, q1, S1, g1, rv, r⟩ := hq
  exact h v vh1 x mu1 H1 u s1 S1 g1 rv r q1
theorem simE_C_int {i : Int} {j : Nat} : SimE G c (.Constant (.int i) j pos) (eC (.int i)) := .mk fun cfg X g xi pins rho mu vh sg H s Q E S W q =>
  wpAny_Constant_int (EQ.pure S (v := .int i) q (.int i) ⟨_, rfl⟩ (S.inv.tok _))
theorem simE_C_bl {i : Bool} {j : Nat} : SimE G c (.Constant (.bool i) j pos) (eC (.bl i)) := .mk fun cfg X g xi pins rho mu vh sg H s Q E S W q =>
  Constant_bool (EQ.pure S (v := .bl i) q (.bl i) rfl S.inv)
theorem simE_C_non {j : Nat} : SimE G c (.Constant .none j pos) (eC .non) := .mk fun cfg X g xi pins rho mu vh sg H s Q E S W q =>
  Constant_none (EQ.pure S (v := .non) q .non rfl S.inv)
theorem simE_C_str {x : Str} {j : Nat} (hx : okS x) : SimE G c (.Constant (.str x) j pos) (eC (.str x)) := .mk fun cfg X g xi pins rho mu vh sg H s Q E S W q =>
  Calls.Constant_str (EQ.pure S (v := .str x) q (.str hx) ⟨_, rfl⟩ (S.inv.tok _))
theorem simE_V {i : Nat} {x : Str} (hN : c.N[i]? = some x) (hv : Vis c.sc x) (hd : (x == ("__debug__" : Str)) = false) (hcd : (x == ("__classdict__" : Str)) = false) : SimE G c (.Name x pos) (eV i) := .mk <| by
  intro cfg X g xi pins rho mu vh sg H s Q E S W q
  unfold eV at q
  split at q
  · rename_i v e
    obtain ⟨y, e1, rv⟩ := S.env.get i v e
    refine thn ((pe_var (X := X) (i := i) (x := x) (by rw [xi.N]; exact hN) (by rw [xi.sc]; exact hv) hd hcd).run pins s sg H (PQ X mu vh H Q) S.inv ⟨y, e1, v, vh, mu, q, S.rel, .refl _ _ _, rv⟩) fun u s1 h => EQ.of S h
  · exact q.elim
/-- a name that one sees -/
def visB (c : Sc) (x : Str) : Bool := (c.sc.names.lookup x == some .local || c.sc.names.lookup x == some .cell || c.sc.names.lookup x == some .free) && !(x == ("__debug__" : Str)) && !(x == ("__classdict__" : Str))
theorem visB_ok {c : Sc} {x : Str} (h : visB c x = true) : Vis c.sc x ∧ (x == ("__debug__" : Str)) = false ∧ (x == ("__classdict__" : Str)) = false := by
  unfold visB at h
  rw [Bool.and_eq_true, Bool.and_eq_true, Bool.or_eq_true, Bool.or_eq_true] at h
  obtain ⟨⟨h1, h2⟩, h3⟩ := h
  refine ⟨?_, by simpa using h2, by simpa using h3⟩
  rcases h1 with (h1 | h1) | h1
  · exact .inl (by simpa using h1)
  · exact .inr (.inl (by simpa using h1))
  · exact .inr (.inr (by simpa using h1))
theorem simE_v {i : Nat} {x : Str} (hN : c.N[i]? = some x) (h : visB c x = true) : SimE G c (.Name x pos) (eV i) := simE_V hN (visB_ok h).1 (visB_ok h).2.1 (visB_ok h).2.2
theorem simA_nil : SimA G c [] aNil := .mk fun cfg X g xi pos pins rho mu vh sg H s Q E S W q => Calls.spliced_nil ⟨[], vh, [], mu, H, q, S, .refl _ _ _, .nil, .nil, rfl⟩
/-- no star -/
def noStar : Expr → Bool
  | .Starred .. => false
  | _ => true
theorem starEach_cons {e : Expr} {es : List Expr} {env : PySem.Env} (h : noStar e = true) : starEach (e :: es) env = (false, eval e env) :: starEach es env := by
  cases e <;> first | rfl | cases h
theorem simA_cons (ha : SimE G c a ma) (hn : noStar a = true) (ht : SimA G c es mt) : SimA G c (a :: es) (aCons ma mt) := .mk <| by
  intro cfg X g xi pos pins rho mu vh sg H s Q E S W q
  rw [starEach_cons hn]
  show wpAny _ _ (spliced ((false, eval a X.env) :: backTo pos (starEach es X.env))) _ _ s
  refine Calls.spliced_cons (ha.then g xi S W q fun v vh1 x mu1 H1 u s1 S1 g1 rv r q1 => ?_)
  rw [Out.W_bind] at q1
  refine thn (ht cfg X g xi pos pins rho mu1 vh1 sg H1 s1 _ E S1 (W.from g1) q1) fun us s2 hq => ?_
  obtain ⟨vs, vh2, xs, mu2, H2, q2, S2, g2, rvs, rs, hl⟩ := hq
  exact ⟨v :: vs, vh2, x :: xs, mu2, H2, q2, S2, g1.trans g2, .cons (rv.gro g2.gro) rvs, .cons r rs, by simp [hl]⟩
/-- the arguments, then what is done with them -/
theorem SimA.then (ha : SimA G c es mt) {cfg : Cfg} {X : Cx} (g : G cfg X) (xi : XIn c X) {pos : Pos} {pins : List (Addr × Obj)} {rho : Env} {mu : List Addr} {vh : VH} {sg : Sl} {H : Hp} {s : Shared} {E : Str → Flds → VH → Prop} {β : Type} {k : List Val → VH → Out β} {Q : β → VH → Prop} {R : List Value → Shared → Prop}
    (S : Sm X cfg.hot pins rho mu vh sg H s) (W : Wish X rho mu vh H E) (q : ((mt cfg rho vh).bind k).W Q E)
    (h : ∀ vs vh1 xs mu1 H1 us s1, Sm X cfg.hot pins rho mu1 vh1 sg H1 s1 → Ex mu vh H mu1 vh1 H1 → RVs X.K mu1 H1 vs xs → Vals xs us → us.length = es.length → (k vs vh1).W Q E → R us s1) :
    wpAny (model X.prog X.w) X.A (spliced (backTo pos (starEach es X.env))) R X.xe s := by
  rw [Out.W_bind] at q
  refine thn (ha cfg X g xi pos pins rho mu vh sg H s _ E S W q) fun us s1 hq => ?_
  obtain ⟨vs, vh1, xs, mu1, H1, q1, S1, g1, rv, r, hl⟩ := hq
  exact h vs vh1 xs mu1 H1 us s1 S1 g1 rv r hl q1
theorem small_line {n : Nat} (h : n ≤ 1000) : n ≤ sizeLine := Nat.le_trans h (by decide)
/-- a tuple, laid new -/
theorem EQ.tup {X : Cx} {hot : Option Nat} {pins : List (Addr × Obj)} {rho : Env} {mu : List Addr} {vh : VH} {sg : Sl} {H : Hp} {s : Shared} (S : Sm X hot pins rho mu vh sg H s) {Q : Val → VH → Prop} {vs : List Val} {xs : List V} {p : Addr}
    (q : Q (.tup vs) vh) (r : RVs X.K mu H vs xs) (hp : H p = none) : PQ X mu vh H Q (.ref p) (upd H p (.tup xs)) :=
  ⟨.tup vs, vh, mu, q, S.rel.laid hp, Ex.laid hp, .tup (SqT.of upd_same) (r.gro (Gro.new0 hp))⟩
/-- a list, laid new -/
theorem EQ.lst {X : Cx} {hot : Option Nat} {pins : List (Addr × Obj)} {rho : Env} {mu : List Addr} {vh : VH} {sg : Sl} {H : Hp} {s : Shared} (S : Sm X hot pins rho mu vh sg H s) {Q : Val → VH → Prop} {vs : List Val} {xs : List V} {p : Addr}
    (q : Q (.ref vh.length) (vh ++ [.lst vs])) (r : RVs X.K mu H vs xs) (hp : H p = none) : PQ X mu vh H Q (.ref p) (upd H p (.lst xs)) :=
  ⟨.ref vh.length, vh ++ [.lst vs], mu ++ [p], q, S.rel.new (o := .lst vs) hp ⟨xs, upd_same, r.gro (Gro.new hp _)⟩, Ex.new _ S.rel.len hp, .ref (by rw [← S.rel.len]; simp)⟩
theorem simE_tup {k : Nat} (ht : SimA G c es mt) (hl : es.length ≤ 1000) : SimE G c (.Tuple es k pos) (eTup mt) := .mk <| by
  intro cfg X g xi pins rho mu vh sg H s Q E S W q
  refine wpAny_Tuple_spliced (ht.then g xi S W q fun vs vh1 xs mu1 H1 us s1 S1 g1 rv r hn q1 => ⟨small_line (by omega), ?_⟩)
  have hf : H1 s1.heap.objs.size = none := S1.inv.hok.fresh (Nat.le_refl _)
  have z : xs.length ≤ sizeLine := by rw [r.length]; exact small_line (by omega)
  exact EQ.from g1 (EQ.of S1 ⟨.ref s1.heap.objs.size, upd H1 s1.heap.objs.size (.tup xs), S1.inv.laid (t' := s1.toks) (fun b u e => Heap.get?_push_of_some _ e) (Nat.le_refl _) ⟨z, us, r, ⟨_, Heap.get?_push_size _ rfl, rfl, _, rfl⟩⟩, rfl, EQ.tup S1 q1 rv hf⟩)
theorem simE_lst (ht : SimA G c es mt) (hl : es.length ≤ 1000) : SimE G c (.List es pos) (eLst mt) := .mk <| by
  intro cfg X g xi pins rho mu vh sg H s Q E S W q
  refine wpAny_List_spliced (ht.then g xi S W q fun vs vh1 xs mu1 H1 us s1 S1 g1 rv r hn q1 => ⟨small_line (by omega), ?_⟩)
  have hf : H1 s1.heap.objs.size = none := S1.inv.hok.fresh (Nat.le_refl _)
  have z : xs.length ≤ sizeLine := by rw [r.length]; exact small_line (by omega)
  exact EQ.from g1 (EQ.of S1 ⟨.ref s1.heap.objs.size, upd H1 s1.heap.objs.size (.lst xs), S1.inv.laid (t' := s1.toks) (fun b u e => Heap.get?_push_of_some _ e) (Nat.le_refl _) ⟨z, us, 0, r, Heap.get?_push_size _ rfl⟩, rfl, EQ.lst S1 q1 rv hf⟩)
/-- two values, then an operation -/
theorem bin2 (ha : SimE G c a ma) (hb : SimE G c b mb) {cfg : Cfg} {X : Cx} (g : G cfg X) (xi : XIn c X) {pins : List (Addr × Obj)} {rho : Env} {mu : List Addr} {vh : VH} {sg : Sl} {H : Hp} {s : Shared} {E : Str → Flds → VH → Prop} {β : Type} {k : Val → Val → VH → Out β} {Q : β → VH → Prop} {α : Type} {R : α → Shared → Prop} {f : Value → Value → Sem α}
    (S : Sm X cfg.hot pins rho mu vh sg H s) (W : Wish X rho mu vh H E) (q : ((ma cfg rho vh).bind fun v h => (mb cfg rho h).bind fun w h => k v w h).W Q E)
    (h : ∀ v w vh1 x y mu1 H1 u t s1, Sm X cfg.hot pins rho mu1 vh1 sg H1 s1 → Ex mu vh H mu1 vh1 H1 → RV X.K mu1 H1 v x → RV X.K mu1 H1 w y → RelV x u → RelV y t → (k v w vh1).W Q E → wpAny (model X.prog X.w) X.A (f u t) R X.xe s1) :
    wpAny (model X.prog X.w) X.A (eval a X.env) (fun v s₁ => wpAny (model X.prog X.w) X.A (eval b X.env) (fun u s₂ => wpAny (model X.prog X.w) X.A (f v u) R X.xe s₂) X.xe s₁) X.xe s :=
  ha.then g xi S W q fun v vh1 x mu1 H1 u s1 S1 g1 rv r q1 =>
    hb.then g xi S1 (W.from g1) q1 fun w vh2 y mu2 H2 t s2 S2 g2 rw' r2 q2 => h v w vh2 x y mu2 H2 u t s2 S2 (g1.trans g2) (rv.gro g2.gro) rw' r r2 q2
/-- a value operation from the layer's rule -/
theorem simV2_of {f : Cx → Value → Value → Sem Value} {ok : Cfg → Cx → Prop} {op : Val → Val → VH → Out Val} {r : Cx → R2} (hr : ∀ cfg X, ok cfg X → OpR X (f X) (r X))
    (h : ∀ (X : Cx) (hot : Option Nat) (pins : List (Addr × Obj)) (rho : Env) (mu : List Addr) (vh : VH) (sg : Sl) (H : Hp) (s : Shared) (v w : Val) (x y : V) (Q : Val → VH → Prop) (E : Str → Flds → VH → Prop),
      Sm X hot pins rho mu vh sg H s → RV X.K mu H v x → RV X.K mu H w y → (op v w vh).W Q E → r X x y H (PQ X mu vh H Q)) : SimV2 f ok op :=
  fun cfg X k pins rho mu vh sg H s v w x y u t Q E S rv rw' ru rt q =>
    thn (hr cfg X k pins s sg H x y u t (PQ X mu vh H Q) S.inv ru rt (h X cfg.hot pins rho mu vh sg H s v w x y Q E S rv rw' q)) fun z s1 hz => EQ.of S hz
theorem simE_bin {f : Operator} {op : Val → Val → VH → Out Val} (ho : SimV2 (fun _ => binaryOp f) G op) (ha : SimE G c a ma) (hb : SimE G c b mb) : SimE G c (.BinOp a f b pos) (eOp op ma mb) := .mk <| by
  intro cfg X g xi pins rho mu vh sg H s Q E S W q
  refine wpAny_BinOp (bin2 ha hb g xi S W q fun v w vh1 x y mu1 H1 u t s1 S1 g1 rv rw' ru rt q1 => ?_)
  exact thn (ho cfg X g pins rho mu1 vh1 sg H1 s1 v w x y u t Q E S1 rv rw' ru rt q1) fun z s2 hz => hz.from g1
theorem simE_cmp {f : CmpOp} {op : Val → Val → VH → Out Val} (ho : SimV2 (fun _ => compareOp f) G op) (ha : SimE G c a ma) (hb : SimE G c b mb) (hm : behindInMarks f b = false) : SimE G c (.Compare a [f] [b] pos) (eOp op ma mb) := .mk <| by
  intro cfg X g xi pins rho mu vh sg H s Q E S W q
  refine wpAny_Compare1 (bin2 ha hb g xi S W q fun v w vh1 x y mu1 H1 u t s1 S1 g1 rv rw' ru rt q1 => ?_) hm
  exact thn (ho cfg X g pins rho mu1 vh1 sg H1 s1 v w x y u t Q E S1 rv rw' ru rt q1) fun z s2 hz => hz.from g1
/-! ### truth, tests -/
theorem RV.truth {X : Cx} {hot : Option Nat} {pins : List (Addr × Obj)} {rho : Env} {mu : List Addr} {vh : VH} {sg : Sl} {H : Hp} {s : Shared} (S : Sm X hot pins rho mu vh sg H s) {v : Val} {x : V} {k : Bool} (r : RV X.K mu H v x) (e : truth v vh = some k) :
    TruV X.K x H k := by
  cases r with
  | non => cases e; rfl
  | bl b => cases e; rfl
  | int i => cases e; rfl
  | str h => cases e; exact ⟨h.2, rfl⟩
  | tup h r =>
    cases e
    exact .inr (.inl ⟨_, h, by cases r <;> rfl⟩)
  | glo x => cases e
  | ref h =>
    rename_i l a
    have e' : (match vh[l]? with
      | some (.lst vs) => some (!vs.isEmpty)
      | some (.frz vs) => some (!vs.isEmpty)
      | _ => none) = some k := e
    cases o : vh[l]? with
    | none => rw [o] at e'; cases e'
    | some u =>
      have ro := S.rel.obj l a u h o
      rw [o] at e'
      cases u with
      | lst vs =>
        cases e'
        obtain ⟨xs, e1, r1⟩ := ro
        exact .inl ⟨xs, SqL.of e1, by cases r1 <;> rfl⟩
      | frz vs =>
        cases e'
        obtain ⟨xs, e1, r1⟩ := ro
        exact .inl ⟨xs, e1.sq, by cases r1 <;> rfl⟩
      | dct t kvs => cases e'
      | ins c fs => cases e'
      | exo c fs => cases e'
      | xob c fs => cases e'
/-- truth of a value -/
theorem sim_truth {X : Cx} {hot : Option Nat} {pins : List (Addr × Obj)} {rho : Env} {mu : List Addr} {vh : VH} {sg : Sl} {H : Hp} {s : Shared} (S : Sm X hot pins rho mu vh sg H s) {v : Val} {x : V} {u : Value} {k : Bool} (rv : RV X.K mu H v x) (r : RelV x u) (e : truth v vh = some k)
    {R : Bool → Shared → Prop} (h : ∀ s1, Inv X pins sg H s1 → R k s1) : wpAny (model X.prog X.w) X.A (truthy u) R X.xe s :=
  thn (tru_ok (X := X) pins s sg H x u (fun b H' => b = k ∧ H' = H) S.inv r ⟨k, RV.truth S rv e, rfl, rfl⟩) fun b s1 ⟨H', I, e1, e2⟩ => by subst e1 e2; exact h s1 I
theorem got_W {α : Type} {o : Option α} {h : VH} {Q : α → VH → Prop} {E : Str → Flds → VH → Prop} (x : (got o h).W Q E) : ∃ a, o = some a ∧ Q a h := by
  cases o with
  | none => exact x.elim
  | some a => exact ⟨a, rfl, x⟩
/-- what is tested by its value's truth -/
def plainT : Expr → Bool
  | .BoolOp .. => false
  | .Compare .. => false
  | .UnaryOp .Not _ _ => false
  | .IfExp .. => false
  | .NamedExpr .. => false
  | _ => true
theorem plainT_ok {e : Expr} {env : PySem.Env} (h : plainT e = true) (whole : Sem Value) : isTrue e env whole = (do let v ← whole; standAt e.pos; holding [v] (truthy v)) := by
  cases e with
  | UnaryOp op a pos => cases op <;> first | rfl | cases h
  | _ => first | rfl | cases h
theorem simT_val (ha : SimE G c a ma) (hp : plainT a = true) : SimT G c a (tVal ma) := .mk <| by
  intro cfg X g xi pins rho mu vh sg H s Q E S W q
  refine isTrue_plain (ha.then g xi S W q fun v vh1 x mu1 H1 u s1 S1 g1 rv r q1 => ?_) (plainT_ok hp _)
  obtain ⟨k, e, q2⟩ := got_W q1
  exact sim_truth S1 rv r e fun s2 I2 => ⟨vh1, mu1, H1, q2, S1.same I2, g1⟩
theorem TQ.from {X : Cx} {hot : Option Nat} {pins : List (Addr × Obj)} {rho : Env} {mu mu1 : List Addr} {vh vh1 : VH} {sg : Sl} {H H1 : Hp} {s' : Shared} {Q : Bool → VH → Prop} {b : Bool} (g1 : Ex mu vh H mu1 vh1 H1) (h : TQ X hot pins rho mu1 vh1 sg H1 Q b s') : TQ X hot pins rho mu vh sg H Q b s' := by
  obtain ⟨vh', mu', H', q, S, g⟩ := h
  exact ⟨vh', mu', H', q, S, g1.trans g⟩
theorem SimT.then {mt : Tt} (ha : SimT G c a mt) {cfg : Cfg} {X : Cx} (g : G cfg X) (xi : XIn c X) {pins : List (Addr × Obj)} {rho : Env} {mu : List Addr} {vh : VH} {sg : Sl} {H : Hp} {s : Shared} {E : Str → Flds → VH → Prop} {β : Type} {k : Bool → VH → Out β} {Q : β → VH → Prop} {R : Bool → Shared → Prop}
    (S : Sm X cfg.hot pins rho mu vh sg H s) (W : Wish X rho mu vh H E) (q : ((mt cfg rho vh).bind k).W Q E)
    (h : ∀ b vh1 mu1 H1 s1, Sm X cfg.hot pins rho mu1 vh1 sg H1 s1 → Ex mu vh H mu1 vh1 H1 → (k b vh1).W Q E → R b s1) :
    wpAny (model X.prog X.w) X.A (isTrue a X.env (eval a X.env)) R X.xe s := by
  rw [Out.W_bind] at q
  refine thn (ha cfg X g xi pins rho mu vh sg H s _ E S W q) fun b s1 hq => ?_
  obtain ⟨vh1, mu1, H1, q1, S1, g1⟩ := hq
  exact h b vh1 mu1 H1 s1 S1 g1 q1
theorem simT_not {mt : Tt} (ha : SimT G c a mt) : SimT G c (.UnaryOp .Not a pos) (tNot mt) := .mk <| by
  intro cfg X g xi pins rho mu vh sg H s Q E S W q
  exact isTrue_not (ha.then (R := fun b s1 => TQ X cfg.hot pins rho mu vh sg H Q (!b) s1) g xi S W q fun b vh1 mu1 H1 s1 S1 g1 q1 => ⟨vh1, mu1, H1, q1, S1, g1⟩)
/-- and, or, whatever the whole is -/
def SimW (G : World') (c : Sc) (e : Expr) (m : Tt) : Prop :=
  ∀ (whole : Sem Value) (cfg : Cfg) (X : Cx), G cfg X → XIn c X → ∀ (pins : List (Addr × Obj)) (rho : Env) (mu : List Addr) (vh : VH) (sg : Sl) (H : Hp) (s : Shared) (Q : Bool → VH → Prop) (E : Str → Flds → VH → Prop),
    Sm X cfg.hot pins rho mu vh sg H s → Wish X rho mu vh H E → (m cfg rho vh).W Q E → wpAny (model X.prog X.w) X.A (isTrue e X.env whole) (TQ X cfg.hot pins rho mu vh sg H Q) X.xe s
theorem SimW.t {e : Expr} {m : Tt} (h : SimW G c e m) : SimT G c e m := .mk fun cfg X g xi pins rho mu vh sg H s Q E S W q => h _ cfg X g xi pins rho mu vh sg H s Q E S W q
section
variable {rest : List Expr} {mt mu' : Tt}
theorem simW_and1 (ha : SimT G c a mt) : SimW G c (.BoolOp .And [a] pos) mt := by
  intro wh cfg X g xi pins rho mu vh sg H s Q E S W q
  refine isTrue_and (thn (ha cfg X g xi pins rho mu vh sg H s Q E S W q) fun b s1 e => ?_)
  cases b with
  | true => exact isTrue_and_nil e
  | false => exact e
theorem simW_or1 (ha : SimT G c a mt) : SimW G c (.BoolOp .Or [a] pos) mt := by
  intro wh cfg X g xi pins rho mu vh sg H s Q E S W q
  refine isTrue_or (thn (ha cfg X g xi pins rho mu vh sg H s Q E S W q) fun b s1 e => ?_)
  cases b with
  | false => exact isTrue_or_nil e
  | true => exact e
theorem simW_and (ha : SimT G c a mt) (hb : SimW G c (.BoolOp .And (b :: rest) pos) mu') : SimW G c (.BoolOp .And (a :: b :: rest) pos) (tAnd mt mu') := by
  intro wh cfg X g xi pins rho mu vh sg H s Q E S W q
  refine isTrue_and (ha.then g xi S W q fun k vh1 mu1 H1 s1 S1 g1 q1 => ?_)
  cases k with
  | true => exact thn (hb wh cfg X g xi pins rho mu1 vh1 sg H1 s1 Q E S1 (W.from g1) q1) fun _ _ h => h.from g1
  | false => exact ⟨vh1, mu1, H1, q1, S1, g1⟩
theorem simW_or (ha : SimT G c a mt) (hb : SimW G c (.BoolOp .Or (b :: rest) pos) mu') : SimW G c (.BoolOp .Or (a :: b :: rest) pos) (tOr mt mu') := by
  intro wh cfg X g xi pins rho mu vh sg H s Q E S W q
  refine isTrue_or (ha.then g xi S W q fun k vh1 mu1 H1 s1 S1 g1 q1 => ?_)
  cases k with
  | true => exact ⟨vh1, mu1, H1, q1, S1, g1⟩
  | false => exact thn (hb wh cfg X g xi pins rho mu1 vh1 sg H1 s1 Q E S1 (W.from g1) q1) fun _ _ h => h.from g1
/-- .. as values -/
theorem simE_one {op : BoolOp} (ha : SimE G c a ma) : SimE G c (.BoolOp op [a] pos) ma := .mk fun cfg X g xi pins rho mu vh sg H s Q E S W q => BoolOp_one (ha cfg X g xi pins rho mu vh sg H s Q E S W q)
theorem simE_and (ha : SimE G c a ma) (hb : SimE G c (.BoolOp .And (b :: rest) pos) mb) : SimE G c (.BoolOp .And (a :: b :: rest) pos) (eAnd ma mb) := .mk <| by
  intro cfg X g xi pins rho mu vh sg H s Q E S W q
  refine BoolOp_and (ha.then g xi S W q fun v vh1 x mu1 H1 u s1 S1 g1 rv r q1 => ?_)
  rw [Out.W_bind] at q1
  obtain ⟨k, e, q2⟩ := got_W q1
  refine sim_truth S1 rv r e fun s2 I2 => ?_
  cases k with
  | true => exact thn (hb cfg X g xi pins rho mu1 vh1 sg H1 s2 Q E (S1.same I2) (W.from g1) q2) fun _ _ h => h.from g1
  | false => exact EQ.from g1 (EQ.pure (S1.same I2) q2 rv r I2)
theorem simE_or (ha : SimE G c a ma) (hb : SimE G c (.BoolOp .Or (b :: rest) pos) mb) : SimE G c (.BoolOp .Or (a :: b :: rest) pos) (eOr ma mb) := .mk <| by
  intro cfg X g xi pins rho mu vh sg H s Q E S W q
  refine BoolOp_or (ha.then g xi S W q fun v vh1 x mu1 H1 u s1 S1 g1 rv r q1 => ?_)
  rw [Out.W_bind] at q1
  obtain ⟨k, e, q2⟩ := got_W q1
  refine sim_truth S1 rv r e fun s2 I2 => ?_
  cases k with
  | false => exact thn (hb cfg X g xi pins rho mu1 vh1 sg H1 s2 Q E (S1.same I2) (W.from g1) q2) fun _ _ h => h.from g1
  | true => exact EQ.from g1 (EQ.pure (S1.same I2) q2 rv r I2)
theorem simE_not (ha : SimE G c a ma) : SimE G c (.UnaryOp .Not a pos) (eNot ma) := .mk <| by
  intro cfg X g xi pins rho mu vh sg H s Q E S W q
  refine UnaryOp_ (ha.then g xi S W q fun v vh1 x mu1 H1 u s1 S1 g1 rv r q1 => ?_)
  rw [Out.W_bind] at q1
  obtain ⟨k, e, q2⟩ := got_W q1
  exact not_of (sim_truth S1 rv r e fun s2 I2 => EQ.from g1 (EQ.pure (v := .bl (!k)) (S1.same I2) q2 (.bl _) rfl I2))
theorem simE_if {t : Expr} (ht : SimT G c t mt) (ha : SimE G c a ma) (hb : SimE G c b mb) : SimE G c (.IfExp t a b pos) (eIf mt ma mb) := .mk <| by
  intro cfg X g xi pins rho mu vh sg H s Q E S W q
  refine wpAny_IfExp (ht.then g xi S W q fun k vh1 mu1 H1 s1 S1 g1 q1 => ?_)
  cases k with
  | true => exact thn (ha cfg X g xi pins rho mu1 vh1 sg H1 s1 Q E S1 (W.from g1) q1) fun _ _ h => h.from g1
  | false => exact thn (hb cfg X g xi pins rho mu1 vh1 sg H1 s1 Q E S1 (W.from g1) q1) fun _ _ h => h.from g1
/-- a comparison as a test -/
theorem simT_cmp {f : CmpOp} {op : Val → Val → VH → Out Val} (ho : SimV2 (fun _ => compareOp f) G op) (ha : SimE G c a ma) (hb : SimE G c b mb) (hm : behindInMarks f b = false) : SimT G c (.Compare a [f] [b] pos) (tVal (eOp op ma mb)) := .mk <| by
  intro cfg X g xi pins rho mu vh sg H s Q E S W q
  unfold tVal eOp at q
  rw [Out.bind_assoc] at q
  simp only [Out.bind_assoc] at q
  refine wpAny_isTrue_Compare1 (bin2 (R := fun z s3 => wpAny (model X.prog X.w) X.A (truthy z) (TQ X cfg.hot pins rho mu vh sg H Q) X.xe s3) ha hb g xi S W q fun v w vh1 x y mu1 H1 u t s1 S1 g1 rv rw' ru rt q1 => ?_) hm
  rw [Out.W_bind] at q1
  refine thn (ho cfg X g pins rho mu1 vh1 sg H1 s1 v w x y u t _ E S1 rv rw' ru rt q1) fun z s2 hz => ?_
  obtain ⟨v2, vh2, x2, mu2, H2, q2, S2, g2, rv2, r2⟩ := hz
  obtain ⟨k, e, q3⟩ := got_W q2
  exact sim_truth S2 rv2 r2 e fun s3 I3 => ⟨vh2, mu2, H2, q3, S2.same I3, g1.trans g2⟩
end
end
end Pv
end
/-! PvOps -/
section
set_option Elab.async false
set_option linter.all false
set_option maxRecDepth 100000
set_option autoImplicit false
/-! Pv: the operators are sound. -/
namespace Pv
open PySem PySem.Spec PyProof.Rows L2

/-- room for the operators -/
structure Rm (cfg : Cfg) (X : Cx) : Prop where
  un : X.A.units + 100 < cLine
  calm : cfg.hot = none → X.calm = true
theorem SimV2.imp {f : Cx → Value → Value → Sem Value} {G G' : World'} {op : Val → Val → VH → Out Val} (h : SimV2 f G op) (k : ∀ cfg X, G' cfg X → G cfg X) : SimV2 f G' op :=
  fun cfg X g => h cfg X (k cfg X g)
theorem SimVs.imp {f : Cx → List Value → Sem Value} {G G' : World'} {op : List Val → VH → Out Val} (h : SimVs f G op) (k : ∀ cfg X, G' cfg X → G cfg X) : SimVs f G' op :=
  fun cfg X g => h cfg X (k cfg X g)

/-! ### data -/
theorem mapM_some {α β : Type} {f : α → Option β} : ∀ {l : List α} {m : List β}, l.mapM f = some m → Paired (fun a b => f a = some b) l m
  | [], m, h => by simp at h; subst h; exact .nil
  | a :: l, m, h => by
    rw [List.mapM_cons] at h
    cases e : f a with
    | none => rw [e] at h; simp at h
    | some b =>
      rw [e] at h
      cases e2 : l.mapM f with
      | none => rw [e2] at h; simp at h
      | some r => rw [e2] at h; simp at h; subst h; exact .cons e (mapM_some e2)
section
variable {X : Cx} {hot : Option Nat} {pins : List (Addr × Obj)} {rho : Env} {mu : List Addr} {vh : VH} {sg : Sl} {H : Hp} {s : Shared}
theorem dpAll {n : Nat} (ih : ∀ v d x, toD n vh v = some d → RV X.K mu H v x → Dp X.K H x d ∧ d.canLay0 = true ∧ d.depth ≤ n) : ∀ {vs : List Val} {ds : List PyData} {xs : List V}, Paired (fun a b => toD n vh a = some b) vs ds → RVs X.K mu H vs xs →
    DpAll X.K H xs ds ∧ PyData.canLayAll0 ds = true ∧ PyData.depthAll ds ≤ n
  | _, _, _, .nil, .nil => ⟨.nil, rfl, Nat.zero_le _⟩
  | _, _, _, .cons e t, .cons r rt => by
    obtain ⟨a1, a2, a3⟩ := ih _ _ _ e r
    obtain ⟨b1, b2, b3⟩ := dpAll ih t rt
    exact ⟨.cons a1 b1, by rw [PyData.canLayAll0, a2, b2]; rfl, by rw [PyData.depthAll]; omega⟩
theorem RV.dp (S : Sm X hot pins rho mu vh sg H s) : ∀ (n : Nat) (v : Val) (d : PyData) (x : V), toD n vh v = some d → RV X.K mu H v x → Dp X.K H x d ∧ d.canLay0 = true ∧ d.depth ≤ n
  | 0, _, _, _, e, _ => by cases e
  | n + 1, v, d, x, e, r => by
    cases r with
    | non => cases e; exact ⟨.non, rfl, Nat.zero_le _⟩
    | bl b => cases e; exact ⟨.bl b, rfl, Nat.zero_le _⟩
    | int i => cases e; exact ⟨.int i, rfl, Nat.zero_le _⟩
    | str h => cases e; exact ⟨.str _, h.1, Nat.zero_le _⟩
    | tup h r =>
      rename_i a vs xs
      have e' : (vs.mapM (toD n vh)).map PyData.tuple = some d := e
      obtain ⟨ds, e1, rfl⟩ := Option.map_eq_some_iff.mp e'
      obtain ⟨a1, a2, a3⟩ := dpAll (RV.dp S n) (mapM_some e1) r
      exact ⟨.tup h a1, a2, by rw [PyData.depth]; omega⟩
    | glo x => cases e
    | ref h =>
      rename_i l a
      have e' : (match vh[l]? with
        | some (.lst vs) => (vs.mapM (toD n vh)).map PyData.list
        | some (.frz vs) => (vs.mapM (toD n vh)).map PyData.list
        | _ => none) = some d := e
      cases o : vh[l]? with
      | none => rw [o] at e'; cases e'
      | some u =>
        have ro := S.rel.obj l a u h o
        rw [o] at e'
        cases u with
        | lst vs =>
          obtain ⟨xs, h1, r1⟩ := ro
          obtain ⟨ds, e1, rfl⟩ := Option.map_eq_some_iff.mp (show (vs.mapM (toD n vh)).map PyData.list = some d from e')
          obtain ⟨a1, a2, a3⟩ := dpAll (RV.dp S n) (mapM_some e1) r1
          exact ⟨.lst (SqL.of h1) a1, a2, by rw [PyData.depth]; omega⟩
        | frz vs =>
          obtain ⟨xs, h1, r1⟩ := ro
          obtain ⟨ds, e1, rfl⟩ := Option.map_eq_some_iff.mp (show (vs.mapM (toD n vh)).map PyData.list = some d from e')
          obtain ⟨a1, a2, a3⟩ := dpAll (RV.dp S n) (mapM_some e1) r1
          exact ⟨.lst h1.sq a1, a2, by rw [PyData.depth]; omega⟩
        | dct t kvs => cases e'
        | ins c fs => cases e'
        | exo c fs => cases e'
        | xob c fs => cases e'
theorem RV.data (S : Sm X hot pins rho mu vh sg H s) {v : Val} {d : PyData} {x : V} (e : toD DEEP vh v = some d) (r : RV X.K mu H v x) : Dp X.K H x d ∧ SeqAt.shaped d = true := by
  obtain ⟨a, b, c⟩ := RV.dp S DEEP v d x e r
  have c' : d.depth ≤ 40 := c
  exact ⟨a, by show (d.canLay0 && decide (d.depth ≤ 64)) = true; rw [b, decide_eq_true (by omega)]; rfl⟩
/-- a plain value comes -/
theorem PQ.pure (S : Sm X hot pins rho mu vh sg H s) {Q : Val → VH → Prop} {v : Val} {x : V} (q : Q v vh) (r : RV X.K mu H v x) : PQ X mu vh H Q x H := ⟨v, vh, mu, q, S.rel, .refl _ _ _, r⟩
theorem RV.lst (S : Sm X hot pins rho mu vh sg H s) {l : Nat} {x : V} {vs : List Val} (r : RV X.K mu H (.ref l) x) (h : vh[l]? = some (.lst vs)) : ∃ a xs, x = .ref a ∧ mu[l]? = some a ∧ H a = some (.lst xs) ∧ RVs X.K mu H vs xs := by
  cases r with
  | ref e =>
    obtain ⟨xs, h1, r1⟩ := S.rel.obj l _ _ e h
    exact ⟨_, xs, rfl, e, h1, r1⟩
theorem RV.frz (S : Sm X hot pins rho mu vh sg H s) {l : Nat} {x : V} {vs : List Val} (r : RV X.K mu H (.ref l) x) (h : vh[l]? = some (.frz vs)) : ∃ a xs, x = .ref a ∧ mu[l]? = some a ∧ FrzL X.K H a xs ∧ RVs X.K mu H vs xs := by
  cases r with
  | ref e =>
    obtain ⟨xs, h1, r1⟩ := S.rel.obj l _ _ e h
    exact ⟨_, xs, rfl, e, h1, r1⟩
/-- a list that is read -/
theorem RV.seq (S : Sm X hot pins rho mu vh sg H s) {l : Nat} {x : V} {vs : List Val} (r : RV X.K mu H (.ref l) x) (h : vh[l]? = some (.lst vs) ∨ vh[l]? = some (.frz vs)) : ∃ a xs, x = .ref a ∧ mu[l]? = some a ∧ SqL X.K H a xs ∧ RVs X.K mu H vs xs := by
  rcases h with h | h
  · obtain ⟨a, xs, e, m, h1, r1⟩ := RV.lst S r h
    exact ⟨a, xs, e, m, SqL.of h1, r1⟩
  · obtain ⟨a, xs, e, m, h1, r1⟩ := RV.frz S r h
    exact ⟨a, xs, e, m, h1.sq, r1⟩
theorem len_app (x y : Str) : (x ++ y).length = x.length + y.length := by
  show (x.cps ++ y.cps).size = _
  rw [Array.size_append]; rfl
theorem strOk_iff (x : Str) : PyData.strOk x = true ↔ ∀ c ∈ x.cps.toList, c < 0x110000 := by
  unfold PyData.strOk
  rw [Array.all_eq_true']
  simp
theorem okS_app {x y : Str} (hx : okS x) (hy : okS y) (h : x.length + y.length ≤ LIM) : okS (x ++ y) := by
  have e : sizeLine = 16777216 := sizeLine_eq
  refine ⟨?_, by rw [len_app, e]; exact h⟩
  rw [strOk_iff]
  intro c hc
  have hc' : c ∈ (x.cps ++ y.cps).toList := hc
  rw [Array.toList_append, List.mem_append] at hc'
  rcases hc' with q | q
  · exact (strOk_iff x).mp hx.1 c q
  · exact (strOk_iff y).mp hy.1 c q
theorem okS_one {z : Str} {c : Nat} (hz : okS z) (h : c ∈ z.cps.toList) : okS ⟨#[c]⟩ := by
  refine ⟨(strOk_iff _).mpr fun d hd => ?_, by show 1 ≤ sizeLine; decide⟩
  have e : d = c := by simpa using hd
  subst e
  exact (strOk_iff z).mp hz.1 d h
theorem LIM_le {n : Nat} (h : n ≤ LIM) : n ≤ sizeLine := by rw [sizeLine_eq]; exact h
/-- a new list comes -/
theorem PQ.lst (S : Sm X hot pins rho mu vh sg H s) {Q : Val → VH → Prop} {vs : List Val} {xs : List V} {p : Addr} (q : Q (.ref vh.length) (vh ++ [.lst vs])) (r : RVs X.K mu H vs xs) (hp : H p = none) : PQ X mu vh H Q (.ref p) (upd H p (.lst xs)) := EQ.lst S q r hp
theorem PQ.tup (S : Sm X hot pins rho mu vh sg H s) {Q : Val → VH → Prop} {vs : List Val} {xs : List V} {p : Addr} (q : Q (.tup vs) vh) (r : RVs X.K mu H vs xs) (hp : H p = none) : PQ X mu vh H Q (.ref p) (upd H p (.tup xs)) := EQ.tup S q r hp
/-- a list is written -/
theorem PQ.write (S : Sm X hot pins rho mu vh sg H s) {Q : Val → VH → Prop} {l : Nat} {a : Addr} {vs vs' : List Val} {xs' : List V} {v : Val} {x : V} (hl : mu[l]? = some a) (ho : vh[l]? = some (.lst vs)) (r : RVs X.K mu H vs' xs')
    (q : Q v (vh.set l (.lst vs'))) (rv : RV X.K mu H v x) : PQ X mu vh H Q x (upd H a (.lst xs')) := by
  obtain ⟨ys, e, _⟩ := S.rel.obj l a _ hl ho
  have g : Gro mu H mu (upd H a (.lst xs')) := Gro.write e trivial
  exact ⟨v, _, mu, q, S.rel.write hl ho rfl (o' := .lst vs') ⟨xs', upd_same, r.gro g⟩ rfl, Ex.write e trivial hl ho rfl, rv.gro g⟩
end

/-! ### the operators -/
theorem W_ok {α : Type} {a : α} {h : VH} {Q : α → VH → Prop} {E : Str → Flds → VH → Prop} : (Out.ok a h).W Q E = Q a h := rfl
theorem RVs.ne_nil {K : PySem.W.Frag} {mu : List Addr} {H : Hp} {vs : List Val} {xs : List V} (r : RVs K mu H vs xs) : vs = [] ↔ xs = [] := by
  cases r <;> simp
def rAdd (K : PySem.W.Frag) : R2 := fun x y H Q => rI0 (fun i j => .int (i + j)) x y H Q ∨ (∃ i j, x = .str i ∧ y = .str j ∧ i.length + j.length ≤ sizeLine ∧ Q (.str (i ++ j)) H) ∨ rCatA K x y H Q ∨ rCat x y H Q
theorem sim_add : SimV2 (fun _ => binaryOp .Add) Rm opAdd := by
  refine simV2_of (r := fun X => rAdd X.K) (fun cfg X _ => op_add.or (op_add_str.or (op_catA.or op_cat))) ?_
  intro X hot pins rho mu vh sg H s v w x y Q E S rv rw' q
  cases rv with
  | int i =>
    cases rw' with
    | int j => exact .inl ⟨i, j, rfl, rfl, PQ.pure S q (.int _)⟩
    | _ => exact q.elim
  | str hx =>
    cases rw' with
    | str hy =>
      rename_i x y
      have q' : (if x.length + y.length ≤ LIM then Out.ok (.str (x ++ y)) vh else .bad : Out Val).W Q E := q
      by_cases hl : x.length + y.length ≤ LIM
      · rw [if_pos hl] at q'
        exact .inr (.inl ⟨x, y, rfl, rfl, LIM_le hl, PQ.pure S q' (.str (okS_app hx hy hl))⟩)
      · rw [if_neg hl] at q'; exact q'.elim
    | _ => exact q.elim
  | tup ha ra =>
    cases rw' with
    | tup hb rb =>
      rename_i a vs xs b ws ys
      have q' : (if vs.length + ws.length ≤ LIM then Out.ok (.tup (vs ++ ws)) vh else .bad : Out Val).W Q E := q
      by_cases hl : vs.length + ws.length ≤ LIM
      · rw [if_pos hl] at q'
        refine .inr (.inr (.inl ⟨a, b, xs, ys, rfl, rfl, ha, hb, by rw [← ra.length, ← rb.length]; exact LIM_le hl, fun e => ?_, fun _ e => ?_, fun _ _ p hp => ?_⟩))
        · have e' := ra.ne_nil.mpr e
          subst e'
          exact PQ.pure S q' (.tup hb rb)
        · have e' := rb.ne_nil.mpr e
          subst e'
          rw [List.append_nil] at q'
          exact PQ.pure S q' (.tup ha ra)
        · exact PQ.tup S q' (ra.app rb) hp
      · rw [if_neg hl] at q'; exact q'.elim
    | _ => exact q.elim
  | ref e =>
    rename_i l a
    cases rw' with
    | ref e2 =>
      rename_i m b
      have q' : (match vh[l]?, vh[m]? with
        | some (.lst x), some (.lst y) => if x.length + y.length ≤ LIM then .ok (.ref vh.length) (vh ++ [.lst (x ++ y)]) else .bad
        | _, _ => .bad : Out Val).W Q E := q
      split at q'
      · rename_i vs ws h1 h2
        split at q'
        · rename_i hl
          obtain ⟨_, xs, e3, _, h3, r3⟩ := RV.lst S (.ref e) h1
          obtain ⟨_, ys, e4, _, h4, r4⟩ := RV.lst S (.ref e2) h2
          cases e3; cases e4
          exact .inr (.inr (.inr ⟨a, b, xs, ys, rfl, rfl, h3, h4, by rw [← r3.length, ← r4.length]; exact LIM_le hl, fun p hp => PQ.lst S q' (r3.app r4) hp⟩))
        · exact q'.elim
      · exact q'.elim
    | _ => exact q.elim
  | non => exact q.elim
  | bl b => exact q.elim
  | glo x => exact q.elim
theorem sim_int2 {f : Cx → Value → Value → Sem Value} {op : Val → Val → VH → Out Val} {C : Int → Int → Prop} {g : Int → Int → V} {g' : Int → Int → Val} (hr : ∀ cfg X, Rm cfg X → OpR X (f X) (rI C g)) (hg : ∀ (K : PySem.W.Frag) mu H i j, RV K mu H (g' i j) (g i j))
    (h : ∀ v w vh Q E, (op v w vh).W Q E → ∃ i j, v = .int i ∧ w = .int j ∧ C i j ∧ Q (g' i j) vh) : SimV2 f Rm op := by
  refine simV2_of (r := fun _ => rI C g) hr ?_
  intro X hot pins rho mu vh sg H s v w x y Q E S rv rw' q
  obtain ⟨i, j, rfl, rfl, c, q⟩ := h v w vh Q E q
  cases rv
  cases rw'
  exact ⟨i, j, rfl, rfl, c, PQ.pure S q (hg _ _ _ _ _)⟩
theorem op_of0 {X : Cx} {f : Value → Value → Sem Value} {g : Int → Int → V} (h : OpR X f (rI0 g)) : OpR X f (rI (fun _ _ => True) g) := by
  intro pins s sg H x y v u Q I rx ry q
  obtain ⟨i, j, a, b, _, q⟩ := q
  exact h pins s sg H x y v u Q I rx ry ⟨i, j, a, b, q⟩
theorem sim_sub : SimV2 (fun _ => binaryOp .Sub) Rm opSub := sim_int2 (g' := fun i j => .int (i - j)) (fun _ _ _ => op_of0 op_sub) (fun _ _ _ _ _ => .int _) fun v w vh Q E q => by
  cases v <;> cases w <;> first | exact q.elim | exact ⟨_, _, rfl, rfl, trivial, q⟩
theorem sim_mod : SimV2 (fun _ => binaryOp .Mod) Rm opMod := sim_int2 (g' := fun i j => .int (i % j)) (fun _ _ _ => op_mod) (fun _ _ _ _ _ => .int _) fun v w vh Q E q => by
  cases v <;> cases w <;> first
    | exact q.elim
    | (rename_i i j
       have q' : (if 0 < j then Out.ok (.int (i % j)) vh else .bad : Out Val).W Q E := q
       split at q'
       · exact ⟨i, j, rfl, rfl, ‹_›, q'⟩
       · exact q'.elim)
theorem sim_div : SimV2 (fun _ => binaryOp .FloorDiv) Rm opDiv := sim_int2 (g' := fun i j => .int (i / j)) (fun _ _ _ => op_fdivW) (fun _ _ _ _ _ => .int _) fun v w vh Q E q => by
  cases v <;> cases w <;> first
    | exact q.elim
    | (rename_i i j
       have q' : (if 0 < j ∧ j.natAbs.log2 < 9000 then Out.ok (.int (i / j)) vh else .bad : Out Val).W Q E := q
       split at q'
       · exact ⟨i, j, rfl, rfl, ‹_›, q'⟩
       · exact q'.elim)
theorem sim_pow : SimV2 (fun _ => binaryOp .Pow) Rm opPow := sim_int2 (g' := fun i j => .int (i ^ j.toNat)) (fun _ _ _ => op_pow) (fun _ _ _ _ _ => .int _) fun v w vh Q E q => by
  cases v <;> cases w <;> first
    | exact q.elim
    | (rename_i i j
       have q' : (if 0 ≤ j ∧ j ≤ 1000000 ∧ i.natAbs < 2 ^ 64 then Out.ok (.int (i ^ j.toNat)) vh else .bad : Out Val).W Q E := q
       split at q'
       · exact ⟨i, j, rfl, rfl, ‹_›, q'⟩
       · exact q'.elim)
def rMul (K : PySem.W.Frag) : R2 := fun x y H Q => rI CMulW (fun i j => .int (i * j)) x y H Q ∨ rRepT K x y H Q ∨ rRep x y H Q
theorem sim_mul : SimV2 (fun _ => binaryOp .Mult) Rm opMul := by
  refine simV2_of (r := fun X => rMul X.K) (fun cfg X _ => op_mulW.or (op_repT.or op_rep)) ?_
  intro X hot pins rho mu vh sg H s v w x y Q E S rv rw' q
  cases rw' with
  | int j =>
    cases rv with
    | int i =>
      have q' : (if i.natAbs.log2 + j.natAbs.log2 < 900000 then Out.ok (.int (i * j)) vh else .bad : Out Val).W Q E := q
      split at q'
      · exact .inl ⟨i, j, rfl, rfl, (by show _ < 1000000; omega), PQ.pure S q' (.int _)⟩
      · exact q'.elim
    | tup ha ra =>
      rename_i a vs xs
      have q' : (if vs ≠ [] ∧ 2 ≤ j ∧ j ≤ 1000 ∧ vs.length ≤ 1000 then .ok (.tup (repN j.toNat vs)) vh else .bad : Out Val).W Q E := q
      split at q'
      · rename_i c
        exact .inr (.inl ⟨a, j, xs, rfl, rfl, ha, fun e => c.1 (ra.ne_nil.mpr e), c.2.1, c.2.2.1, by rw [← ra.length]; exact c.2.2.2, fun p hp => PQ.tup S q' (ra.rep _) hp⟩)
      · exact q'.elim
    | ref e =>
      rename_i l a
      have q' : (match vh[l]? with
        | some (.lst x) => if x.length * j.toNat ≤ LIM ∧ j < 2 ^ 62 ∧ -(2 ^ 62) < j then .ok (.ref vh.length) (vh ++ [.lst (repN j.toNat x)]) else .bad
        | _ => .bad : Out Val).W Q E := q
      split at q'
      · rename_i vs h1
        split at q'
        · rename_i c
          obtain ⟨_, xs, e3, _, h3, r3⟩ := RV.lst S (.ref e) h1
          cases e3
          exact .inr (.inr ⟨a, j, xs, rfl, rfl, h3, by omega, by omega, by rw [← r3.length]; exact LIM_le c.1, fun p hp => PQ.lst S q' (r3.rep _) hp⟩)
        · exact q'.elim
      · exact q'.elim
    | non => exact q.elim
    | bl b => exact q.elim
    | str h => exact q.elim
    | glo x => exact q.elim
  | _ => cases rv <;> exact q.elim
theorem sim_lt : SimV2 (fun _ => compareOp .Lt) Rm opLt := sim_int2 (g' := fun i j => .bl (decide (i < j))) (fun _ _ _ => op_of0 op_lt) (fun _ _ _ _ _ => .bl _) fun v w vh Q E q => by
  cases v <;> cases w <;> first | exact q.elim | exact ⟨_, _, rfl, rfl, trivial, q⟩
theorem sim_le : SimV2 (fun _ => compareOp .LtE) Rm opLe := sim_int2 (g' := fun i j => .bl (decide (i ≤ j))) (fun _ _ _ => op_of0 op_le) (fun _ _ _ _ _ => .bl _) fun v w vh Q E q => by
  cases v <;> cases w <;> first | exact q.elim | exact ⟨_, _, rfl, rfl, trivial, q⟩
theorem sim_gt : SimV2 (fun _ => compareOp .Gt) Rm opGt := sim_int2 (g' := fun i j => .bl (decide (j < i))) (fun _ _ _ => op_of0 op_gt) (fun _ _ _ _ _ => .bl _) fun v w vh Q E q => by
  cases v <;> cases w <;> first | exact q.elim | exact ⟨_, _, rfl, rfl, trivial, q⟩
theorem sim_ge : SimV2 (fun _ => compareOp .GtE) Rm opGe := sim_int2 (g' := fun i j => .bl (decide (j ≤ i))) (fun _ _ _ => op_of0 op_ge) (fun _ _ _ _ _ => .bl _) fun v w vh Q E q => by
  cases v <;> cases w <;> first | exact q.elim | exact ⟨_, _, rfl, rfl, trivial, q⟩
theorem sim_eq : SimV2 (fun _ => compareOp .Eq) Rm opEq := by
  refine simV2_of (r := fun X => rEqD X.K) (fun cfg X R => op_eqD (by have := R.un; omega)) ?_
  intro X hot pins rho mu vh sg H s v w x y Q E S rv rw' q
  unfold opEq at q
  split at q
  · rename_i d e h1 h2
    obtain ⟨a1, a2⟩ := RV.data S h1 rv
    obtain ⟨b1, b2⟩ := RV.data S h2 rw'
    exact ⟨d, e, a1, b1, a2, b2, PQ.pure S q (.bl _)⟩
  · exact q.elim
theorem sim_ne : SimV2 (fun _ => compareOp .NotEq) Rm opNe := by
  refine simV2_of (r := fun X => rNeD X.K) (fun cfg X R => op_neD (by have := R.un; omega)) ?_
  intro X hot pins rho mu vh sg H s v w x y Q E S rv rw' q
  unfold opNe at q
  split at q
  · rename_i d e h1 h2
    obtain ⟨a1, a2⟩ := RV.data S h1 rv
    obtain ⟨b1, b2⟩ := RV.data S h2 rw'
    exact ⟨d, e, a1, b1, a2, b2, PQ.pure S q (.bl _)⟩
  · exact q.elim
theorem RV.non_iff {K : PySem.W.Frag} {mu : List Addr} {H : Hp} {v : Val} {x : V} (r : RV K mu H v x) : decide (x = .non) = decide (v = .non) := by
  cases r <;> simp
theorem sim_is : SimV2 (fun _ => compareOp .Is) Rm opIs := by
  refine simV2_of (fun cfg X R => op_isN) ?_
  intro X hot pins rho mu vh sg H s v w x y Q E S rv rw' q
  cases rw' with
  | non => exact ⟨rfl, by rw [rv.non_iff]; exact PQ.pure S q (.bl _)⟩
  | _ => exact q.elim
theorem sim_isnot : SimV2 (fun _ => compareOp .IsNot) Rm opIsNot := by
  refine simV2_of (fun cfg X R => op_notN) ?_
  intro X hot pins rho mu vh sg H s v w x y Q E S rv rw' q
  cases rw' with
  | non => exact ⟨rfl, by rw [rv.non_iff]; exact PQ.pure S q (.bl _)⟩
  | _ => exact q.elim
end Pv
end
/-! PvOps2 -/
section
set_option Elab.async false
set_option linter.all false
set_option maxRecDepth 100000
set_option autoImplicit false
/-! Pv: in, indices, slices, len. -/
namespace Pv
open PySem PySem.Spec PyProof.Rows L2
section
variable {K : PySem.W.Frag} {mu : List Addr} {H : Hp}
theorem flat_of {v : Val} {x : V} {d : PyData} (r : RV K mu H v x) (h : flatD v = some d) : flatV x = true := by
  cases r <;> first | rfl | cases h
theorem flat_eqv {v w : Val} {x y : V} {d e : PyData} (r : RV K mu H v x) (t : RV K mu H w y) (h : flatD v = some d) (h2 : flatD w = some e) : eqV x y = PyData.eqv d e := by
  cases r <;> first
    | (cases h; cases t <;> first
        | (cases h2; simp [eqV, PyData.eqv])
        | cases h2)
    | cases h
theorem flats_of {w : Val} {y : V} {e : PyData} (t : RV K mu H w y) (h2 : flatD w = some e) : ∀ {vs : List Val} {ds : List PyData} {xs : List V}, Paired (fun a b => flatD a = some b) vs ds → RVs K mu H vs xs →
    xs.all flatV = true ∧ inV y xs = ds.any fun z => PyData.eqv z e
  | _, _, _, .nil, .nil => ⟨rfl, rfl⟩
  | _, _, _, .cons h p, .cons r rt => by
    obtain ⟨a, b⟩ := flats_of t h2 p rt
    refine ⟨by rw [List.all_cons, flat_of r h, a]; rfl, ?_⟩
    have b' : (_ : List V).any (fun y' => eqV y' y) = _ := b
    show List.any (_ :: _) _ = _
    rw [List.any_cons, List.any_cons, b', flat_eqv r t h h2]
end
section
variable {X : Cx} {hot : Option Nat} {pins : List (Addr × Obj)} {rho : Env} {mu : List Addr} {vh : VH} {sg : Sl} {H : Hp} {s : Shared}
theorem rin_of (S : Sm X hot pins rho mu vh sg H s) {v w : Val} {x y : V} {k : Bool} (rv : RV X.K mu H v x) (rw' : RV X.K mu H w y) (e : isIn v w vh = some k) :
    (∃ (c : Nat) (z : Str), x = .str ⟨#[c]⟩ ∧ y = .str z ∧ k = decide (c ∈ z.cps.toList)) ∨ (∃ p xs, y = .ref p ∧ (SqL X.K H p xs ∨ SqT X.K H p xs) ∧ flatV x = true ∧ xs.all flatV = true ∧ k = inV x xs) ∨
      ∃ d ds, Dp X.K H x d ∧ Dp X.K H y (.list ds) ∧ SeqAt.shaped d = true ∧ SeqAt.shaped (.list ds) = true ∧ k = ds.any fun z => PyData.eqv z d := by
  cases rw' with
  | str hz =>
    rename_i z
    cases rv with
    | str hx =>
      rename_i c
      have e' : (if c.cps.size = 1 then some (decide (c.cps.getD 0 0 ∈ z.cps.toList)) else none) = some k := e
      split at e'
      · rename_i h1
        refine .inl ⟨c.cps.getD 0 0, z, ?_, rfl, (Option.some.inj e').symm⟩
        obtain ⟨⟨l⟩⟩ := c
        cases l with
        | nil => cases h1
        | cons a t => cases t with
          | nil => rfl
          | cons b t => simp at h1
      · cases e'
    | _ => cases e
  | tup h r =>
    rename_i a vs xs
    have e' : (match flatD v, vs.mapM flatD with
      | some d, some ds => some (ds.any fun z => PyData.eqv z d)
      | _, _ => none) = some k := e
    split at e'
    · rename_i d ds h1 h2
      obtain ⟨b1, b2⟩ := flats_of rv h1 (mapM_some h2) r
      exact .inr (.inl ⟨a, xs, rfl, .inr h, flat_of rv h1, b1, by rw [b2]; exact (Option.some.inj e').symm⟩)
    · cases e'
  | ref h =>
    rename_i l a
    have e' : (match vh[l]? with
      | some (.lst vs) => match toD DEEP vh v, vs.mapM (toD DEEP vh) with
        | some d, some ds => some (ds.any fun z => PyData.eqv z d)
        | _, _ => none
      | _ => none) = some k := e
    split at e'
    · rename_i vs h1
      split at e'
      · rename_i d ds h2 h3
        obtain ⟨a1, a2⟩ := RV.data S h2 rv
        obtain ⟨_, xs, e3, _, h4, r4⟩ := RV.lst S (.ref h) h1
        cases e3
        obtain ⟨b1, b2, b3⟩ := dpAll (RV.dp S DEEP) (mapM_some h3) r4
        have b3' : PyData.depthAll ds ≤ 40 := b3
        refine .inr (.inr ⟨d, ds, a1, .lst (SqL.of h4) b1, a2, ?_, (Option.some.inj e').symm⟩)
        show (PyData.canLay0 (.list ds) && decide (PyData.depth (.list ds) ≤ 64)) = true
        rw [PyData.canLay0, b2, PyData.depth, decide_eq_true (by omega)]; rfl
      · cases e'
    · cases e'
  | _ => cases e
end
theorem sim_in : SimV2 (fun _ => compareOp .In) Rm opIn := by
  refine simV2_of (fun cfg X R => op_in_sign.or (op_in_seq.or (op_inD (by have := R.un; omega)))) ?_
  intro X hot pins rho mu vh sg H s v w x y Q E S rv rw' q
  have q' : ((got (isIn v w vh) vh).bind fun k h => Out.ok (.bl k) h).W Q E := q
  rw [Out.W_bind] at q'
  obtain ⟨k, e, q2⟩ := got_W q'
  have f := PQ.pure S (v := .bl k) q2 (.bl k)
  rcases rin_of S rv rw' e with ⟨c, z, rfl, rfl, rfl⟩ | ⟨p, xs, rfl, a, b, c, rfl⟩ | ⟨d, ds, a, b, c, e2, rfl⟩
  · exact .inl ⟨c, z, rfl, rfl, f⟩
  · exact .inr (.inl ⟨p, xs, rfl, a, b, c, f⟩)
  · exact .inr (.inr ⟨d, ds, a, b, c, e2, f⟩)
theorem sim_notin : SimV2 (fun _ => compareOp .NotIn) Rm opNotIn := by
  refine simV2_of (fun cfg X R => op_notIn_sign.or (op_notIn_seq.or (op_notInD (by have := R.un; omega)))) ?_
  intro X hot pins rho mu vh sg H s v w x y Q E S rv rw' q
  have q' : ((got (isIn v w vh) vh).bind fun k h => Out.ok (.bl (!k)) h).W Q E := q
  rw [Out.W_bind] at q'
  obtain ⟨k, e, q2⟩ := got_W q'
  have f := PQ.pure S (v := .bl (!k)) q2 (.bl _)
  rcases rin_of S rv rw' e with ⟨c, z, rfl, rfl, rfl⟩ | ⟨p, xs, rfl, a, b, c, rfl⟩ | ⟨d, ds, a, b, c, e2, rfl⟩
  · exact .inl ⟨c, z, rfl, rfl, f⟩
  · exact .inr (.inl ⟨p, xs, rfl, a, b, c, f⟩)
  · exact .inr (.inr ⟨d, ds, a, b, c, e2, f⟩)

/-! ### indices -/
theorem RVs.atI {K : PySem.W.Frag} {mu : List Addr} {H : Hp} {vs : List Val} {xs : List V} {i : Int} {v : Val} (r : RVs K mu H vs xs) (h : L2.atI vs i = some v) : ∃ x, L2.atI xs i = some x ∧ RV K mu H v x := by
  unfold L2.atI at h ⊢
  rw [r.length] at h
  cases e : ixN xs.length i with
  | none => rw [e] at h; cases h
  | some j =>
    rw [e] at h
    exact r.get h
/-- an index, by its value -/
def plainIx : Expr → Bool
  | .Slice .. => false
  | .Tuple .. => false
  | _ => true
section
variable {G : World'} {c : Sc} {a b : Expr} {ma mb : Tm} {pos : Pos}
theorem simE_idx (hG : ∀ cfg X, G cfg X → Rm cfg X) (ha : SimE G c a ma) (hb : SimE G c b mb) (hs : PlainIx b) : SimE G c (.Subscript a b pos) (eOp opIdx ma mb) := .mk <| by
  intro cfg X g xi pins rho mu vh sg H s Q E S W q
  refine Subscript_ (bin2 ha hb g xi S W q fun v w vh1 x y mu1 H1 u t s1 S1 g1 rv rw' ru rt q1 => ?_)
  have key : rIx X.K x y H1 (PQ X mu1 vh1 H1 Q) := by
    cases rw' with
    | int i =>
      cases rv with
      | tup h r =>
        obtain ⟨z, e, q2⟩ := got_W (show (got (L2.atI _ i) vh1).W Q E from q1)
        obtain ⟨x, e2, r2⟩ := r.atI e
        exact .inr (.inl ⟨_, _, i, x, rfl, rfl, h, e2, PQ.pure S1 q2 r2⟩)
      | str h =>
        rename_i z
        have q2 : ((got (L2.atI z.cps.toList i) vh1).bind fun c h => Out.ok (.str ⟨#[c]⟩) h).W Q E := q1
        rw [Out.W_bind] at q2
        obtain ⟨d, e, q3⟩ := got_W q2
        refine .inr (.inr ⟨z, i, d, rfl, rfl, h.2, e, PQ.pure S1 (v := .str ⟨#[d]⟩) q3 (.str (okS_one h ?_))⟩)
        obtain ⟨j, _, h2, _⟩ := atI_get e
        exact List.mem_of_getElem? h2
      | ref h =>
        rename_i l p
        have q2 : (match vh1[l]? with
          | some (.lst vs) => got (L2.atI vs i) vh1
          | some (.frz vs) => got (L2.atI vs i) vh1
          | _ => .bad : Out Val).W Q E := q1
        split at q2
        · rename_i vs h1
          obtain ⟨z, e, q2⟩ := got_W q2
          obtain ⟨_, xs, e3, _, h4, r4⟩ := RV.seq S1 (.ref h) (.inl h1)
          cases e3
          obtain ⟨x, e2, r2⟩ := r4.atI e
          exact .inl ⟨_, _, i, x, rfl, rfl, h4, e2, PQ.pure S1 q2 r2⟩
        · rename_i vs h1
          obtain ⟨z, e, q2⟩ := got_W q2
          obtain ⟨_, xs, e3, _, h4, r4⟩ := RV.seq S1 (.ref h) (.inr h1)
          cases e3
          obtain ⟨x, e2, r2⟩ := r4.atI e
          exact .inl ⟨_, _, i, x, rfl, rfl, h4, e2, PQ.pure S1 q2 r2⟩
        · exact q2.elim
      | _ => exact q1.elim
    | _ => exact q1.elim
  exact thn (ix_seq (X := X) a b pins s1 sg H1 x y u t _ S1.inv ru rt key (hs _ _)) fun z s2 hz => EQ.from g1 (EQ.of S1 hz)
end
theorem plainIx_ok {b : Expr} (h : plainIx b = true) : PlainIx b := by
  intro o i
  cases b <;> first | rfl | cases h
end Pv
end
/-! PvCall -/
section
set_option Elab.async false
set_option linter.all false
set_option maxRecDepth 100000
set_option autoImplicit false
/-! Pv: slices, calls of built-ins by their names. -/
namespace Pv
open PySem PySem.Spec PyProof.Rows L2
/-- the built-ins' names that a program may call -/
def bnames : List Str := ["len", "list", "tuple", "all", "any", "sum", "max", "min", "str", "int", "range", "isinstance", "enumerate", "zip", "reversed", "sorted", "set", "dict", "repr", "bool", "ValueError", "LookupError"]
/-- what every world has -/
structure Wd (G : World') : Prop where
  rm : ∀ cfg X, G cfg X → Rm cfg X
  bl : ∀ cfg X, G cfg X → ∀ x ∈ bnames, X.mg x = none
  blk : ∀ cfg X s H scope cenv fp, G cfg X → G cfg (X.blk s H scope cenv fp)
  tr : ∀ cfg X pn xe, G cfg X → G cfg (X.tr pn xe)
  suite : ∀ (cfg : Cfg) X a pn l, cfg.hot = none → G cfg X → G { cfg with hot := some l } (X.suite a pn)
/-! ### slices -/
abbrev Tp := Cfg → Env → VH → Out (Option Int)
def pNone : Tp := fun _ _ h => .ok none h
def pSome (m : Tm) : Tp := fun c rho h => (m c rho h).bind fun v h => match v with
  | .int i => .ok (some i) h
  | _ => .bad
def eSl (a : Tm) (lo hi : Tp) : Tm := fun c rho h => (a c rho h).bind fun v h => (lo c rho h).bind fun l h => (hi c rho h).bind fun u h => opSl v l u h
def SimP (G : World') (c : Sc) (e : Option Expr) (m : Tp) : Prop :=
  ∀ (cfg : Cfg) (X : Cx), G cfg X → XIn c X → ∀ (pins : List (Addr × Obj)) (rho : Env) (mu : List Addr) (vh : VH) (sg : Sl) (H : Hp) (s : Shared) (Q : Option Int → VH → Prop) (E : Str → Flds → VH → Prop),
    Sm X cfg.hot pins rho mu vh sg H s → Wish X rho mu vh H E → (m cfg rho vh).W Q E →
      wpAny (model X.prog X.w) X.A (evalPart e X.env) (fun u s' => ∃ o vh' mu' H', Sm X cfg.hot pins rho mu' vh' sg H' s' ∧ Ex mu vh H mu' vh' H' ∧ IsPart u o ∧ Q o vh') X.xe s
section
variable {G : World'} {c : Sc} {a b : Expr} {ma mb : Tm} {pos : Pos}
theorem simP_none : SimP G c none pNone := by
  intro cfg X g xi pins rho mu vh sg H s Q E S W q
  rw [evalPart_none]
  exact wpAny_pure ⟨none, vh, mu, H, S, .refl _ _ _, .none, q⟩
theorem simP_some (ha : SimE G c a ma) : SimP G c (some a) (pSome ma) := by
  intro cfg X g xi pins rho mu vh sg H s Q E S W q
  rw [evalPart_some]
  refine ha.then g xi S W q fun v vh1 x mu1 H1 u s1 S1 g1 rv r q1 => ?_
  cases rv with
  | int i =>
    obtain ⟨t, rfl⟩ := r
    exact ⟨some i, vh1, mu1, H1, S1, g1, .int i t, q1⟩
  | _ => exact q1.elim
theorem cutL_V (xs : List V) (lo hi : Option Int) : cutL xs lo hi = cutV xs lo hi := rfl
theorem RVs.cut {K : PySem.W.Frag} {mu : List Addr} {H : Hp} {vs : List Val} {xs : List V} (r : RVs K mu H vs xs) (lo hi : Option Int) : RVs K mu H (cutL vs lo hi) (cutV xs lo hi) := by
  unfold cutL cutV
  rw [r.length]
  exact (r.drop _).take _
theorem okS_cut {z : Str} (hz : okS z) (lo hi : Option Int) : okS ⟨(cutL z.cps.toList lo hi).toArray⟩ := by
  refine ⟨(strOk_iff _).mpr fun c hc => (strOk_iff z).mp hz.1 c ?_, ?_⟩
  · have hc' : c ∈ cutL z.cps.toList lo hi := by simpa using hc
    exact List.mem_of_mem_drop (List.mem_of_mem_take hc')
  · refine Nat.le_trans ?_ hz.2
    show (cutL z.cps.toList lo hi).toArray.size ≤ z.cps.size
    rw [List.size_toArray]
    unfold cutL
    rw [List.length_take, List.length_drop, Array.length_toList]
    omega
theorem simE_sl {lo hi : Option Expr} {ml mh : Tp} {p2 : Pos} (ha : SimE G c a ma) (hl : SimP G c lo ml) (hh : SimP G c hi mh) : SimE G c (.Subscript a (.Slice lo hi none p2) pos) (eSl ma ml mh) := .mk <| by
  intro cfg X g xi pins rho mu vh sg H s Q E S W q
  refine Subscript_ (ha.then g xi S W q fun v vh1 x mu1 H1 u s1 S1 g1 rv r q1 => ?_)
  rw [Out.W_bind] at q1
  refine wpAny_Slice (thn (hl cfg X g xi pins rho mu1 vh1 sg H1 s1 _ E S1 (W.from g1) q1) fun vl s2 h2 => ?_)
  obtain ⟨l, vh2, mu2, H2, S2, g2, pl, q2⟩ := h2
  rw [Out.W_bind] at q2
  refine thn (hh cfg X g xi pins rho mu2 vh2 sg H2 s2 _ E S2 (W.from (g1.trans g2)) q2) fun vu s3 h3 => ?_
  obtain ⟨n, vh3, mu3, H3, S3, g3, pu, q3⟩ := h3
  rw [evalPart_none]
  refine wpAny_pure ?_
  have I4 : Inv X pins sg H3 { s3 with heap := s3.heap.push { cls := .type "slice", data := .fields #[vl, vu, .none] } } := S3.inv.kept (t' := s3.toks) fun b ob q => Heap.get?_push_of_some _ q
  have S4 := S3.same I4
  have rv3 := rv.gro (g2.gro.trans g3.gro)
  have key : (rSlA X.K x l n H3 (PQ X mu3 vh3 H3 Q) ∨ rSlS x l n H3 (PQ X mu3 vh3 H3 Q)) ∨ rSlL X.K x l n H3 (PQ X mu3 vh3 H3 Q) := by
    cases rv3 with
    | tup h rr =>
      rename_i p vs xs
      refine .inl (.inl ⟨p, xs, rfl, h, fun hw => ?_, fun hw p hp => PQ.tup S4 q3 (rr.cut l n) hp⟩)
      have e : cutL vs l n = vs := by
        unfold cutL
        rw [rr.length, hw.1, hw.2, List.drop_zero, ← rr.length, Nat.sub_zero, List.take_length]
      have q4 : Q (.tup (cutL vs l n)) vh3 := q3
      rw [e] at q4
      exact PQ.pure S4 q4 (.tup h rr)
    | str h =>
      rename_i z
      exact .inl (.inr ⟨z, rfl, h.2, PQ.pure S4 (v := .str ⟨(cutL z.cps.toList l n).toArray⟩) q3 (by
        have e : cutS z l n = ⟨(cutL z.cps.toList l n).toArray⟩ := by
          unfold cutS cutL
          rw [Array.length_toList]
          rfl
        rw [e]
        exact .str (okS_cut h l n))⟩)
    | ref h =>
      rename_i k p
      have q4 : (match vh3[k]? with
        | some (.lst vs) => .ok (.ref vh3.length) (vh3 ++ [.lst (cutL vs l n)])
        | _ => .bad : Out Val).W Q E := q3
      split at q4
      · rename_i vs h1
        obtain ⟨_, xs, e3, _, h4, r4⟩ := RV.lst S4 (.ref h) h1
        cases e3
        exact .inr ⟨p, xs, rfl, SqL.of h4, fun p hp => PQ.lst S4 q4 (r4.cut l n) hp⟩
      · exact q4.elim
    | _ => exact q3.elim
  obtain ⟨T, id, hT, ht, hg⟩ := ((sl_tupA.or sl_str).or sl_list) pins _ sg H3 x u vl vu l n s3.heap.objs.size _ I4 r (Heap.IsSliceOf.new ..) pl pu key
  show wpAny (model X.prog X.w) X.A (subscriptTail a (.Slice lo hi none p2) u (.ref s3.heap.objs.size)) (EQ X cfg.hot pins rho mu vh sg H Q) X.xe { s3 with heap := s3.heap.push { cls := .type "slice", data := .fields #[vl, vu, .none] } }
  exact thn (tail_any (ops := [.ref s3.heap.objs.size, u]) ht hT hg (by with_unfolding_all rfl)) fun z s5 hz => EQ.from ((g1.trans g2).trans g3) (EQ.of S4 hz)
theorem simE_rev {k : Nat} {p1 p2 p3 : Pos} (ha : SimE G c a ma) : SimE G c (.Subscript a (.Slice none none (some (.UnaryOp .USub (.Constant (.int 1) k p1) p2)) p3) pos) (eUn opRev ma) := .mk <| by
  intro cfg X g xi pins rho mu vh sg H s Q E S W q
  refine Subscript_ (ha.then g xi S W q fun v vh1 x mu1 H1 u s1 S1 g1 rv r q1 => ?_)
  cases rv with
  | ref h =>
    rename_i l p
    have q4 : (match vh1[l]? with
      | some (.lst vs) => .ok (.ref vh1.length) (vh1 ++ [.lst vs.reverse])
      | _ => .bad : Out Val).W Q E := q1
    split at q4
    · rename_i vs h1
      obtain ⟨_, xs, e3, _, hx, r4⟩ := RV.lst S1 (.ref h) h1
      cases e3
      cases r
      have hst : PO X (some (.UnaryOp .USub (.Constant (.int 1) k p1) p2)) (tPart (tUn (rU fun i => .int (-i)) (tC (.int 1)))) := po_some (pe_un un_neg pe_int)
      refine wpAny_Slice (thn (po_none.run pins s1 sg H1 (fun o H2 => o = none ∧ H2 = H1) S1.inv ⟨rfl, rfl⟩) fun vl s2 ⟨l2, H2, I2, pl, el, e2⟩ => ?_)
      subst el e2
      refine thn (po_none.run pins s2 sg H2 (fun o H3 => o = none ∧ H3 = H2) I2 ⟨rfl, rfl⟩) fun vu s3 ⟨u3, H3, I3, pu, eu, e3⟩ => ?_
      subst eu e3
      refine thn (hst.run pins s3 sg H3 (fun o H4 => o = some (-1) ∧ H4 = H3) I3 ⟨1, rfl, -1, rfl, rfl, rfl⟩) fun vs' s4 ⟨o, H4, I4, ps, eo, e4⟩ => ?_
      subst eo e4
      have I5 : Inv X pins sg H4 { s4 with heap := s4.heap.push { cls := .type "slice", data := .fields #[vl, vu, vs'] } } := I4.kept (t' := s4.toks) fun b ob q => Heap.get?_push_of_some _ q
      have S5 := S1.same I5
      obtain ⟨its, r, ht, hz⟩ := I5.list (SqL.of hx)
      have hlen := r.length
      show wpAny (model X.prog X.w) X.A (subscriptTail a (.Slice none none (some (.UnaryOp .USub (.Constant (.int 1) k p1) p2)) p3) (.ref p) (.ref s4.heap.objs.size)) (EQ X cfg.hot pins rho mu vh sg H Q) X.xe { s4 with heap := s4.heap.push { cls := .type "slice", data := .fields #[vl, vu, vs'] } }
      refine tail_any (ops := [.ref p, .ref s4.heap.objs.size]) ht.isList.typeIs (PySem.slot_list_getitem.lookup) ?_ (by with_unfolding_all rfl)
      refine wpAny_getItem_list_slice ht.isList (Heap.IsSliceOf.new _ vl vu vs') pl pu ps (by decide) ?_ (by rw [List.size_toArray]; omega)
      rw [PySem.W.krv_pick]
      refine EQ.from g1 (EQ.of S5 ⟨.ref _, _, I5.laid (t' := s4.toks) (o := .lst xs.reverse) (fun b ob q => Heap.get?_push_of_some _ q) (Nat.le_refl _) ?_, rfl, PQ.lst S5 q4 r4.rev (I5.hok.fresh (Nat.le_refl _))⟩)
      exact ⟨by rw [List.length_reverse]; exact hz, _, 0, r.reverse, Heap.get?_push_size _ rfl⟩
    · exact q4.elim
  | _ => exact q1.elim

/-! ### calls of built-ins -/
theorem noStars {es : List Expr} {env : PySem.Env} {pos : Pos} (h : es.all noStar = true) : (backTo pos (starEach es env)).any (·.1) = false := by
  induction es with
  | nil => rfl
  | cons e es ih =>
    rw [List.all_cons, Bool.and_eq_true] at h
    rw [starEach_cons h.1]
    show (false || (backTo pos (starEach es env)).any (·.1)) = false
    rw [ih h.2]; rfl
def eCallB (op : List Val → VH → Out Val) (t : Ta) : Tm := fun c rho h => (t c rho h).bind fun vs h => op vs h
theorem simVs_of {f : Cx → List Value → Sem Value} {ok : Cfg → Cx → Prop} {op : List Val → VH → Out Val} {r : Cx → List V → Hp → VK → Prop} {fv : Value} (hf : ∀ X us, f X us = call fv us) (hr : ∀ cfg X, ok cfg X → CallR X fv (r X))
    (h : ∀ (cfg : Cfg) (X : Cx), ok cfg X → ∀ (pins : List (Addr × Obj)) (rho : Env) (mu : List Addr) (vh : VH) (sg : Sl) (H : Hp) (s : Shared) (vs : List Val) (xs : List V) (Q : Val → VH → Prop) (E : Str → Flds → VH → Prop),
      Sm X cfg.hot pins rho mu vh sg H s → RVs X.K mu H vs xs → (op vs vh).W Q E → r X xs H (PQ X mu vh H Q)) : SimVs f ok op := by
  intro cfg X k pins rho mu vh sg H s vs xs us Q E S rv ru q
  rw [hf]
  exact thn (hr cfg X k pins s sg H xs us (PQ X mu vh H Q) S.inv ru (h cfg X k pins rho mu vh sg H s vs xs Q E S rv q)) fun z s1 hz => EQ.of S hz
theorem simE_callB {x : Str} {e : Expr} {es : List Expr} {mt : Ta} {op : List Val → VH → Out Val} {id : String} {p : Pos} (w : Wd G) (hc : SimVs (fun _ us => call (.builtin id) us) Rm op) (hg : c.sc.names.lookup x = some .globalImplicit) (hm : x ∈ bnames) (hv : bootBuiltins x = some (.builtin id))
    (ha : SimA G c (e :: es) mt) (hs : (e :: es).all noStar = true) (hn : x ≠ "__name__") (hdb : (x == ("__debug__" : Str)) = false) : SimE G c (.Call (.Name x p) (e :: es) [] pos) (eCallB op mt) := .mk <| by
  intro cfg X g xi pins rho mu vh sg H s Q E S W q
  rw [List.all_cons, Bool.and_eq_true] at hs
  refine wpAny_Call_Name_kw (ld_blt S.inv (by show X.env.scope.names.lookup x = _; rw [xi.sc]; exact hg) (w.bl cfg X g x hm) hv ?_ hn hdb)
  exact PyProof.Rows.callWith_builtin1 (ha.then g xi S W q fun vs vh1 xs mu1 H1 us s1 S1 g1 rv r hl q1 => thn (hc cfg X (w.rm cfg X g) pins rho mu1 vh1 sg H1 s1 vs xs us Q E S1 rv r q1) fun z s2 hz => hz.from g1) (starEach_cons hs.1) (noStars hs.2)
theorem simE_callTy {x : Str} {e : Expr} {es : List Expr} {mt : Ta} {op : List Val → VH → Out Val} {T : String} {p : Pos} (w : Wd G) (hc : SimVs (fun _ us => call (.type T) us) Rm op) (hg : c.sc.names.lookup x = some .globalImplicit) (hm : x ∈ bnames) (hv : bootBuiltins x = some (.type T))
    (ha : SimA G c (e :: es) mt) (hs : (e :: es).all noStar = true) (hn : x ≠ "__name__") (hdb : (x == ("__debug__" : Str)) = false) : SimE G c (.Call (.Name x p) (e :: es) [] pos) (eCallB op mt) := .mk <| by
  intro cfg X g xi pins rho mu vh sg H s Q E S W q
  rw [List.all_cons, Bool.and_eq_true] at hs
  refine wpAny_Call_Name_kw (ld_blt S.inv (by show X.env.scope.names.lookup x = _; rw [xi.sc]; exact hg) (w.bl cfg X g x hm) hv ?_ hn hdb)
  exact PyProof.Rows.callWith_type1 (ha.then g xi S W q fun vs vh1 xs mu1 H1 us s1 S1 g1 rv r hl q1 => thn (hc cfg X (w.rm cfg X g) pins rho mu1 vh1 sg H1 s1 vs xs us Q E S1 rv r q1) fun z s2 hz => hz.from g1) (starEach_cons hs.1) (noStars hs.2)
end
end Pv
end
/-! PvBlt -/
section
set_option Elab.async false
set_option linter.all false
set_option maxRecDepth 100000
set_option autoImplicit false
/-! Pv: the built-ins are sound. -/
namespace Pv
open PySem PySem.Spec PyProof.Rows L2
section
variable {K : PySem.W.Frag} {mu : List Addr} {H : Hp}
theorem one_of {vs : List Val} {xs : List V} {v : Val} (r : RVs K mu H [v] xs) : ∃ x, xs = [x] ∧ RV K mu H v x := by
  cases r with
  | cons a t => cases t; exact ⟨_, rfl, a⟩
theorem two_of {xs : List V} {v w : Val} (r : RVs K mu H [v, w] xs) : ∃ x y, xs = [x, y] ∧ RV K mu H v x ∧ RV K mu H w y := by
  cases r with
  | cons a t =>
    cases t with
    | cons b t => cases t; exact ⟨_, _, rfl, a, b⟩
theorem boolL_of : ∀ {vs : List Val} {bs : List Bool} {xs : List V}, boolL vs = some bs → RVs K mu H vs xs → xs = bs.map V.bl
  | [], bs, xs, h, r => by cases h; cases r; rfl
  | v :: vs, bs, xs, h, r => by
    cases v with
    | bl b =>
      have h' : (boolL vs).map (b :: ·) = some bs := h
      obtain ⟨t, e, rfl⟩ := Option.map_eq_some_iff.mp h'
      cases r with
      | cons a rt => cases a; rw [boolL_of e rt]; rfl
    | _ => cases h
theorem intL_of : ∀ {vs : List Val} {bs : List Int} {xs : List V}, intL vs = some bs → RVs K mu H vs xs → xs = bs.map V.int
  | [], bs, xs, h, r => by cases h; cases r; rfl
  | v :: vs, bs, xs, h, r => by
    cases v with
    | int b =>
      have h' : (intL vs).map (b :: ·) = some bs := h
      obtain ⟨t, e, rfl⟩ := Option.map_eq_some_iff.mp h'
      cases r with
      | cons a rt => cases a; rw [intL_of e rt]; rfl
    | _ => cases h
theorem strL_of : ∀ {vs : List Val} {bs : List Str} {xs : List V}, strL vs = some bs → RVs K mu H vs xs → xs = bs.map V.str ∧ ∀ b ∈ bs, okS b
  | [], bs, xs, h, r => by cases h; cases r; exact ⟨rfl, by simp⟩
  | v :: vs, bs, xs, h, r => by
    cases v with
    | str b =>
      have h' : (strL vs).map (b :: ·) = some bs := h
      obtain ⟨t, e, rfl⟩ := Option.map_eq_some_iff.mp h'
      cases r with
      | cons a rt =>
        cases a with
        | str hb =>
          obtain ⟨e1, e2⟩ := strL_of e rt
          refine ⟨by rw [e1]; rfl, fun c hc => ?_⟩
          rcases List.mem_cons.mp hc with rfl | hc
          · exact hb
          · exact e2 c hc
    | _ => cases h
end
section
variable {X : Cx} {hot : Option Nat} {pins : List (Addr × Obj)} {rho : Env} {mu : List Addr} {vh : VH} {sg : Sl} {H : Hp} {s : Shared}
theorem RV.lstOf (S : Sm X hot pins rho mu vh sg H s) {v : Val} {x : V} {vs : List Val} (r : RV X.K mu H v x) (h : lstOf v vh = some vs) : ∃ a xs, x = .ref a ∧ SqL X.K H a xs ∧ RVs X.K mu H vs xs := by
  cases v with
  | ref l =>
    have h' : (match vh[l]? with
      | some (.lst vs) => some vs
      | some (.frz vs) => some vs
      | _ => none) = some vs := h
    split at h'
    · rename_i ws h1
      cases h'
      obtain ⟨a, xs, e, _, h2, r2⟩ := RV.seq S r (.inl h1)
      exact ⟨a, xs, e, h2, r2⟩
    · rename_i ws h1
      cases h'
      obtain ⟨a, xs, e, _, h2, r2⟩ := RV.seq S r (.inr h1)
      exact ⟨a, xs, e, h2, r2⟩
    · cases h'
  | _ => cases h
theorem RV.itemsOf (S : Sm X hot pins rho mu vh sg H s) {v : Val} {x : V} {vs : List Val} (r : RV X.K mu H v x) (h : itemsOf v vh = some vs) :
    (∃ a xs, x = .ref a ∧ SqL X.K H a xs ∧ RVs X.K mu H vs xs) ∨ ∃ a xs, v = .tup vs ∧ x = .ref a ∧ SqT X.K H a xs ∧ RVs X.K mu H vs xs := by
  cases v with
  | tup ws =>
    cases h
    cases r with
    | tup h r => exact .inr ⟨_, _, rfl, rfl, h, r⟩
  | ref l => exact .inl (RV.lstOf S r h)
  | _ => cases h
theorem RV.lenOf (S : Sm X hot pins rho mu vh sg H s) {v : Val} {x : V} {n : Nat} (r : RV X.K mu H v x) (h : lenOf v vh = some n) : LenV X.K x H n := by
  cases r with
  | str hx => cases h; exact ⟨hx.2, rfl⟩
  | tup ha ra => cases h; exact .inr ⟨_, ha, ra.length⟩
  | ref e =>
    rename_i l a
    have h' : (match vh[l]? with
      | some (.lst vs) => some vs.length
      | some (.frz vs) => some vs.length
      | _ => none) = some n := h
    split at h'
    · rename_i ws h1
      cases h'
      obtain ⟨_, xs, e3, _, h2, r2⟩ := RV.seq S (.ref e) (.inl h1)
      cases e3
      exact .inl ⟨xs, h2, r2.length⟩
    · rename_i ws h1
      cases h'
      obtain ⟨_, xs, e3, _, h2, r2⟩ := RV.seq S (.ref e) (.inr h1)
      cases e3
      exact .inl ⟨xs, h2, r2.length⟩
    · cases h'
  | _ => cases h
end
theorem sim_len : SimVs (fun _ us => call (.builtin "len") us) Rm bLen := by
  refine simVs_of (fun _ _ => rfl) (fun cfg X R => call_len) ?_
  intro cfg X R pins rho mu vh sg H s vs xs Q E S r q
  match vs, q with
  | [v], q =>
    obtain ⟨x, rfl, rv⟩ := one_of (vs := []) r
    have q' : ((got (lenOf v vh) vh).bind fun n h => Out.ok (.int n) h).W Q E := q
    rw [Out.W_bind] at q'
    obtain ⟨n, e, q2⟩ := got_W q'
    exact ⟨x, n, rfl, RV.lenOf S rv e, PQ.pure S (v := .int n) q2 (.int _)⟩
theorem sim_list : SimVs (fun _ us => call (.type "list") us) Rm bList := by
  refine simVs_of (fun _ _ => rfl) (fun cfg X R => call_list_of) ?_
  intro cfg X R pins rho mu vh sg H s vs xs Q E S r q
  match vs, q with
  | [v], q =>
    obtain ⟨x, rfl, rv⟩ := one_of (vs := []) r
    have q' : ((got (itemsOf v vh) vh).bind fun vs h => Out.ok (.ref h.length) (h ++ [.lst vs])).W Q E := q
    rw [Out.W_bind] at q'
    obtain ⟨ws, e, q2⟩ := got_W q'
    rcases RV.itemsOf S rv e with ⟨a, ys, rfl, h1, r1⟩ | ⟨a, ys, _, rfl, h1, r1⟩
    · exact ⟨a, ys, rfl, .inl h1, fun l hl => PQ.lst S q2 r1 hl⟩
    · exact ⟨a, ys, rfl, .inr h1, fun l hl => PQ.lst S q2 r1 hl⟩
theorem sim_tuple : SimVs (fun _ us => call (.type "tuple") us) Rm bTuple := by
  refine simVs_of (fun _ _ => rfl) (fun cfg X R => call_tuple_of) ?_
  intro cfg X R pins rho mu vh sg H s vs xs Q E S r q
  match vs, q with
  | [v], q =>
    obtain ⟨x, rfl, rv⟩ := one_of (vs := []) r
    have q' : ((got (itemsOf v vh) vh).bind fun vs h => Out.ok (.tup vs) h).W Q E := q
    rw [Out.W_bind] at q'
    obtain ⟨ws, e, q2⟩ := got_W q'
    rcases RV.itemsOf S rv e with ⟨a, ys, rfl, h1, r1⟩ | ⟨a, ys, e2, rfl, h1, r1⟩
    · exact ⟨a, ys, rfl, .inl ⟨h1, fun l hl => PQ.tup S q2 r1 hl⟩⟩
    · exact ⟨a, ys, rfl, .inr ⟨h1, PQ.pure S q2 (.tup h1 r1)⟩⟩
/-- built-ins that ask for a calm place -/
def calmB (hot : Option Nat) (op : List Val → VH → Out Val) : List Val → VH → Out Val := fun vs h => match hot with
  | none => op vs h
  | some _ => .bad
def SimVc (fv : Value) (op : List Val → VH → Out Val) : Prop :=
  ∀ (cfg : Cfg) (X : Cx), Rm cfg X → ∀ (pins : List (Addr × Obj)) (rho : Env) (mu : List Addr) (vh : VH) (sg : Sl) (H : Hp) (s : Shared) (vs : List Val) (xs : List V) (us : List Value) (Q : Val → VH → Prop) (E : Str → Flds → VH → Prop),
    Sm X cfg.hot pins rho mu vh sg H s → RVs X.K mu H vs xs → Vals xs us → (calmB cfg.hot op vs vh).W Q E → wpAny (model X.prog X.w) X.A (call fv us) (EQ X cfg.hot pins rho mu vh sg H Q) X.xe s
theorem simVc_of {op : List Val → VH → Out Val} {r : Cx → List V → Hp → VK → Prop} {fv : Value} (hr : ∀ X, X.calm = true → CallR X fv (r X))
    (h : ∀ (cfg : Cfg) (X : Cx), Rm cfg X → ∀ (pins : List (Addr × Obj)) (rho : Env) (mu : List Addr) (vh : VH) (sg : Sl) (H : Hp) (s : Shared) (vs : List Val) (xs : List V) (Q : Val → VH → Prop) (E : Str → Flds → VH → Prop),
      Sm X cfg.hot pins rho mu vh sg H s → RVs X.K mu H vs xs → (op vs vh).W Q E → r X xs H (PQ X mu vh H Q)) : SimVc fv op := by
  intro cfg X R pins rho mu vh sg H s vs xs us Q E S rv ru q
  cases e : cfg.hot with
  | some l => rw [e] at q; exact q.elim
  | none =>
    rw [e] at q
    rw [← e]
    exact thn (hr X (R.calm e) pins s sg H xs us (PQ X mu vh H Q) S.inv ru (h cfg X R pins rho mu vh sg H s vs xs Q E S rv q)) fun z s1 hz => EQ.of S hz
theorem sim_all : SimVc (.builtin "all") bAll := by
  refine simVc_of (fun X c => cr_all c) ?_
  intro cfg X R pins rho mu vh sg H s vs xs Q E S r q
  match vs, q with
  | [v], q =>
    obtain ⟨x, rfl, rv⟩ := one_of (vs := []) r
    have q' : ((got ((lstOf v vh).bind boolL) vh).bind fun bs h => Out.ok (.bl (bs.all id)) h).W Q E := q
    rw [Out.W_bind] at q'
    obtain ⟨bs, e, q2⟩ := got_W q'
    obtain ⟨ws, e1, e2⟩ := Option.bind_eq_some_iff.mp e
    obtain ⟨a, ys, rfl, h1, r1⟩ := RV.lstOf S rv e1
    exact ⟨a, bs, rfl, by rw [← boolL_of e2 r1]; exact h1, PQ.pure S (v := .bl (bs.all id)) q2 (.bl _)⟩
theorem sim_any : SimVc (.builtin "any") bAny := by
  refine simVc_of (fun X c => cr_any c) ?_
  intro cfg X R pins rho mu vh sg H s vs xs Q E S r q
  match vs, q with
  | [v], q =>
    obtain ⟨x, rfl, rv⟩ := one_of (vs := []) r
    have q' : ((got ((lstOf v vh).bind boolL) vh).bind fun bs h => Out.ok (.bl (bs.any id)) h).W Q E := q
    rw [Out.W_bind] at q'
    obtain ⟨bs, e, q2⟩ := got_W q'
    obtain ⟨ws, e1, e2⟩ := Option.bind_eq_some_iff.mp e
    obtain ⟨a, ys, rfl, h1, r1⟩ := RV.lstOf S rv e1
    exact ⟨a, bs, rfl, by rw [← boolL_of e2 r1]; exact h1, PQ.pure S (v := .bl (bs.any id)) q2 (.bl _)⟩
theorem sim_sum : SimVc (.builtin "sum") bSum := by
  refine simVc_of (fun X c => cr_sum c) ?_
  intro cfg X R pins rho mu vh sg H s vs xs Q E S r q
  match vs, q with
  | [v], q =>
    obtain ⟨x, rfl, rv⟩ := one_of (vs := []) r
    have q' : ((got ((lstOf v vh).bind intL) vh).bind fun bs h => Out.ok (.int bs.sum) h).W Q E := q
    rw [Out.W_bind] at q'
    obtain ⟨bs, e, q2⟩ := got_W q'
    obtain ⟨ws, e1, e2⟩ := Option.bind_eq_some_iff.mp e
    obtain ⟨a, ys, rfl, h1, r1⟩ := RV.lstOf S rv e1
    exact ⟨a, bs, rfl, by rw [← intL_of e2 r1]; exact h1, PQ.pure S (v := .int bs.sum) q2 (.int _)⟩
theorem maxI_mem : ∀ {ns : List Int}, ns ≠ [] → maxI ns ∈ ns ∧ ∀ y ∈ ns, y ≤ maxI ns
  | [], h => absurd rfl h
  | [a], _ => by simp [maxI]
  | a :: b :: r, _ => by
    obtain ⟨h1, h2⟩ := maxI_mem (ns := b :: r) (by simp)
    have e : maxI (a :: b :: r) = max a (maxI (b :: r)) := rfl
    rw [e]
    refine ⟨?_, fun y hy => ?_⟩
    · by_cases h : a ≤ maxI (b :: r)
      · rw [Int.max_eq_right h]; exact List.mem_cons_of_mem _ h1
      · rw [Int.max_eq_left (by omega)]; exact List.mem_cons_self
    · rcases List.mem_cons.mp hy with rfl | hy
      · exact Int.le_max_left _ _
      · exact Int.le_trans (h2 y hy) (Int.le_max_right _ _)
theorem minI_mem : ∀ {ns : List Int}, ns ≠ [] → minI ns ∈ ns ∧ ∀ y ∈ ns, minI ns ≤ y
  | [], h => absurd rfl h
  | [a], _ => by simp [minI]
  | a :: b :: r, _ => by
    obtain ⟨h1, h2⟩ := minI_mem (ns := b :: r) (by simp)
    have e : minI (a :: b :: r) = min a (minI (b :: r)) := rfl
    rw [e]
    refine ⟨?_, fun y hy => ?_⟩
    · by_cases h : a ≤ minI (b :: r)
      · rw [Int.min_eq_left h]; exact List.mem_cons_self
      · rw [Int.min_eq_right (by omega)]; exact List.mem_cons_of_mem _ h1
    · rcases List.mem_cons.mp hy with rfl | hy
      · exact Int.min_le_left _ _
      · exact Int.le_trans (Int.min_le_right _ _) (h2 y hy)
theorem CallR.or {X : Cx} {f : Value} {r r' : List V → Hp → VK → Prop} (h : CallR X f r) (h' : CallR X f r') : CallR X f (fun xs H Q => r xs H Q ∨ r' xs H Q) := by
  intro pins s sg H xs us Q I ru q
  rcases q with q | q
  · exact h pins s sg H xs us Q I ru q
  · exact h' pins s sg H xs us Q I ru q
theorem sim_max : SimVc (.builtin "max") bMax := by
  refine simVc_of (fun X c => (cr_max c).or (call_max2 c)) ?_
  intro cfg X R pins rho mu vh sg H s vs xs Q E S r q
  match vs, q with
  | [v], q =>
    obtain ⟨x, rfl, rv⟩ := one_of (vs := []) r
    have q' : ((got ((lstOf v vh).bind intL) vh).bind fun ns h => if ns = [] then Out.bad else Out.ok (.int (maxI ns)) h).W Q E := by
      cases v <;> exact q
    rw [Out.W_bind] at q'
    obtain ⟨bs, e, q2⟩ := got_W q'
    obtain ⟨ws, e1, e2⟩ := Option.bind_eq_some_iff.mp e
    obtain ⟨a, ys, rfl, h1, r1⟩ := RV.lstOf S rv e1
    split at q2
    · exact q2.elim
    · rename_i hne
      obtain ⟨m1, m2⟩ := maxI_mem hne
      refine .inl ⟨a, bs, rfl, by rw [← intL_of e2 r1]; exact h1, List.length_pos_iff.mpr hne, fun m hm hy => ?_⟩
      have : m = maxI bs := by have := m2 m hm; have := hy _ m1; omega
      subst this
      exact PQ.pure S (v := .int _) q2 (.int _)
  | [.int i, .int j], q =>
    obtain ⟨x, y, rfl, r1, r2⟩ := two_of r
    cases r1; cases r2
    refine .inr ⟨i, j, rfl, ?_⟩
    have e : (if j > i then j else i) = max i j := by
      by_cases h : j > i
      · rw [if_pos h, Int.max_eq_right (by omega)]
      · rw [if_neg h, Int.max_eq_left (by omega)]
    rw [e]
    exact PQ.pure S (v := .int (max i j)) q (.int _)
theorem sim_min : SimVc (.builtin "min") bMin := by
  refine simVc_of (fun X c => (cr_min c).or (call_min2 c)) ?_
  intro cfg X R pins rho mu vh sg H s vs xs Q E S r q
  match vs, q with
  | [v], q =>
    obtain ⟨x, rfl, rv⟩ := one_of (vs := []) r
    have q' : ((got ((lstOf v vh).bind intL) vh).bind fun ns h => if ns = [] then Out.bad else Out.ok (.int (minI ns)) h).W Q E := by
      cases v <;> exact q
    rw [Out.W_bind] at q'
    obtain ⟨bs, e, q2⟩ := got_W q'
    obtain ⟨ws, e1, e2⟩ := Option.bind_eq_some_iff.mp e
    obtain ⟨a, ys, rfl, h1, r1⟩ := RV.lstOf S rv e1
    split at q2
    · exact q2.elim
    · rename_i hne
      obtain ⟨m1, m2⟩ := minI_mem hne
      refine .inl ⟨a, bs, rfl, by rw [← intL_of e2 r1]; exact h1, List.length_pos_iff.mpr hne, fun m hm hy => ?_⟩
      have : m = minI bs := by have := m2 m hm; have := hy _ m1; omega
      subst this
      exact PQ.pure S (v := .int _) q2 (.int _)
  | [.int i, .int j], q =>
    obtain ⟨x, y, rfl, r1, r2⟩ := two_of r
    cases r1; cases r2
    refine .inr ⟨i, j, rfl, ?_⟩
    have e : (if j < i then j else i) = min i j := by
      by_cases h : j < i
      · rw [if_pos h, Int.min_eq_right (by omega)]
      · rw [if_neg h, Int.min_eq_left (by omega)]
    rw [e]
    exact PQ.pure S (v := .int (min i j)) q (.int _)
/-- a built-in in a calm place, by its name -/
def eCallC (op : List Val → VH → Out Val) (t : Ta) : Tm := fun c rho h => (t c rho h).bind fun vs h => calmB c.hot op vs h
section
variable {G : World'} {c : Sc} {pos : Pos}
theorem simE_callC {x : Str} {e : Expr} {es : List Expr} {mt : Ta} {op : List Val → VH → Out Val} {id : String} {p : Pos} (w : Wd G) (hc : SimVc (.builtin id) op) (hg : c.sc.names.lookup x = some .globalImplicit) (hm : x ∈ bnames) (hv : bootBuiltins x = some (.builtin id))
    (ha : SimA G c (e :: es) mt) (hs : (e :: es).all noStar = true) (hn : x ≠ "__name__") (hdb : (x == ("__debug__" : Str)) = false) : SimE G c (.Call (.Name x p) (e :: es) [] pos) (eCallC op mt) := .mk <| by
  intro cfg X g xi pins rho mu vh sg H s Q E S W q
  rw [List.all_cons, Bool.and_eq_true] at hs
  refine wpAny_Call_Name_kw (ld_blt S.inv (by show X.env.scope.names.lookup x = _; rw [xi.sc]; exact hg) (w.bl cfg X g x hm) hv ?_ hn hdb)
  exact PyProof.Rows.callWith_builtin1 (ha.then g xi S W q fun vs vh1 xs mu1 H1 us s1 S1 g1 rv r hl q1 => thn (hc cfg X (w.rm cfg X g) pins rho mu1 vh1 sg H1 s1 vs xs us Q E S1 rv r q1) fun z s2 hz => hz.from g1) (starEach_cons hs.1) (noStars hs.2)
end
end Pv
end
/-! PvIsi -/
section
set_option Elab.async false
set_option linter.all false
set_option maxRecDepth 100000
set_option autoImplicit false
/-! Pv: isinstance of built-in types. -/
namespace Pv
open PySem PySem.Spec PyProof.Rows L2
/-- a value's type -/
def tyN (v : Val) (h : VH) : Option String := match v with
  | .non => some "NoneType"
  | .bl _ => some "bool"
  | .int _ => some "int"
  | .str _ => some "str"
  | .tup _ => some "tuple"
  | .ref l => match h[l]? with
    | some (.lst _) => some "list"
    | some (.frz _) => some "list"
    | some (.dct _ _) => some "dict"
    | _ => none
  | .glo _ => none
def isTy (t T : String) : Bool := t == T || (t == "bool" && T == "int")
def tyNames : List String := ["NoneType", "bool", "int", "str", "tuple", "list", "dict"]
def isiNames : List String := ["int", "bool", "tuple", "str", "list", "dict"]
theorem kit_all : (tyNames.all fun t => isiNames.all fun T => kitB t T == some (isTy t T)) = true := by decide +kernel
theorem kit_is {t T : String} (h1 : t ∈ tyNames) (h2 : T ∈ isiNames) : kitB t T = some (isTy t T) := by
  have := List.all_eq_true.mp (List.all_eq_true.mp kit_all t h1) T h2
  exact beq_iff_eq.mp this
def eIsi (T : String) (a : Tm) : Tm := fun c rho h => (a c rho h).bind fun v h => (got (tyN v h) h).bind fun t h => .ok (.bl (isTy t T)) h
section
variable {X : Cx} {hot : Option Nat} {pins : List (Addr × Obj)} {rho : Env} {mu : List Addr} {vh : VH} {sg : Sl} {H : Hp} {s : Shared}
theorem tyN_mem {v : Val} {t : String} (h : tyN v vh = some t) : t ∈ tyNames := by
  cases v with
  | ref l =>
    have h' : (match vh[l]? with
      | some (.lst _) => some "list"
      | some (.frz _) => some "list"
      | some (.dct _ _) => some "dict"
      | _ => none) = some t := h
    split at h' <;> first | (cases h'; decide) | cases h'
  | _ => first | (cases h; decide) | cases h
theorem kit_rv (S : Sm X hot pins rho mu vh sg H s) {v : Val} {x : V} {u : Value} {t : String} (rv : RV X.K mu H v x) (rx : RelV x u) (h : tyN v vh = some t) :
    ∃ P : Heap → Prop, PySem.W.KitX X.K u (.type t) P ∧ P s.heap ∧ u ≠ .builtin "__main__.__loader__#opaque" := by
  have I := S.inv
  cases rv with
  | non => cases h; cases rx; exact ⟨_, PySem.W.kitx_none, True.intro, fun z => nomatch z⟩
  | bl y => cases h; cases rx; exact ⟨_, PySem.W.kitx_bool, True.intro, fun z => nomatch z⟩
  | int i => cases h; obtain ⟨t, rfl⟩ := rx; exact ⟨_, PySem.W.kitx_int, True.intro, fun z => nomatch z⟩
  | str y => cases h; obtain ⟨t, rfl⟩ := rx; exact ⟨_, PySem.W.kitx_str, True.intro, fun z => nomatch z⟩
  | tup ha ra =>
    cases h; cases rx
    obtain ⟨its, _, ⟨o, h1, h2, _⟩, _⟩ := I.tuple ha
    exact ⟨_, PySem.W.kitx_tuple, ⟨o, h1, h2⟩, fun z => nomatch z⟩
  | ref e =>
    rename_i l a
    cases rx
    have h' : (match vh[l]? with
      | some (.lst _) => some "list"
      | some (.frz _) => some "list"
      | some (.dct _ _) => some "dict"
      | _ => none) = some t := h
    split at h'
    · rename_i vs h1
      cases h'
      obtain ⟨_, xs, e3, _, h2, _⟩ := RV.seq S (.ref e) (.inl h1)
      cases e3
      obtain ⟨its, _, ⟨o, n, ho, hc, _⟩, _⟩ := I.list h2
      exact ⟨_, PySem.W.kitx_list, ⟨o, ho, hc⟩, fun z => nomatch z⟩
    · rename_i vs h1
      cases h'
      obtain ⟨_, xs, e3, _, h2, _⟩ := RV.seq S (.ref e) (.inr h1)
      cases e3
      obtain ⟨its, _, ⟨o, n, ho, hc, _⟩, _⟩ := I.list h2
      exact ⟨_, PySem.W.kitx_list, ⟨o, ho, hc⟩, fun z => nomatch z⟩
    · rename_i tt kvs h1
      cases h'
      have ro := S.rel.obj l a _ e h1
      cases tt with
      | false =>
        obtain ⟨ks, e1, _⟩ := ro
        obtain ⟨_, _, vs, _, o, es, ep, h3, h4, _⟩ := (show ObjOk X.prog X.w H s.heap a (.dK ks) from I.hok a _ e1)
        exact ⟨_, PySem.W.kitx_dict, ⟨o, h3, h4.1⟩, fun z => nomatch z⟩
      | true =>
        obtain ⟨o, es, ep, xs, e1, _, _, c1, _⟩ := ro
        obtain ⟨h3, _, _⟩ := (show ObjOk X.prog X.w H s.heap a (.ext fun h => h.get? a = some o) from I.hok a _ e1)
        exact ⟨_, PySem.W.kitx_dict, ⟨o, h3, c1.1⟩, fun z => nomatch z⟩
    · cases h'
  | glo x => cases h
end
section
variable {G : World'} {c : Sc} {a : Expr} {ma : Tm} {pos p p2 : Pos}
theorem simE_isi {T : String} {x : Str} (w : Wd G) (ha : SimE G c a ma) (hs : noStar a = true) (hg : c.sc.names.lookup ("isinstance" : Str) = some .globalImplicit) (hg2 : c.sc.names.lookup x = some .globalImplicit) (hT : T ∈ isiNames)
    (hm : ∀ cfg X, G cfg X → X.mg x = none) (hv : bootBuiltins x = some (.type T)) (hn : x ≠ "__name__") (hdb : (x == ("__debug__" : Str)) = false) : SimE G c (.Call (.Name "isinstance" p) [a, .Name x p2] [] pos) (eIsi T ma) := .mk <| by
  intro cfg X g xi pins rho mu vh sg H s Q E S W q
  have gl : ∀ y, c.sc.names.lookup y = some .globalImplicit → Gl X y := fun y hy => by show X.env.scope.names.lookup y = _; rw [xi.sc]; exact hy
  refine wpAny_Call_Name_kw (ld_blt S.inv (gl _ hg) (w.bl cfg X g _ (by decide)) (u := .builtin "isinstance") (by decide +kernel) ?_ (by decide) (by decide))
  refine PyProof.Rows.callWith_builtin1 (e := a) (rest := [.Name x p2]) ?_ (starEach_cons hs) (by rfl)
  rw [starEach_cons hs]
  refine Calls.spliced_cons (ha.then g xi S W q fun v vh1 y mu1 H1 u s1 S1 g1 rv r q1 => ?_)
  refine Calls.spliced_cons (ld_blt S1.inv (gl _ hg2) (hm cfg X g) hv (Calls.spliced_nil ?_) hn hdb)
  rw [Out.W_bind] at q1
  obtain ⟨t, e, q2⟩ := got_W q1
  obtain ⟨P, Z, hp, hx⟩ := kit_rv S1 rv r e
  have ek : PySem.W.kitOne X.K (.type t) (.type T) = some (isTy t T) := kit_ty (kit_is (tyN_mem e) hT)
  exact PySem.W.kia_one Z S1.inv.kIn hp ek hx fun tk => EQ.from g1 (EQ.pure (v := .bl (isTy t T)) S1 q2 (.bl _) rfl (S1.inv.tok tk))
end
end Pv
end
/-! PvBind -/
section
set_option Elab.async false
set_option linter.all false
set_option maxRecDepth 100000
set_option autoImplicit false
/-! Pv: how arguments come to parameters. -/
namespace Pv
open PySem PySem.Spec PyProof.Rows L2
section
variable {α : Type}
def kwIn (nm ko : List Str) : List (Str × α) → List (Str × α) → Option (List (Str × α))
  | s, [] => some s
  | s, kv :: r => if (nm.contains kv.1 || ko.contains kv.1) = true then (if (s.lookup kv.1).isSome = true then none else kwIn nm ko (s ++ [(kv.1, kv.2)]) r) else none
def dfIn : List (Str × α) → List (Str × α) → List (Str × α)
  | s, [] => s
  | s, kv :: r => if (s.lookup kv.1).isNone = true then dfIn (s ++ [(kv.1, kv.2)]) r else dfIn s r
def koIn (kwd : Str → Option α) : List (Str × α) → List Str → Option (List (Str × α))
  | s, [] => some s
  | s, n :: r => if (s.lookup n).isNone = true then (match kwd n with
    | some v => koIn kwd (s ++ [(n, v)]) r
    | none => none) else koIn kwd s r
def getAll (s : List (Str × α)) : List Str → Option (List α)
  | [] => some []
  | n :: r => match s.lookup n, getAll s r with
    | some v, some t => some (v :: t)
    | _, _ => none
/-- the parameters' values: the normal ones, then those by keyword alone -/
def bindL (nm ko : List Str) (dfl : List α) (kwd : Str → Option α) (pos : List α) (kw : List (Str × α)) : Option (List α) :=
  if pos.length ≤ nm.length then (match kwIn nm ko (nm.zip pos) kw with
    | some s1 =>
      if ((nm.take (nm.length - (dfl.drop (dfl.length - nm.length)).length)).filter fun n => (s1.lookup n).isNone).isEmpty = true then
        (match koIn kwd (dfIn s1 ((nm.drop (nm.length - (dfl.drop (dfl.length - nm.length)).length)).zip (dfl.drop (dfl.length - nm.length)))) ko with
        | some s3 => getAll s3 (nm ++ ko)
        | none => none)
      else none
    | none => none) else none
theorem getAll_map {s : List (Str × α)} : ∀ {ns : List Str} {zs : List α}, getAll s ns = some zs → (ns.filterMap fun n => (s.lookup n).map (n, ·)) = ns.zip zs
  | [], zs, h => by cases h; rfl
  | n :: r, zs, h => by
    unfold getAll at h
    cases e : s.lookup n with
    | none => rw [e] at h; cases h
    | some v =>
      rw [e] at h
      cases e2 : getAll s r with
      | none => rw [e2] at h; cases h
      | some t =>
        rw [e2] at h
        cases h
        rw [List.filterMap_cons, e, getAll_map e2]
        rfl
end
/-! ### related values -/
section
variable {α β : Type} {R : α → β → Prop}
abbrev RP (R : α → β → Prop) : List (Str × α) → List (Str × β) → Prop := Paired fun p q => p.1 = q.1 ∧ R p.2 q.2
theorem RP.lookup {s : List (Str × α)} {t : List (Str × β)} (h : RP R s t) (n : Str) : (∃ a b, s.lookup n = some a ∧ t.lookup n = some b ∧ R a b) ∨ (s.lookup n = none ∧ t.lookup n = none) := by
  induction h with
  | nil => exact .inr ⟨rfl, rfl⟩
  | @cons p q s t r _ ih =>
    obtain ⟨k, a⟩ := p
    obtain ⟨k', b⟩ := q
    obtain ⟨e, r⟩ := r
    have e : k = k' := e
    subst e
    rw [List.lookup_cons, List.lookup_cons]
    cases n == k with
    | true => exact .inl ⟨a, b, rfl, rfl, r⟩
    | false => exact ih
theorem RP.isSome {s : List (Str × α)} {t : List (Str × β)} (h : RP R s t) (n : Str) : (s.lookup n).isSome = (t.lookup n).isSome := by
  rcases h.lookup n with ⟨a, b, e1, e2, _⟩ | ⟨e1, e2⟩ <;> rw [e1, e2] <;> rfl
theorem RP.isNone {s : List (Str × α)} {t : List (Str × β)} (h : RP R s t) (n : Str) : (s.lookup n).isNone = (t.lookup n).isNone := by
  rcases h.lookup n with ⟨a, b, e1, e2, _⟩ | ⟨e1, e2⟩ <;> rw [e1, e2] <;> rfl
theorem Paired.app {α β : Type} {F : α → β → Prop} : ∀ {l m : List α} {l' m' : List β}, Paired F l l' → Paired F m m' → Paired F (l ++ m) (l' ++ m')
  | _, _, _, _, .nil, s => s
  | _, _, _, _, .cons r t, s => .cons r (Paired.app t s)
theorem Paired.drop {α β : Type} {F : α → β → Prop} : ∀ {l : List α} {l' : List β} (n : Nat), Paired F l l' → Paired F (l.drop n) (l'.drop n)
  | _, _, 0, r => r
  | _, _, _ + 1, .nil => .nil
  | _, _, n + 1, .cons _ t => Paired.drop n t
theorem RP.snoc {s : List (Str × α)} {t : List (Str × β)} (h : RP R s t) {n : Str} {a : α} {b : β} (r : R a b) : RP R (s ++ [(n, a)]) (t ++ [(n, b)]) := Paired.app h (.cons ⟨rfl, r⟩ .nil)
theorem RP.zip : ∀ {ns : List Str} {l : List α} {m : List β}, Paired R l m → RP R (ns.zip l) (ns.zip m)
  | [], _, _, _ => by rw [List.zip_nil_left, List.zip_nil_left]; exact .nil
  | _ :: _, _, _, .nil => by rw [List.zip_nil_right, List.zip_nil_right]; exact .nil
  | n :: ns, _, _, .cons r t => .cons ⟨rfl, r⟩ (RP.zip t)
theorem kwIn_rel {nm ko : List Str} : ∀ {kw : List (Str × α)} {kw' : List (Str × β)} {s : List (Str × α)} {t : List (Str × β)} {z : List (Str × α)}, RP R s t → RP R kw kw' → kwIn nm ko s kw = some z → ∃ z', kwIn nm ko t kw' = some z' ∧ RP R z z'
  | _, _, s, t, z, h, .nil, e => by cases e; exact ⟨t, rfl, h⟩
  | _, _, s, t, z, h, .cons (a := p) (b := q) r rt, e => by
    obtain ⟨k, a⟩ := p
    obtain ⟨k', b⟩ := q
    obtain ⟨ek, r⟩ := r
    have ek : k = k' := ek
    subst ek
    unfold kwIn at e ⊢
    split at e
    · rename_i h1
      rw [if_pos h1]
      split at e
      · cases e
      · rename_i h2
        rw [if_neg (by rw [← h.isSome]; exact h2)]
        exact kwIn_rel (h.snoc r) rt e
    · cases e
theorem dfIn_rel : ∀ {kw : List (Str × α)} {kw' : List (Str × β)} {s : List (Str × α)} {t : List (Str × β)}, RP R s t → RP R kw kw' → RP R (dfIn s kw) (dfIn t kw')
  | _, _, s, t, h, .nil => h
  | _, _, s, t, h, .cons (a := p) (b := q) r rt => by
    obtain ⟨k, a⟩ := p
    obtain ⟨k', b⟩ := q
    obtain ⟨ek, r⟩ := r
    have ek : k = k' := ek
    subst ek
    unfold dfIn
    by_cases h1 : (s.lookup k).isNone = true
    · rw [if_pos h1, if_pos (by rw [← h.isNone]; exact h1)]
      exact dfIn_rel (h.snoc r) rt
    · rw [if_neg h1, if_neg (by rw [← h.isNone]; exact h1)]
      exact dfIn_rel h rt
theorem koIn_rel {kwd : Str → Option α} {kwd' : Str → Option β} : ∀ {ko : List Str} {s : List (Str × α)} {t : List (Str × β)} {z : List (Str × α)}, (∀ n ∈ ko, ∀ a, kwd n = some a → ∃ b, kwd' n = some b ∧ R a b) → RP R s t → koIn kwd s ko = some z → ∃ z', koIn kwd' t ko = some z' ∧ RP R z z'
  | [], s, t, z, _, h, e => by cases e; exact ⟨t, rfl, h⟩
  | n :: ko, s, t, z, hk, h, e => by
    unfold koIn at e ⊢
    by_cases h1 : (s.lookup n).isNone = true
    · rw [if_pos h1] at e
      rw [if_pos (by rw [← h.isNone]; exact h1)]
      cases q : kwd n with
      | none => rw [q] at e; cases e
      | some a =>
        rw [q] at e
        obtain ⟨b, e2, r⟩ := hk n (List.mem_cons_self) a q
        rw [e2]
        exact koIn_rel (fun m hm => hk m (List.mem_cons_of_mem _ hm)) (h.snoc r) e
    · rw [if_neg h1] at e
      rw [if_neg (by rw [← h.isNone]; exact h1)]
      exact koIn_rel (fun m hm => hk m (List.mem_cons_of_mem _ hm)) h e
theorem getAll_rel {s : List (Str × α)} {t : List (Str × β)} (h : RP R s t) : ∀ {ns : List Str} {zs : List α}, getAll s ns = some zs → ∃ ws, getAll t ns = some ws ∧ Paired R zs ws
  | [], zs, e => by cases e; exact ⟨[], rfl, .nil⟩
  | n :: r, zs, e => by
    unfold getAll at e ⊢
    rcases h.lookup n with ⟨a, b, e1, e2, rr⟩ | ⟨e1, e2⟩
    · rw [e1] at e
      rw [e2]
      cases q : getAll s r with
      | none => rw [q] at e; cases e
      | some tl =>
        rw [q] at e
        cases e
        obtain ⟨ws, e3, p⟩ := getAll_rel h q
        rw [e3]
        exact ⟨b :: ws, rfl, .cons rr p⟩
    · rw [e1] at e; cases e
theorem bindL_rel {nm ko : List Str} {dfl : List α} {dfl' : List β} {kwd : Str → Option α} {kwd' : Str → Option β} {pos : List α} {pos' : List β} {kw : List (Str × α)} {kw' : List (Str × β)} {zs : List α}
    (hd : Paired R dfl dfl') (hk : ∀ n ∈ ko, ∀ a, kwd n = some a → ∃ b, kwd' n = some b ∧ R a b) (hp : Paired R pos pos') (hw : RP R kw kw') (e : bindL nm ko dfl kwd pos kw = some zs) : ∃ ws, bindL nm ko dfl' kwd' pos' kw' = some ws ∧ Paired R zs ws := by
  have l1 := Paired.length hd
  have l2 := Paired.length hp
  unfold bindL at e ⊢
  split at e
  · rename_i h1
    rw [if_pos (by rw [← l2]; exact h1)]
    cases q : kwIn nm ko (nm.zip pos) kw with
    | none => rw [q] at e; cases e
    | some s1 =>
      rw [q] at e
      obtain ⟨t1, e1, r1⟩ := kwIn_rel (RP.zip (ns := nm) hp) hw q
      rw [e1]
      dsimp only at e ⊢
      have ld : (dfl'.drop (dfl'.length - nm.length)).length = (dfl.drop (dfl.length - nm.length)).length := by rw [List.length_drop, List.length_drop, l1]
      rw [ld, ← l1]
      have hf : (fun n => (t1.lookup n).isNone) = fun n => (s1.lookup n).isNone := funext fun n => (r1.isNone n).symm
      rw [hf]
      split at e
      · rename_i h2
        rw [if_pos h2]
        have r2 := dfIn_rel r1 (RP.zip (ns := nm.drop (nm.length - (dfl.drop (dfl.length - nm.length)).length)) (Paired.drop (dfl.length - nm.length) hd))
        cases q3 : koIn kwd (dfIn s1 ((nm.drop (nm.length - (dfl.drop (dfl.length - nm.length)).length)).zip (dfl.drop (dfl.length - nm.length)))) ko with
        | none => rw [q3] at e; cases e
        | some s3 =>
          rw [q3] at e
          obtain ⟨t3, e3, r3⟩ := koIn_rel hk r2 q3
          rw [e3]
          exact getAll_rel r3 e
      · cases e
  · cases e
end
/-! ### the model's own binding -/
theorem kw_loop {nm ko : List Str} {f : Str × Value → List (Str × Value) × List (Str × Value) → Sem (ForInStep (List (Str × Value) × List (Str × Value)))}
    (hf : ∀ kv s x, (nm.contains kv.1 || ko.contains kv.1) = true → ¬ (s.lookup kv.1).isSome = true → f kv (s, x) = pure (.yield (s ++ [(kv.1, kv.2)], x))) :
    ∀ (kw : List (Str × Value)) (s z x : List (Str × Value)), kwIn nm ko s kw = some z → forIn kw (s, x) f = pure (z, x)
  | [], s, z, x, e => by cases e; rw [List.forIn_nil]
  | kv :: kw, s, z, x, e => by
    unfold kwIn at e
    split at e
    · rename_i h1
      split at e
      · cases e
      · rename_i h2
        rw [List.forIn_cons, hf kv s x h1 h2]
        exact kw_loop hf kw _ z x e
    · cases e
theorem df_loop {f : Str × Value → List (Str × Value) → Sem (ForInStep (List (Str × Value)))}
    (hf : ∀ kv s, f kv s = if (s.lookup kv.1).isNone = true then pure (.yield (s ++ [(kv.1, kv.2)])) else pure (.yield s)) :
    ∀ (kw : List (Str × Value)) (s : List (Str × Value)), forIn kw s f = pure (dfIn s kw)
  | [], s => by rw [List.forIn_nil]; rfl
  | kv :: kw, s => by
    rw [List.forIn_cons, hf]
    unfold dfIn
    split
    · exact df_loop hf kw _
    · exact df_loop hf kw _
theorem ko_loop {M : Model} {K : PySem.W.Frag} {h : Heap} (X : K.In h) {kV : Value} {kwd : Str → Option Value} {f : Str → List (Str × Value) × List Str → Sem (ForInStep (List (Str × Value) × List Str))}
    (hf : ∀ n s x, f n (s, x) = if (s.lookup n).isNone = true then (match kV with
      | .ref d => (do let dflt ← nsGet d n; match dflt with | some v => pure (.yield (s ++ [(n, v)], x)) | none => pure (.yield (s, x ++ [n])))
      | _ => (do let dflt ← pure none; match (dflt : Option Value) with | some v => pure (.yield (s ++ [(n, v)], x)) | none => pure (.yield (s, x ++ [n])))) else pure (.yield (s, x)))
    (hk : ∀ n v, kwd n = some v → ∃ D, kV = .ref D ∧ PySem.W.nsIn K D n = some (some v)) :
    ∀ (ko : List Str) (s z : List (Str × Value)) (x : List Str), koIn kwd s ko = some z → PySem.W.Looks M h (forIn ko (s, x) f) (z, x)
  | [], s, z, x, e => by cases e; rw [List.forIn_nil]; exact PySem.W.Looks.of_pure rfl
  | n :: ko, s, z, x, e => by
    unfold koIn at e
    rw [List.forIn_cons, hf]
    split at e
    · rename_i h1
      rw [if_pos h1]
      cases q : kwd n with
      | none => rw [q] at e; cases e
      | some v =>
        rw [q] at e
        obtain ⟨D, rfl, hD⟩ := hk n v q
        dsimp only
        rw [bind_assoc]
        exact (PySem.W.looks_nsIn X hD).andThen (ko_loop X hf hk ko _ z x e)
    · rename_i h1
      rw [if_neg h1]
      exact ko_loop X hf hk ko s z x e
theorem binds_of {K : PySem.W.Frag} {fd : FuncData} {s : Shared} {us zs : List Value} {kw : List (Str × Value)} {its : List Value} {kwd : Str → Option Value} (X : K.In s.heap)
    (ho : fd.params.posonlyargs = []) (hv : fd.params.vararg = none) (hk : fd.params.kwarg = none)
    (hd : ∀ M, PySem.W.Looks M s.heap (seqItems? fd.defaults) (if its = [] then none else some its.toArray) ∨ PySem.W.Looks M s.heap (seqItems? fd.defaults) (some its.toArray))
    (hkw : ∀ n v, kwd n = some v → ∃ D, fd.kwdefaults = .ref D ∧ PySem.W.nsIn K D n = some (some v))
    (e : bindL (fd.params.args.map (·.arg)) (fd.params.kwonlyargs.map (·.arg)) its kwd us kw = some zs) :
    BindsTo s fd ⟨us, kw⟩ ((fd.params.args.map (·.arg) ++ fd.params.kwonlyargs.map (·.arg)).zip zs) := by
  refine BindsTo.of_looks fun M => ?_
  have key : ∀ o : Option (Array Value), (o.getD #[]).toList = its → PySem.W.Looks M s.heap (seqItems? fd.defaults) o → PySem.W.Looks M s.heap (bindArgs fd ⟨us, kw⟩) ((fd.params.args.map (·.arg) ++ fd.params.kwonlyargs.map (·.arg)).zip zs) := by
    intro o ho' hl
    unfold bindArgs
    simp only [ho, hv, hk, List.map_nil, List.nil_append]
    unfold bindL at e
    split at e
    · rename_i h1
      cases q : kwIn (fd.params.args.map (·.arg)) (fd.params.kwonlyargs.map (·.arg)) ((fd.params.args.map (·.arg)).zip us) kw with
      | none => rw [q] at e; cases e
      | some s1 =>
        rw [q] at e
        dsimp only at e
        rw [kw_loop (nm := fd.params.args.map (·.arg)) (ko := fd.params.kwonlyargs.map (·.arg)) (fun kv s x h1 h2 => by dsimp only; rw [if_pos h1, if_neg h2]) kw _ s1 [] q, pure_bind]
        refine hl.andThen ?_
        have hgt : ¬ (decide (us.length > (List.map (fun x => x.arg) fd.params.args).length) && (none : Option Arg).isNone) = true := by
          rw [Bool.and_eq_true]
          intro z
          have := of_decide_eq_true z.1
          omega
        dsimp only
        rw [if_neg hgt]
        rw [ho']
        split at e
        · rename_i h2
          rw [if_neg (by rw [h2]; decide)]
          rw [df_loop (fun kv s => rfl), pure_bind]
          cases q3 : koIn kwd (dfIn s1 (((fd.params.args.map (·.arg)).drop ((fd.params.args.map (·.arg)).length - (its.drop (its.length - (fd.params.args.map (·.arg)).length)).length)).zip (its.drop (its.length - (fd.params.args.map (·.arg)).length)))) (fd.params.kwonlyargs.map (·.arg)) with
          | none => rw [q3] at e; cases e
          | some s3 =>
            rw [q3] at e
            refine (ko_loop X (kV := fd.kwdefaults) (fun n s x => rfl) hkw _ _ s3 [] q3).andThen ?_
            dsimp only
            rw [if_neg (by decide)]
            exact PySem.W.Looks.of_pure (by rw [getAll_map e])
        · cases e
    · cases e
  rcases hd M with hl | hl
  · refine key _ ?_ hl
    split
    · rename_i h; rw [h]; rfl
    · simp
  · exact key _ (by simp) hl
end Pv
end
/-! PvStm -/
section
set_option Elab.async false
set_option linter.all false
set_option maxRecDepth 100000
set_option autoImplicit false
/-! Pv: statements. -/
namespace Pv
open PySem PySem.Spec PyProof.Rows L2

inductive SO where
  | nx (rho : Env) (h : VH) | rt (v : Val) (h : VH) | bk (rho : Env) (h : VH) | ct (rho : Env) (h : VH) | er (c : Str) (fs : Flds) (rho : Env) (h : VH) | bad
def SO.W (o : SO) (Z : SO → Prop) : Prop := match o with
  | .bad => False
  | o => Z o
abbrev Ts := Cfg → Env → VH → SO
abbrev Tg := Val → Cfg → Env → VH → Out Env
abbrev Tgs := List Val → Cfg → Env → VH → Out Env
def Out.to {α : Type} (o : Out α) (rho : Env) (k : α → VH → SO) : SO := match o with
  | .ok a h => k a h
  | .er c fs h => .er c fs rho h
  | .bad => .bad
@[simp] theorem Out.to_ok {α : Type} (a : α) (h : VH) (rho : Env) (k : α → VH → SO) : (Out.ok a h).to rho k = k a h := rfl
@[simp] theorem Out.to_er {α : Type} (c : Str) (fs : Flds) (h : VH) (rho : Env) (k : α → VH → SO) : (Out.er c fs h : Out α).to rho k = .er c fs rho h := rfl
@[simp] theorem Out.to_bad {α : Type} (rho : Env) (k : α → VH → SO) : (Out.bad : Out α).to rho k = .bad := rfl
theorem Out.to_W {α : Type} (o : Out α) (rho : Env) (k : α → VH → SO) (Z : SO → Prop) : (o.to rho k).W Z = o.W (fun a h => (k a h).W Z) (fun c fs h => Z (.er c fs rho h)) := by cases o <;> rfl
/-- what never raises -/
def Out.to0 {α : Type} (o : Out α) (k : α → VH → SO) : SO := match o with
  | .ok a h => k a h
  | _ => .bad
@[simp] theorem Out.to0_ok {α : Type} (a : α) (h : VH) (k : α → VH → SO) : (Out.ok a h).to0 k = k a h := rfl
theorem Out.to0_W {α : Type} {o : Out α} {k : α → VH → SO} {Z : SO → Prop} (h : (o.to0 k).W Z) : o.W (fun a h => (k a h).W Z) (fun _ _ _ => False) := by
  cases o with
  | ok a v => exact h
  | er c f v => exact h
  | bad => exact h
def SO.seq (o : SO) (k : Env → VH → SO) : SO := match o with
  | .nx rho h => k rho h
  | o => o
@[simp] theorem SO.seq_nx (rho : Env) (h : VH) (k : Env → VH → SO) : (SO.nx rho h).seq k = k rho h := rfl
theorem SO.W_seq {o : SO} {k : Env → VH → SO} {Z : SO → Prop} (h : (o.seq k).W Z) : o.W fun o => match o with
    | .nx rho h => (k rho h).W Z
    | o => Z o := by
  cases o <;> exact h
theorem SO.W.mono {o : SO} {Z Z' : SO → Prop} (x : o.W Z) (h : ∀ o, Z o → Z' o) : o.W Z' := by
  cases o <;> first | exact h _ x | exact x

/-! ### judgements -/
section
variable (X : Cx) (hot : Option Nat) (pins : List (Addr × Obj)) (mu : List Addr) (vh : VH) (H : Hp) (Z : SO → Prop)
def SQ : Flow → Shared → Prop
  | .next, s' => ∃ rho' vh' mu' sg' H', Z (.nx rho' vh') ∧ Sm X hot pins rho' mu' vh' sg' H' s' ∧ Ex mu vh H mu' vh' H'
  | .brk, s' => ∃ rho' vh' mu' sg' H', Z (.bk rho' vh') ∧ Sm X hot pins rho' mu' vh' sg' H' s' ∧ Ex mu vh H mu' vh' H'
  | .cont, s' => ∃ rho' vh' mu' sg' H', Z (.ct rho' vh') ∧ Sm X hot pins rho' mu' vh' sg' H' s' ∧ Ex mu vh H mu' vh' H'
  | .ret u, s' => ∃ v vh' x mu' rho' sg' H', Z (.rt v vh') ∧ Sm X hot pins rho' mu' vh' sg' H' s' ∧ Ex mu vh H mu' vh' H' ∧ RV X.K mu' H' v x ∧ RelV x u
def WishS : Prop := L2N.Takes X fun cls d sg H' => ∃ c fs rho mu' vh', Rel X.prog X.w X.K mu' vh' H' ∧ Ex mu vh H mu' vh' H' ∧ REnv X.K mu' H' rho sg ∧ RX X.K mu' H' c fs cls d ∧ Z (.er c fs rho vh')
end
section
variable {X : Cx} {hot : Option Nat} {pins : List (Addr × Obj)} {mu mu1 : List Addr} {vh vh1 : VH} {H H1 : Hp} {Z Z' : SO → Prop} {s : Shared} {f : Flow}
theorem SQ.from (g : Ex mu vh H mu1 vh1 H1) (h : SQ X hot pins mu1 vh1 H1 Z f s) : SQ X hot pins mu vh H Z f s := by
  cases f with
  | next => obtain ⟨a, b, c, d, e, z, S, g1⟩ := h; exact ⟨a, b, c, d, e, z, S, g.trans g1⟩
  | brk => obtain ⟨a, b, c, d, e, z, S, g1⟩ := h; exact ⟨a, b, c, d, e, z, S, g.trans g1⟩
  | cont => obtain ⟨a, b, c, d, e, z, S, g1⟩ := h; exact ⟨a, b, c, d, e, z, S, g.trans g1⟩
  | ret u => obtain ⟨a, b, c, d, e, i, j, z, S, g1, r⟩ := h; exact ⟨a, b, c, d, e, i, j, z, S, g.trans g1, r⟩
theorem SQ.mono (h : SQ X hot pins mu vh H Z f s) (k : ∀ o, Z o → Z' o) : SQ X hot pins mu vh H Z' f s := by
  cases f with
  | next => obtain ⟨a, b, c, d, e, z, S, g1⟩ := h; exact ⟨a, b, c, d, e, k _ z, S, g1⟩
  | brk => obtain ⟨a, b, c, d, e, z, S, g1⟩ := h; exact ⟨a, b, c, d, e, k _ z, S, g1⟩
  | cont => obtain ⟨a, b, c, d, e, z, S, g1⟩ := h; exact ⟨a, b, c, d, e, k _ z, S, g1⟩
  | ret u => obtain ⟨a, b, c, d, e, i, j, z, S, g1, r⟩ := h; exact ⟨a, b, c, d, e, i, j, k _ z, S, g1, r⟩
theorem WishS.from (W : WishS X mu vh H Z) (g : Ex mu vh H mu1 vh1 H1) : WishS X mu1 vh1 H1 Z :=
  L2N.Takes.imp W fun _ _ _ _ ⟨c, fs, rho, mu', vh', h1, h2, h3, h4, h5⟩ => ⟨c, fs, rho, mu', vh', h1, g.trans h2, h3, h4, h5⟩
theorem WishS.ex (W : WishS X mu vh H Z) (rho : Env) : Wish X rho mu vh H fun c fs h => Z (.er c fs rho h) :=
  L2N.Takes.imp W fun _ _ _ _ ⟨c, fs, mu', vh', h1, h2, h3, h4, h5⟩ => ⟨c, fs, rho, mu', vh', h1, h2, h3, h4, h5⟩
theorem WishS.imp (W : WishS X mu vh H Z) (k : ∀ c fs rho h, Z' (.er c fs rho h) → Z (.er c fs rho h)) : WishS X mu vh H Z' :=
  L2N.Takes.imp W fun _ _ _ _ ⟨c, fs, rho, mu', vh', h1, h2, h3, h4, h5⟩ => ⟨c, fs, rho, mu', vh', h1, h2, h3, h4, k _ _ _ _ h5⟩
theorem Wish.none (rho : Env) : Wish X rho mu vh H fun _ _ _ => False := fun _ _ ⟨_, _, _, _, _, _, _, _, _, _, _, _, _, _, _, _, w⟩ => by
  obtain ⟨_, _, _, _, _, _, _, _, z⟩ := w
  exact z.elim
end
/-- where statements run -/
structure XS (X : Cx) : Prop where
  hs : X.stack = X.env :: X.outer
  hf : X.env.frame = some X.env.locals
  hp : PassesOwn (model X.prog X.w) X.A X.env X.xe
structure SimS (G : World') (c : Sc) (st : Stmt) (m : Ts) : Prop where
  run : ∀ (cfg : Cfg) (X : Cx), G cfg X → XIn c X → XS X → ∀ (pins : List (Addr × Obj)) (rho : Env) (mu : List Addr) (vh : VH) (sg : Sl) (H : Hp) (s : Shared) (Z : SO → Prop),
    Sm X cfg.hot pins rho mu vh sg H s → WishS X mu vh H Z → (m cfg rho vh).W Z → wpAny (model X.prog X.w) X.A (exec st X.env) (SQ X cfg.hot pins mu vh H Z) X.xe s
instance {G : World'} {c : Sc} {st : Stmt} {m : Ts} : CoeFun (SimS G c st m) fun _ => ∀ (cfg : Cfg) (X : Cx), G cfg X → XIn c X → XS X → ∀ (pins : List (Addr × Obj)) (rho : Env) (mu : List Addr) (vh : VH) (sg : Sl) (H : Hp) (s : Shared) (Z : SO → Prop),
    Sm X cfg.hot pins rho mu vh sg H s → WishS X mu vh H Z → (m cfg rho vh).W Z → wpAny (model X.prog X.w) X.A (exec st X.env) (SQ X cfg.hot pins mu vh H Z) X.xe s := ⟨SimS.run⟩
structure SimB (G : World') (c : Sc) (sts : List Stmt) (m : Ts) : Prop where
  run : ∀ (cfg : Cfg) (X : Cx), G cfg X → XIn c X → XS X → ∀ (pins : List (Addr × Obj)) (rho : Env) (mu : List Addr) (vh : VH) (sg : Sl) (H : Hp) (s : Shared) (Z : SO → Prop),
    Sm X cfg.hot pins rho mu vh sg H s → WishS X mu vh H Z → (m cfg rho vh).W Z → wpAny (model X.prog X.w) X.A (execs sts X.env) (SQ X cfg.hot pins mu vh H Z) X.xe s
instance {G : World'} {c : Sc} {sts : List Stmt} {m : Ts} : CoeFun (SimB G c sts m) fun _ => ∀ (cfg : Cfg) (X : Cx), G cfg X → XIn c X → XS X → ∀ (pins : List (Addr × Obj)) (rho : Env) (mu : List Addr) (vh : VH) (sg : Sl) (H : Hp) (s : Shared) (Z : SO → Prop),
    Sm X cfg.hot pins rho mu vh sg H s → WishS X mu vh H Z → (m cfg rho vh).W Z → wpAny (model X.prog X.w) X.A (execs sts X.env) (SQ X cfg.hot pins mu vh H Z) X.xe s := ⟨SimB.run⟩
/-- a target; it never raises; the slots ks may be written -/
def GQ (X : Cx) (hot : Option Nat) (pins : List (Addr × Obj)) (mu : List Addr) (vh : VH) (sg : Sl) (H : Hp) (ks : List Nat) (Q : Env → VH → Prop) (s' : Shared) : Prop :=
  ∃ rho' vh' mu' sg' H', Q rho' vh' ∧ Sm X hot pins rho' mu' vh' sg' H' s' ∧ Ex mu vh H mu' vh' H' ∧ ∀ i, i ∉ ks → sg'[i]? = sg[i]?
structure SimG (G : World') (c : Sc) (tg : Expr) (m : Tg) (ks : List Nat) : Prop where
  run : ∀ (cfg : Cfg) (X : Cx), G cfg X → XIn c X → ∀ (pins : List (Addr × Obj)) (rho : Env) (mu : List Addr) (vh : VH) (sg : Sl) (H : Hp) (s : Shared) (v : Val) (x : V) (u : Value) (Q : Env → VH → Prop),
    Sm X cfg.hot pins rho mu vh sg H s → RV X.K mu H v x → RelV x u → (m v cfg rho vh).W Q (fun _ _ _ => False) →
      wpAny (model X.prog X.w) X.A (assign tg X.env u) (fun _ s' => GQ X cfg.hot pins mu vh sg H ks Q s') X.xe s
instance {G : World'} {c : Sc} {tg : Expr} {m : Tg} {ks : List Nat} : CoeFun (SimG G c tg m ks) fun _ => ∀ (cfg : Cfg) (X : Cx), G cfg X → XIn c X → ∀ (pins : List (Addr × Obj)) (rho : Env) (mu : List Addr) (vh : VH) (sg : Sl) (H : Hp) (s : Shared) (v : Val) (x : V) (u : Value) (Q : Env → VH → Prop),
    Sm X cfg.hot pins rho mu vh sg H s → RV X.K mu H v x → RelV x u → (m v cfg rho vh).W Q (fun _ _ _ => False) →
      wpAny (model X.prog X.w) X.A (assign tg X.env u) (fun _ s' => GQ X cfg.hot pins mu vh sg H ks Q s') X.xe s := ⟨SimG.run⟩
structure SimGs (G : World') (c : Sc) (tgs : List Expr) (m : Tgs) (ks : List Nat) : Prop where
  run : ∀ (cfg : Cfg) (X : Cx), G cfg X → XIn c X → ∀ (pins : List (Addr × Obj)) (rho : Env) (mu : List Addr) (vh : VH) (sg : Sl) (H : Hp) (s : Shared) (vs : List Val) (xs : List V) (us : List Value) (Q : Env → VH → Prop),
    Sm X cfg.hot pins rho mu vh sg H s → RVs X.K mu H vs xs → Vals xs us → (m vs cfg rho vh).W Q (fun _ _ _ => False) →
      wpAny (model X.prog X.w) X.A (assignInOrder ((assignEach tgs X.env).map (·.2)) us) (fun _ s' => GQ X cfg.hot pins mu vh sg H ks Q s') X.xe s
instance {G : World'} {c : Sc} {tgs : List Expr} {m : Tgs} {ks : List Nat} : CoeFun (SimGs G c tgs m ks) fun _ => ∀ (cfg : Cfg) (X : Cx), G cfg X → XIn c X → ∀ (pins : List (Addr × Obj)) (rho : Env) (mu : List Addr) (vh : VH) (sg : Sl) (H : Hp) (s : Shared) (vs : List Val) (xs : List V) (us : List Value) (Q : Env → VH → Prop),
    Sm X cfg.hot pins rho mu vh sg H s → RVs X.K mu H vs xs → Vals xs us → (m vs cfg rho vh).W Q (fun _ _ _ => False) →
      wpAny (model X.prog X.w) X.A (assignInOrder ((assignEach tgs X.env).map (·.2)) us) (fun _ s' => GQ X cfg.hot pins mu vh sg H ks Q s') X.xe s := ⟨SimGs.run⟩
/-- the slots go over -/
theorem Sm.put {X : Cx} {hot : Option Nat} {pins : List (Addr × Obj)} {rho : Env} {mu : List Addr} {vh : VH} {sg : Sl} {H : Hp} {s s' : Shared} {i : Nat} {v : Val} {x : V} (S : Sm X hot pins rho mu vh sg H s) (rv : RV X.K mu H v x) (I : Inv X pins (sg.set i (some x)) H s') :
    Sm X hot pins (rho.set i (some v)) mu vh (sg.set i (some x)) H s' := ⟨I, S.rel, S.env.put rv i, S.hot⟩

/-! ### targets -/
def gName (i : Nat) : Tg := fun v _ rho h => .ok (rho.set i (some v)) h
def gNil : Tgs := fun vs _ rho h => match vs with
  | [] => .ok rho h
  | _ => .bad
def gCons (g : Tg) (t : Tgs) : Tgs := fun vs c rho h => match vs with
  | v :: r => (g v c rho h).bind fun rho h => t r c rho h
  | [] => .bad
def gTup (n : Nat) (t : Tgs) : Tg := fun v c rho h => if c.hot.isSome then .bad else match v with
  | .tup vs => if vs.length = n then t vs c rho h else .bad
  | _ => .bad
section
variable {G : World'} {c : Sc} {a b e tg : Expr} {ma mb : Tm} {g : Tg} {gs : Tgs} {es : List Expr} {mt : Ta} {pos : Pos}
/-- a name that may be stored -/
def stB (c : Sc) (x : Str) : Bool := c.st.names.lookup x == some .local || c.st.names.lookup x == some .cell
theorem stB_ok {c : Sc} {x : Str} (h : stB c x = true) : c.st.names.lookup x = some .local ∨ c.st.names.lookup x = some .cell := by
  unfold stB at h
  rw [Bool.or_eq_true] at h
  exact h.imp (fun h => by simpa using h) fun h => by simpa using h
theorem simG_name {i : Nat} {x : Str} (hN : c.N[i]? = some x) (hx : stB c x = true) : SimG G c (.Name x pos) (gName i) [i] := .mk <| by
  intro cfg X g xi pins rho mu vh sg H s v y u Q S rv r q
  obtain ⟨h1, h2⟩ := xi.st x (stB_ok hx)
  exact wpAny_assign_Name (store_ok S.inv xi.nd (by rw [xi.N]; exact hN) h1 r (fun s' I' => ⟨_, vh, mu, _, H, q, S.put rv I', .refl _ _ _, fun j hj => List.getElem?_set_ne fun z => hj (by simp [z])⟩) h2)
theorem simGs_nil : SimGs G c [] gNil [] := .mk <| by
  intro cfg X g xi pins rho mu vh sg H s vs xs us Q S rv r q
  cases rv with
  | nil => cases r; exact assignInOrder_nil ⟨rho, vh, mu, sg, H, q, S, .refl _ _ _, fun _ _ => rfl⟩
  | cons _ _ => exact q.elim
/-- no star -/
theorem assignEach_cons {e : Expr} {es : List Expr} {env : PySem.Env} (h : noStar e = true) : (assignEach (e :: es) env).map (·.2) = assign e env :: (assignEach es env).map (·.2) := by
  cases e <;> first | rfl | cases h
theorem simGs_cons {ks ls : List Nat} (hg : SimG G c tg g ks) (hs : SimGs G c es gs ls) (hn : noStar tg = true) : SimGs G c (tg :: es) (gCons g gs) (ks ++ ls) := .mk <| by
  intro cfg X g' xi pins rho mu vh sg H s vs xs us Q S rv r q
  cases rv with
  | nil => exact q.elim
  | cons rv rvs =>
    cases r with
    | cons r rr =>
      rw [assignEach_cons hn]
      have q' : ((g _ cfg rho vh).bind fun rho h => gs _ cfg rho h).W Q (fun _ _ _ => False) := q
      rw [Out.W_bind] at q'
      refine assignInOrder_cons (thn (hg cfg X g' xi pins rho mu vh sg H s _ _ _ _ S rv r q') fun _ s1 h1 => ?_)
      obtain ⟨rho1, vh1, mu1, sg1, H1, q1, S1, g1, k1⟩ := h1
      refine thn (hs cfg X g' xi pins rho1 mu1 vh1 sg1 H1 s1 _ _ _ _ S1 (rvs.gro g1.gro) rr q1) fun _ _ h => ?_
      obtain ⟨rho2, vh2, mu2, sg2, H2, q2, S2, g2, k2⟩ := h
      exact ⟨rho2, vh2, mu2, sg2, H2, q2, S2, g1.trans g2, fun i hi => (k2 i fun z => hi (List.mem_append_right _ z)).trans (k1 i fun z => hi (List.mem_append_left _ z))⟩
theorem assignEach_star {es : List Expr} {env : PySem.Env} (h : es.all noStar = true) : (assignEach es env).findIdx? (·.1) = none := by
  have key : ∀ es : List Expr, es.all noStar = true → (assignEach es env).all (fun p => !p.1) = true := by
    intro es
    induction es with
    | nil => intro _; rfl
    | cons e es ih =>
      intro h
      rw [List.all_cons, Bool.and_eq_true] at h
      have e1 : (assignEach (e :: es) env).all (fun p => !p.1) = (assignEach es env).all (fun p => !p.1) := by
        cases e <;> first | rfl | cases h.1
      rw [e1]; exact ih h.2
  rw [List.findIdx?_eq_none_iff]
  intro p hp
  have := List.all_eq_true.mp (key es h) p hp
  simpa using this
theorem assignEach_len {env : PySem.Env} : ∀ {es : List Expr}, (assignEach es env).length = es.length
  | [] => rfl
  | e :: es => by
    have e1 : (assignEach (e :: es) env).length = (assignEach es env).length + 1 := by cases e <;> rfl
    rw [e1, assignEach_len]; rfl
theorem simG_tup {k n : Nat} {ks : List Nat} (w : Wd G) (hs : SimGs G c es gs ks) (hn : es.all noStar = true) (hl : es.length = n) : SimG G c (.Tuple es k pos) (gTup n gs) ks := .mk <| by
  intro cfg X g xi pins rho mu vh sg H s v y u Q S rv r q
  unfold gTup at q
  split at q
  · exact q.elim
  · rename_i hh
    have hc : X.calm = true := (w.rm cfg X g).calm (by cases h : cfg.hot with
      | none => rfl
      | some l => rw [h] at hh; exact absurd rfl hh)
    cases rv with
    | tup h rr =>
      rename_i p vs xs
      cases r
      have q1 : (if vs.length = n then gs vs cfg rho vh else .bad).W Q (fun _ _ _ => False) := q
      split at q1
      · rename_i hlen
        obtain ⟨its, rv', ht, hz⟩ := S.inv.tuple h
        refine assign_Tuple_tuple (S.inv.ok.hd hc) ht (by rw [assignEach_len, List.size_toArray, ← rv'.length, ← rr.length, hlen, hl]) (assignEach_star hn) fun h' hx => ?_
        have I1 : Inv X pins sg H { s with heap := h' } := S.inv.kept (t' := s.toks) fun b o e => hx b o (Nat.ne_of_lt (Heap.lt_size e)) e
        exact hs cfg X g xi pins rho mu vh sg H _ vs xs its Q (S.same I1) rr rv' q1
      · exact q1.elim
    | _ => exact q.elim

/-! ### plain statements -/
def sNx : Ts := fun _ rho h => .nx rho h
def sSeq (a b : Ts) : Ts := fun c rho h => (a c rho h).seq fun rho h => b c rho h
def sBrk : Ts := fun _ rho h => .bk rho h
def sCnt : Ts := fun _ rho h => .ct rho h
def sExp (e : Tm) : Ts := fun c rho h => (e c rho h).to rho fun _ h => .nx rho h
def sRet (e : Tm) : Ts := fun c rho h => (e c rho h).to rho fun v h => .rt v h
def sRetN : Ts := fun _ _ h => .rt .non h
def sIf (t : Tt) (a b : Ts) : Ts := fun c rho h => (t c rho h).to rho fun k h => if k then a c rho h else b c rho h
def sAsg (e : Tm) (g : Tg) : Ts := fun c rho h => (e c rho h).to rho fun v h => (g v c rho h).to0 fun rho h => .nx rho h
variable {st : Stmt} {sts : List Stmt} {m n : Ts} {tt : Tt}
theorem simB_nil : SimB G c [] sNx := .mk fun cfg X g xi xs pins rho mu vh sg H s Z S W q => wpAny_execs_nil ⟨rho, vh, mu, sg, H, q, S, .refl _ _ _⟩
theorem simB_cons (h1 : SimS G c st m) (h2 : SimB G c sts n) : SimB G c (st :: sts) (sSeq m n) := .mk <| by
  intro cfg X g xi xs pins rho mu vh sg H s Z S W q
  refine wpAny_execs_cons (thn (h1 cfg X g xi xs pins rho mu vh sg H s (fun o => match o with
    | .nx rho h => (n cfg rho h).W Z
    | o => Z o) S (L2N.Takes.imp W fun _ _ _ _ z => z) (SO.W_seq q)) fun f s1 h => ?_)
  cases f with
  | next =>
    obtain ⟨rho1, vh1, mu1, sg1, H1, q1, S1, g1⟩ := h
    exact thn (h2 cfg X g xi xs pins rho1 mu1 vh1 sg1 H1 s1 Z S1 (W.from g1) q1) fun _ _ h => h.from g1
  | brk => exact h
  | cont => exact h
  | ret u => exact h
theorem simS_pass : SimS G c (.Pass pos) sNx := .mk fun cfg X g xi xs pins rho mu vh sg H s Z S W q => wpAny_Pass ⟨rho, vh, mu, sg, H, q, S, .refl _ _ _⟩
theorem simS_brk : SimS G c (.Break pos) sBrk := .mk fun cfg X g xi xs pins rho mu vh sg H s Z S W q => wpAny_Break ⟨rho, vh, mu, sg, H, q, S, .refl _ _ _⟩
theorem simS_cnt : SimS G c (.Continue pos) sCnt := .mk fun cfg X g xi xs pins rho mu vh sg H s Z S W q => wpAny_Continue ⟨rho, vh, mu, sg, H, q, S, .refl _ _ _⟩
theorem simS_exp (ha : SimE G c a ma) (hs : ∀ env : PySem.Env, swapsWith a none pos.line env = pure false) : SimS G c (.Expr a pos) (sExp ma) := .mk <| by
  intro cfg X g xi xs pins rho mu vh sg H s Z S W q
  unfold sExp at q
  rw [Out.to_W] at q
  refine wpAny_Expr_any (thn (ha cfg X g xi pins rho mu vh sg H s _ _ S (W.ex rho) q) fun u s1 h => ?_) S.inv.quiet (hs _)
  obtain ⟨v, vh1, x, mu1, H1, q1, S1, g1, rv, r⟩ := h
  exact ⟨rho, vh1, mu1, sg, H1, q1, S1, g1⟩
theorem simS_ret (ha : SimE G c a ma) : SimS G c (.Return (some a) pos) (sRet ma) := .mk <| by
  intro cfg X g xi xs pins rho mu vh sg H s Z S W q
  unfold sRet at q
  rw [Out.to_W] at q
  refine wpAny_Return_some (thn (ha cfg X g xi pins rho mu vh sg H s _ _ S (W.ex rho) q) fun u s1 h => ?_)
  obtain ⟨v, vh1, x, mu1, H1, q1, S1, g1, rv, r⟩ := h
  exact ⟨v, vh1, x, mu1, rho, sg, H1, q1, S1, g1, rv, r⟩
theorem simS_retN : SimS G c (.Return none pos) sRetN := .mk fun cfg X g xi xs pins rho mu vh sg H s Z S W q => wpAny_Return_none ⟨.non, vh, .non, mu, rho, sg, H, q, S, .refl _ _ _, .non, rfl⟩
theorem simS_if {p q : List Stmt} (ht : SimT G c e tt) (ha : SimB G c p m) (hb : SimB G c q n) : SimS G c (.If e p q pos) (sIf tt m n) := .mk <| by
  intro cfg X g xi xs pins rho mu vh sg H s Z S W q
  unfold sIf at q
  rw [Out.to_W] at q
  refine wpAny_If (thn (ht cfg X g xi pins rho mu vh sg H s _ _ S (W.ex rho) q) fun k s1 h => ?_)
  obtain ⟨vh1, mu1, H1, q1, S1, g1⟩ := h
  cases k with
  | true => exact thn (ha cfg X g xi xs pins rho mu1 vh1 sg H1 s1 Z S1 (W.from g1) q1) fun _ _ h => h.from g1
  | false => exact thn (hb cfg X g xi xs pins rho mu1 vh1 sg H1 s1 Z S1 (W.from g1) q1) fun _ _ h => h.from g1
theorem simS_asg {ks : List Nat} (ha : SimE G c a ma) (hg : SimG G c tg g ks) (hn : noStar tg = true) (hs : ∀ env : PySem.Env, env.scope = c.sc → swapsWithSole [tg] a pos.line env = pure false) (hw : ∀ env : PySem.Env, env.scope = c.sc → swappedStores [tg] a env = pure none) : SimS G c (.Assign [tg] a pos) (sAsg ma g) := .mk <| by
  intro cfg X g' xi xs pins rho mu vh sg H s Z S W q
  unfold sAsg at q
  rw [Out.to_W] at q
  refine wpAny_Assign_stores (thn (ha cfg X g' xi pins rho mu vh sg H s _ _ S (W.ex rho) q) fun u s1 h => ?_) (hs _ xi.sc) (hw _ xi.sc)
  obtain ⟨v, vh1, x, mu1, H1, q1, S1, g1, rv, r⟩ := h
  rw [assignEach_cons hn]
  refine thn (hg cfg X g' xi pins rho mu1 vh1 sg H1 s1 v x u _ S1 rv r (Out.to0_W q1)) fun _ s2 h2 => ?_
  obtain ⟨rho2, vh2, mu2, sg2, H2, q2, S2, g2, _⟩ := h2
  exact ⟨rho2, vh2, mu2, sg2, H2, q2, S2, g1.trans g2⟩
end
end Pv
end
/-! PvLoop -/
section
set_option Elab.async false
set_option linter.all false
set_option maxRecDepth 100000
set_option autoImplicit false
/-! Pv: loops. -/
namespace Pv
open PySem PySem.Spec PyProof.Rows L2

/-- what a turn is to reach -/
def lpZ (k : Env → VH → SO) (Z : SO → Prop) : SO → Prop
  | .nx rho h => (k rho h).W Z
  | .ct rho h => (k rho h).W Z
  | .bk rho h => Z (.nx rho h)
  | o => Z o
theorem lpZ.wish {X : Cx} {mu : List Addr} {vh : VH} {H : Hp} {k : Env → VH → SO} {Z : SO → Prop} (W : WishS X mu vh H Z) : WishS X mu vh H (lpZ k Z) := W.imp fun _ _ _ _ z => z
/-! ### while -/
def FUEL : Nat := 1000000000000
def whileN (t : Tt) (b : Ts) (c : Cfg) : Nat → Env → VH → SO
  | 0, _, _ => .bad
  | n + 1, rho, h => (t c rho h).to rho fun k h => if k then (match b c rho h with
    | .nx rho h => whileN t b c n rho h
    | .ct rho h => whileN t b c n rho h
    | .bk rho h => .nx rho h
    | o => o) else .nx rho h
def sWhile (t : Tt) (b : Ts) : Ts := fun c rho h => whileN t b c FUEL rho h
section
variable {G : World'} {c : Sc} {e : Expr} {tt : Tt} {m : Ts} {body : List Stmt} {pos : Pos}
theorem simS_while (ht : SimT G c e tt) (hb : SimB G c body m) : SimS G c (.While e body [] pos) (sWhile tt m) := .mk <| by
  intro cfg X g xi xs pins rho mu vh sg H s Z S W q
  refine wpAny_While (codeAny_whileLoop (fun n s' => ∃ rho' mu' vh' sg' H', Sm X cfg.hot pins rho' mu' vh' sg' H' s' ∧ Ex mu vh H mu' vh' H' ∧ (whileN tt m cfg n rho' vh').W Z) ?_ FUEL ⟨rho, mu, vh, sg, H, S, .refl _ _ _, q⟩)
  rintro n s1 ⟨rho1, mu1, vh1, sg1, H1, S1, g1, q1⟩
  cases n with
  | zero => exact q1.elim
  | succ n =>
    unfold whileN at q1
    rw [Out.to_W] at q1
    refine wpAny_passesOwn xs.hp (thn (ht cfg X g xi pins rho1 mu1 vh1 sg1 H1 s1 _ _ S1 ((W.from g1).ex rho1) q1) fun k s2 h => ?_)
    obtain ⟨vh2, mu2, H2, q2, S2, g2⟩ := h
    cases k with
    | false =>
      rw [if_neg Bool.false_ne_true] at q2
      rw [if_neg Bool.false_ne_true]
      exact wpAny_execs_nil ⟨rho1, vh2, mu2, sg1, H2, q2, S2, g1.trans g2⟩
    | true =>
      rw [if_pos rfl] at q2
      rw [if_pos rfl]
      have q3 : (m cfg rho1 vh2).W (lpZ (whileN tt m cfg n) Z) := by
        cases e1 : m cfg rho1 vh2 <;> rw [e1] at q2 <;> exact q2
      refine wpAny_passesOwn xs.hp (thn (hb cfg X g xi xs pins rho1 mu2 vh2 sg1 H2 s2 _ S2 (lpZ.wish (W.from (g1.trans g2))) q3) fun f s3 h3 => ?_)
      cases f with
      | next =>
        obtain ⟨rho3, vh3, mu3, sg3, H3, z, S3, g3⟩ := h3
        exact ⟨n, Nat.lt_succ_self _, rho3, mu3, vh3, sg3, H3, S3, (g1.trans g2).trans g3, z⟩
      | cont =>
        obtain ⟨rho3, vh3, mu3, sg3, H3, z, S3, g3⟩ := h3
        exact ⟨n, Nat.lt_succ_self _, rho3, mu3, vh3, sg3, H3, S3, (g1.trans g2).trans g3, z⟩
      | brk =>
        obtain ⟨rho3, vh3, mu3, sg3, H3, z, S3, g3⟩ := h3
        exact ⟨rho3, vh3, mu3, sg3, H3, z, S3, (g1.trans g2).trans g3⟩
      | ret u =>
        obtain ⟨a, b, c', d, e', i, j, z, S3, g3, r⟩ := h3
        exact ⟨a, b, c', d, e', i, j, z, S3, (g1.trans g2).trans g3, r⟩
end

/-! ### what is walked -/
abbrev Wat := List (Nat × VObj)
def alive (w : Wat) (h : VH) : Bool := w.all fun p => decide (h[p.1]? = some p.2)
abbrev Ti := Cfg → Env → VH → Out (Wat × List Val)
structure Walk (X : Cx) (J : It) (w : Wat) (its : List Val) (mu : List Addr) (vh : VH) (H : Hp) : Prop where
  go : ∀ (i : Nat) (v : Val) (mu2 : List Addr) (vh2 : VH) (H2 : Hp), Rel X.prog X.w X.K mu2 vh2 H2 → Ex mu vh H mu2 vh2 H2 → alive w vh2 = true → its[i]? = some v →
    J.go i H2 ∧ ∀ x H3, J.yld i H2 x H3 → Rel X.prog X.w X.K mu2 vh2 H3 ∧ Ex mu2 vh2 H2 mu2 vh2 H3 ∧ RV X.K mu2 H3 v x
  stop : ∀ (mu2 : List Addr) (vh2 : VH) (H2 : Hp), Rel X.prog X.w X.K mu2 vh2 H2 → Ex mu vh H mu2 vh2 H2 → alive w vh2 = true → J.stop its.length H2
def IQ (X : Cx) (hot : Option Nat) (pins : List (Addr × Obj)) (rho : Env) (mu : List Addr) (vh : VH) (sg : Sl) (H : Hp) (tg : Expr) (Q : Wat × List Val → VH → Prop) (itv : Value) (s' : Shared) : Prop :=
  ∃ (w : Wat) (its : List Val) (vh' : VH) (mu' : List Addr) (H' : Hp) (it : Addr) (fp : List Addr) (tn : Nat → Heap → Prop) (J : It), itv = .ref it ∧ Q (w, its) vh' ∧ Sm X hot pins rho mu' vh' sg H' s' ∧ Ex mu vh H mu' vh' H' ∧
    Turn X.prog X.w X.K tg J fp it tn ∧ tn 0 s'.heap ∧ (∀ b ∈ fp, FpOk X pins H' b) ∧ Walk X J w its mu' vh' H'
def SimI (G : World') (c : Sc) (tg iter : Expr) (m : Ti) : Prop :=
  ∀ (cfg : Cfg) (X : Cx), G cfg X → XIn c X → cfg.hot = none → ∀ (pins : List (Addr × Obj)) (rho : Env) (mu : List Addr) (vh : VH) (sg : Sl) (H : Hp) (s : Shared) (Q : Wat × List Val → VH → Prop) (E : Str → Flds → VH → Prop),
    Sm X cfg.hot pins rho mu vh sg H s → Wish X rho mu vh H E → (m cfg rho vh).W Q E →
      wpAny (model X.prog X.w) X.A (eval iter X.env) (fun v s1 => wpAny (model X.prog X.w) X.A (pyIter v) (IQ X cfg.hot pins rho mu vh sg H tg Q) X.xe s1) X.xe s

/-! ### for -/
def forL (w : Wat) (g : Tg) (b : Ts) (c : Cfg) : List Val → Env → VH → SO
  | [], rho, h => if alive w h then .nx rho h else .bad
  | v :: r, rho, h => if alive w h then (g v c rho h).to0 fun rho h => (match b c rho h with
    | .nx rho h => forL w g b c r rho h
    | .ct rho h => forL w g b c r rho h
    | .bk rho h => .nx rho h
    | o => o) else .bad
def sFor (src : Ti) (g : Tg) (b : Ts) : Ts := fun c rho h => if c.hot.isSome then .bad else (src c rho h).to rho fun p h => forL p.1 g b c p.2 rho h
theorem hot_none {o : Option Nat} (h : ¬ o.isSome = true) : o = none := by
  cases o with
  | none => rfl
  | some l => exact absurd rfl h
section
variable {G : World'} {c : Sc} {tg iter : Expr} {src : Ti} {gt : Tg} {m : Ts} {body : List Stmt} {pos : Pos}
theorem simS_for {ks : List Nat} (w : Wd G) (hi : SimI G c tg iter src) (hg : SimG G c tg gt ks) (hb : SimB G c body m) (hs : ∀ (env : PySem.Env) x, foldedSetIterable iter env x = pure x) : SimS G c (.For tg iter body [] pos) (sFor src gt m) := .mk <| by
  intro cfg X g xi xs pins rho mu vh sg H s Z S W q
  unfold sFor at q
  split at q
  · exact q.elim
  rename_i hh
  have hot := hot_none hh
  have hc : X.calm = true := (w.rm cfg X g).calm hot
  rw [Out.to_W] at q
  refine wpAny_For (thn (hi cfg X g xi hot pins rho mu vh sg H s _ _ S (W.ex rho) q) fun v s1 h1 => thn h1 fun itv s2 h2 => ?_) (hs _)
  obtain ⟨wt, its, vh2, mu2, H2, it, fp, tn, J, e, q2, S2, g2, T, st2, f2, wk⟩ := h2
  subst e
  have stat : ∀ {H' : Hp}, (∀ b ∈ fp, H' b = none) → ∀ b ∈ fp, FpOk X pins H' b := fun hn b hb => ⟨hn b hb, (f2 b hb).2⟩
  refine codeAny_forLoop_any (fun n s' => ∃ (i : Nat) (r : List Val) (rho' : Env) (mu' : List Addr) (vh' : VH) (sg' : Sl) (H' : Hp), its.drop i = r ∧ r.length = n ∧ i ≤ its.length ∧ Sm X cfg.hot pins rho' mu' vh' sg' H' s' ∧ Ex mu2 vh2 H2 mu' vh' H' ∧ tn i s'.heap ∧ (∀ b ∈ fp, H' b = none) ∧ (forL wt gt m cfg r rho' vh').W Z) ?_ its.length
    ⟨0, its, rho, mu2, vh2, sg, H2, rfl, rfl, Nat.zero_le _, S2, .refl _ _ _, st2, fun b hb => (f2 b hb).1, q2⟩
  rintro n s3 ⟨i, r, rho3, mu3, vh3, sg3, H3, er, en, hi3, S3, g3, st3, fr3, q3⟩
  cases r with
  | nil =>
    have q4 : (if alive wt vh3 then SO.nx rho3 vh3 else .bad).W Z := q3
    split at q4
    · rename_i ha
      have hl : i = its.length := by
        have := List.drop_eq_nil_iff.mp er
        omega
      have st := wk.stop mu3 vh3 H3 S3.rel g3 ha
      rw [← hl] at st
      refine wpAny_passesOwn xs.hp (thn (T.done X rfl rfl rfl hc i pins s3 sg3 H3 X.xe S3.inv (stat fr3) st3 st) fun r s4 ⟨hr, I4⟩ => ?_)
      subst hr
      exact wpAny_execs_nil ⟨rho3, vh3, mu3, sg3, H3, q4, S3.same I4, g2.trans g3⟩
    · exact q4.elim
  | cons v r =>
    have q4 : (if alive wt vh3 then (gt v cfg rho3 vh3).to0 fun rho h => (match m cfg rho h with
      | .nx rho h => forL wt gt m cfg r rho h
      | .ct rho h => forL wt gt m cfg r rho h
      | .bk rho h => .nx rho h
      | o => o) else .bad).W Z := q3
    split at q4
    · rename_i ha
      have hv : its[i]? = some v := by
        have := congrArg (fun l => l[0]?) er
        simpa using this
      have hlt : i < its.length := (List.getElem?_eq_some_iff.mp hv).1
      have hr' : its.drop (i + 1) = r := by
        rw [← List.drop_drop, er]; rfl
      obtain ⟨go, yl⟩ := wk.go i v mu3 vh3 H3 S3.rel g3 ha hv
      refine wpAny_passesOwn xs.hp (thn (T.item X rfl rfl rfl hc i pins s3 sg3 H3 X.xe S3.inv (stat fr3) st3 go) fun r s4 ⟨u, hr, h4⟩ => ?_)
      subst hr
      refine wpAny_passesOwn xs.hp (thn h4 fun _ s5 ⟨x, H5, I5, r5, y5, st5, fr5⟩ => ?_)
      obtain ⟨R5, g5, rv5⟩ := yl x H5 y5
      have I5' := I5.pinned (stat fr5) (T.obj _ _ st5)
      have S5 : Sm X cfg.hot (pins ++ pinsAt fp s5.heap) rho3 mu3 vh3 sg3 H5 s5 := ⟨I5', R5, S3.env.gro g5.gro, S3.hot.gro g5.gro g5.exo⟩
      refine wpAny_passesOwn xs.hp (thn (hg cfg X g xi _ rho3 mu3 vh3 sg3 H5 s5 v x u _ S5 rv5 r5 (Out.to0_W q4)) fun _ s6 h6 => ?_)
      obtain ⟨rho6, vh6, mu6, sg6, H6, q6, S6, g6, _⟩ := h6
      have q7 : (m cfg rho6 vh6).W (lpZ (forL wt gt m cfg r) Z) := by
        cases e1 : m cfg rho6 vh6 <;> rw [e1] at q6 <;> exact q6
      have gg : Ex mu vh H mu6 vh6 H6 := ((g2.trans g3).trans g5).trans g6
      refine wpAny_passesOwn xs.hp (thn (hb cfg X g xi xs _ rho6 mu6 vh6 sg6 H6 s6 _ S6 (lpZ.wish (W.from gg)) q7) fun f s7 h7 => ?_)
      have again : ∀ {rho7 vh7 mu7 sg7 H7}, Sm X cfg.hot (pins ++ pinsAt fp s5.heap) rho7 mu7 vh7 sg7 H7 s7 → Ex mu6 vh6 H6 mu7 vh7 H7 → (forL wt gt m cfg r rho7 vh7).W Z →
          ∃ k, k < n ∧ ∃ (i : Nat) (r : List Val) (rho' : Env) (mu' : List Addr) (vh' : VH) (sg' : Sl) (H' : Hp), its.drop i = r ∧ r.length = k ∧ i ≤ its.length ∧ Sm X cfg.hot pins rho' mu' vh' sg' H' s7 ∧ Ex mu2 vh2 H2 mu' vh' H' ∧ tn i s7.heap ∧ (∀ b ∈ fp, H' b = none) ∧ (forL wt gt m cfg r rho' vh').W Z :=
        fun {rho7 vh7 mu7 sg7 H7} S7 g7 z => by
          refine ⟨r.length, by rw [← en]; exact Nat.lt_succ_self _, i + 1, r, rho7, mu7, vh7, sg7, H7, hr', rfl, hlt, ⟨S7.inv.unpinned, S7.rel, S7.env, S7.hot⟩, ((g3.trans g5).trans g6).trans g7, ?_, fun b hb => ?_, z⟩
          · exact T.keep _ _ _ st5 fun b hb o e => (S7.inv.pin (b, o) (List.mem_append_right _ (List.mem_append_right _ (mem_pinsAt hb e)))).1
          · obtain ⟨o, e, d⟩ := T.obj _ _ st5 b hb
            exact (S7.inv.pin (b, o) (List.mem_append_right _ (List.mem_append_right _ (mem_pinsAt hb e)))).2.1
      cases f with
      | next => obtain ⟨rho7, vh7, mu7, sg7, H7, z, S7, g7⟩ := h7; exact again S7 g7 z
      | cont => obtain ⟨rho7, vh7, mu7, sg7, H7, z, S7, g7⟩ := h7; exact again S7 g7 z
      | brk =>
        obtain ⟨rho7, vh7, mu7, sg7, H7, z, S7, g7⟩ := h7
        exact ⟨rho7, vh7, mu7, sg7, H7, z, ⟨S7.inv.unpinned, S7.rel, S7.env, S7.hot⟩, gg.trans g7⟩
      | ret u =>
        obtain ⟨a, b, c', d, e', i', j', z, S7, g7, r'⟩ := h7
        exact ⟨a, b, c', d, e', i', j', z, ⟨S7.inv.unpinned, S7.rel, S7.env, S7.hot⟩, gg.trans g7, r'⟩
    · exact q4.elim
end

/-! ### what one may walk -/
def charsOf (z : Str) : List Val := z.cps.toList.map fun c => .str ⟨#[c]⟩
def srcOf (v : Val) (h : VH) : Option (Wat × List Val) := match v with
  | .tup vs => some ([], vs)
  | .str z => some ([], charsOf z)
  | .ref l => match h[l]? with
    | some (.lst vs) => some ([(l, .lst vs)], vs)
    | some (.frz vs) => some ([(l, .frz vs)], vs)
    | _ => none
  | _ => none
def iVal (a : Tm) : Ti := fun c rho h => (a c rho h).bind fun v h => got (srcOf v h) h
def BIG : Int := 4611686018427387904
def rangeL (lo hi : Int) : List Val := (List.range (hi - lo).toNat).map fun (i : Nat) => .int (lo + i)
def iRange (t : Ta) : Ti := fun c rho h => (t c rho h).bind fun vs h => match vs with
  | [.int j] => if -BIG ≤ j ∧ j < BIG then .ok ([], rangeL 0 j) h else .bad
  | [.int i, .int j] => if -BIG ≤ i ∧ i < BIG ∧ -BIG ≤ j ∧ j < BIG then .ok ([], rangeL i j) h else .bad
  | _ => .bad
section
variable {G : World'} {c : Sc} {tg a b : Expr} {ma mb : Tm} {mt : Ta} {pos p : Pos}
theorem walk_range {X : Cx} {lo : Int} {n : Nat} {mu : List Addr} {vh : VH} {H : Hp} : Walk X (Itr lo n) [] ((List.range n).map fun (i : Nat) => .int (lo + i)) mu vh H where
  go := fun i v mu2 vh2 H2 R g _ hv => by
    rw [List.getElem?_map] at hv
    by_cases hi : i < n
    · rw [List.getElem?_range hi] at hv
      cases hv
      refine ⟨hi, fun x H3 y => ?_⟩
      obtain ⟨rfl, rfl⟩ := y
      exact ⟨R, .refl _ _ _, .int _⟩
    · rw [List.getElem?_eq_none (by simpa using hi)] at hv; cases hv
  stop := fun mu2 vh2 H2 R g _ => by
    show n ≤ _
    simp
theorem simI_range (w : Wd G) {es : List Expr} (ht : SimA G c es mt) (hl : es.length = 1 ∨ es.length = 2) (hs : es.all noStar = true) (hg : c.sc.names.lookup ("range" : Str) = some .globalImplicit) : SimI G c tg (.Call (.Name "range" p) es [] pos) (iRange mt) := by
  intro cfg X g xi hot pins rho mu vh sg H s Q E S W q
  have GL : Gl X "range" := by show X.env.scope.names.lookup _ = _; rw [xi.sc]; exact hg
  cases es with
  | nil => rcases hl with h | h <;> cases h
  | cons e es =>
    rw [List.all_cons, Bool.and_eq_true] at hs
    refine Call_ (ld_blt S.inv GL (w.bl cfg X g "range" (by decide +kernel)) boot_range (PyProof.Rows.callWith_type1 (ht.then g xi S W q fun vs vh1 xs mu1 H1 us s1 S1 g1 rv r hl1 q1 => ?_) (starEach_cons hs.1) (noStars hs.2)))
    have fin : ∀ {lo hi : Int} {R : It → Hp → Prop}, (Q ([], rangeL lo hi) vh1) → ∀ {itv : Value} {s2 : Shared}, PIE X pins sg tg (fun J H' => J = Itr lo (hi - lo).toNat ∧ H' = H1) itv s2 → IQ X cfg.hot pins rho mu vh sg H tg Q itv s2 := by
      intro lo hi R q2 itv s2 h
      obtain ⟨it, fp, tn, J, H', e, I2, T, st, f, eJ, eH⟩ := h
      subst eJ eH
      exact ⟨[], _, vh1, mu1, H', it, fp, tn, _, e, q2, S1.same I2, g1, T, st, f, walk_range⟩
    cases rv with
    | nil => exact q1.elim
    | cons rv rvs =>
      cases r with
      | cons r rr =>
        cases rvs with
        | nil =>
          cases rr
          cases rv with
          | int j =>
            obtain ⟨t, rfl⟩ := r
            have q2 : (if -BIG ≤ j ∧ j < BIG then .ok ([], rangeL 0 j) vh1 else .bad : Out (Wat × List Val)).W Q E := q1
            split at q2
            · rename_i hh
              unfold BIG at hh
              exact call_range_1 (thn (range_it (tg := tg) (R := fun J H' => J = Itr 0 (j - 0).toNat ∧ H' = H1) S1.inv (by omega) (by omega) (by omega) (by omega) ⟨rfl, rfl⟩) fun itv s2 h => fin (R := fun _ _ => True) q2 h)
            · exact q2.elim
          | _ => exact q1.elim
        | cons rv2 rvs =>
          cases rr with
          | cons r2 rr =>
            cases rvs with
            | nil =>
              cases rr
              cases rv with
              | int i =>
                cases rv2 with
                | int j =>
                  obtain ⟨t, rfl⟩ := r
                  obtain ⟨t', rfl⟩ := r2
                  have q2 : (if -BIG ≤ i ∧ i < BIG ∧ -BIG ≤ j ∧ j < BIG then .ok ([], rangeL i j) vh1 else .bad : Out (Wat × List Val)).W Q E := q1
                  split at q2
                  · rename_i hh
                    unfold BIG at hh
                    exact call_range_2 (thn (range_it (tg := tg) (R := fun J H' => J = Itr i (j - i).toNat ∧ H' = H1) S1.inv (by omega) (by omega) (by omega) (by omega) ⟨rfl, rfl⟩) fun itv s2 h => fin (R := fun _ _ => True) q2 h)
                  · exact q2.elim
                | _ => exact q1.elim
              | _ => cases rv2 <;> exact q1.elim
            | cons rv3 rvs => cases rv <;> cases rv2 <;> exact q1.elim
end
end Pv
end
/-! PvSrc -/
section
set_option Elab.async false
set_option linter.all false
set_option maxRecDepth 100000
set_option autoImplicit false
/-! Pv: what is walked: a value, enumerate, reversed, zip. -/
namespace PySem
open Sem (wp)
open AutoSeq1 (wpAny_loadPart')
set_option maxHeartbeats 1000000 in
theorem pv_meets_enumerate_new1 {v : Value} {o : Obj} {H : Heap → Prop} (B : Begins v o H) :
    Meets (Builtin.«enumerate.__new__» ⟨[.type "enumerate", v], []⟩) (fun _ R s => H s.heap ∧
      R (.ok (.ret (.ref (s.heap.push o).objs.size))) { s with heap := (s.heap.push o).push { cls := .type "enumerate", data := .fields #[.none, .bool false, .ref s.heap.objs.size, rawInt 0, .none, .none] } }) :=
  .of_wp fun prog w A R s h => by
    obtain ⟨hp, g, d, tk, os⟩ := s; obtain ⟨h1, h⟩ := h
    have hsub := sub_enumerate
    have q1 : ∀ {A' : Around} {E : Value → Shared → Prop} {Q : Value → Shared → Prop}, Q (.ref hp.objs.size) ⟨hp.push o, g, d, tk, os⟩ → wpAny (model prog w) A' (pyIter v) Q E ⟨hp, g, d, tk, os⟩ :=
      fun q => B.iter prog w _ _ ⟨hp, g, d, tk, os⟩ _ h1 q
    wp_walk using q1
    refine wpAny_stack_any fun st => wpAny_pure ?_
    split
    · rename_i c _ _ _ _ _
      cases (c == Value.type "enumerate")
      · wp_walk using q1
        exact ⟨_, rfl, h⟩
      · wp_walk using q1
        exact ⟨_, rfl, h⟩
    · wp_walk using q1
      exact ⟨_, rfl, h⟩
section
variable {prog : Program} {w : World} {A : Around} {E : Value → Shared → Prop} {s : Shared}
theorem pv_enum_begins {v : Value} {o : Obj} {H : Heap → Prop} {Q : Value → Shared → Prop} (B : Begins v o H) (h1 : H s.heap)
    (h : ∀ h', IsEnum h' (s.heap.objs.size + 1) s.heap.objs.size 0 .none → h'.get? s.heap.objs.size = some o → h'.objs.size = s.heap.objs.size + 2 →
      (∀ b o, s.heap.get? b = some o → h'.get? b = some o) → Q (.ref (s.heap.objs.size + 1)) { s with heap := h' }) :
    wpAny (model prog w) A (call (.type "enumerate") [v]) Q E s := by
  refine callType_new F.called_enumerate (by decide) (F.typeCall_enumerate_1 _) (F.newCall_enumerate_1 _) (fun obj => F.args_object_init_2 obj _) F.entry_enumerate_new
    (pv_meets_enumerate_new1 B) ⟨h1, ?_⟩
  have hz : (s.heap.push o).objs.size = s.heap.objs.size + 1 := Heap.size_push ..
  show _ ∧ _
  rw [hz]
  have he : IsEnum ((s.heap.push o).push { cls := .type "enumerate", data := .fields #[.none, .bool false, .ref s.heap.objs.size, rawInt 0, .none, .none] }) (s.heap.objs.size + 1) s.heap.objs.size 0 .none := by
    have := Heap.get?_push_size (s.heap.push o) (o := { cls := .type "enumerate", data := .fields #[.none, .bool false, .ref s.heap.objs.size, rawInt 0, .none, .none] }) rfl
    rw [hz] at this; exact this
  refine ⟨⟨_, he, rfl⟩, h _ he (Heap.get?_push_of_some _ (Heap.get?_push_size _ B.free)) (by rw [Heap.size_push, hz]) fun b o x => Heap.get?_push_of_some _ (Heap.get?_push_of_some _ x)⟩
end
end PySem
namespace Pv
open PySem PySem.Spec PyProof.Rows L2

/-! ### a value walked -/
/-- the list at a, told by the pure heap -/
theorem Rel.lstAt {P : Program} {w : World} {K : PySem.W.Frag} {mu : List Addr} {vh : VH} {H : Hp} (R : Rel P w K mu vh H) {l : Nat} {a : Addr} {vs : List Val} (hm : mu[l]? = some a) (h : vh[l]? = some (.lst vs) ∨ vh[l]? = some (.frz vs)) : ∃ xs, SqL K H a xs ∧ RVs K mu H vs xs := by
  rcases h with h | h
  · obtain ⟨xs, h1, h2⟩ := R.obj l a _ hm h
    exact ⟨xs, SqL.of h1, h2⟩
  · obtain ⟨xs, h1, h2⟩ := R.obj l a _ hm h
    exact ⟨xs, h1.sq, h2⟩
theorem alive_at {l : Nat} {o : VObj} {vh : VH} {w : Wat} (h : alive ((l, o) :: w) vh = true) : vh[l]? = some o := by
  unfold alive at h
  rw [List.all_cons, Bool.and_eq_true] at h
  exact of_decide_eq_true h.1
theorem alive_tl {p : Nat × VObj} {vh : VH} {w : Wat} (h : alive (p :: w) vh = true) : alive w vh = true := by
  unfold alive at h ⊢
  rw [List.all_cons, Bool.and_eq_true] at h
  exact h.2
/-- two readings of one list agree -/
theorem sqL_fun {P : Program} {w : World} {K : PySem.W.Frag} {mu : List Addr} {vh : VH} {H : Hp} {a : Addr} {xs ys : List V} (hx : SqL K H a xs) (hy : SqL K H a ys) (I : ∀ xs ys, SqL K H a xs → SqL K H a ys → xs = ys) : xs = ys := I xs ys hx hy
theorem walk_lst {X : Cx} {l : Nat} {a : Addr} {o : VObj} {vs : List Val} {mu : List Addr} {vh : VH} {H : Hp} (hm : mu[l]? = some a) (ho : o = .lst vs ∨ o = .frz vs) : Walk X (Itl X.K a) [(l, o)] vs mu vh H where
  go := fun i v mu2 vh2 H2 R g al hv => by
    have e := alive_at al
    obtain ⟨xs, h1, h2⟩ := R.lstAt (g.gro.at hm) (vs := vs) (by rcases ho with rfl | rfl <;> simp [e])
    obtain ⟨x, e1, rv⟩ := h2.get hv
    refine ⟨⟨xs, x, h1, e1⟩, fun y H3 hy => ?_⟩
    obtain ⟨rfl, hy⟩ := hy
    have e2 := hy xs h1
    rw [e1] at e2
    cases e2
    exact ⟨R, .refl _ _ _, rv⟩
  stop := fun mu2 vh2 H2 R g al => by
    have e := alive_at al
    obtain ⟨xs, h1, h2⟩ := R.lstAt (g.gro.at hm) (vs := vs) (by rcases ho with rfl | rfl <;> simp [e])
    exact ⟨xs, h1, Nat.le_of_eq h2.length.symm⟩
theorem walk_tup {X : Cx} {a : Addr} {vs : List Val} {xs : List V} {mu : List Addr} {vh : VH} {H : Hp} (h : SqT X.K H a xs) (r : RVs X.K mu H vs xs) : Walk X (Itt X.K a) [] vs mu vh H where
  go := fun i v mu2 vh2 H2 R g al hv => by
    have h1 := g.gro.sqT h
    obtain ⟨x, e1, rv⟩ := (r.gro g.gro).get hv
    refine ⟨⟨xs, x, h1, e1⟩, fun y H3 hy => ?_⟩
    obtain ⟨rfl, hy⟩ := hy
    have e2 := hy xs h1
    rw [e1] at e2
    cases e2
    exact ⟨R, .refl _ _ _, rv⟩
  stop := fun mu2 vh2 H2 R g al => ⟨xs, g.gro.sqT h, Nat.le_of_eq r.length.symm⟩
theorem strOk_one {z : Str} (h : PyData.strOk z = true) {c : Nat} (hc : c ∈ z.cps.toList) : okS ⟨#[c]⟩ := by
  refine ⟨(strOk_iff _).mpr fun d hd => ?_, by show (#[c] : Array Nat).size ≤ sizeLine; rw [sizeLine_eq]; simp⟩
  have : d = c := by simpa using hd
  subst this
  exact (strOk_iff z).mp h d hc
theorem walk_str {X : Cx} {z : Str} {mu : List Addr} {vh : VH} {H : Hp} (hz : okS z) : Walk X (Its z) [] (charsOf z) mu vh H where
  go := fun i v mu2 vh2 H2 R g al hv => by
    unfold charsOf at hv
    rw [List.getElem?_map] at hv
    have hi : i < z.cps.size := by
      by_cases hi : i < z.cps.size
      · exact hi
      · rw [List.getElem?_eq_none (by simpa using hi)] at hv; cases hv
    have e1 : z.cps.toList[i]? = some z.cps[i] := by simp [hi]
    rw [e1] at hv
    cases hv
    refine ⟨hi, fun y H3 hy => ?_⟩
    obtain ⟨rfl, c, e2, rfl⟩ := hy
    have e3 : z.cps[i]? = some z.cps[i] := by simp [hi]
    rw [e3] at e2
    cases e2
    exact ⟨R, .refl _ _ _, .str (strOk_one hz.1 (List.mem_of_getElem? e1))⟩
  stop := fun mu2 vh2 H2 R g al => by
    show z.cps.size ≤ _
    unfold charsOf
    simp
/-- an iterator just made over a value -/
theorem iter_val {X : Cx} {hot : Option Nat} {pins : List (Addr × Obj)} {rho : Env} {mu mu1 : List Addr} {vh vh1 : VH} {sg : Sl} {H H1 : Hp} {s1 : Shared} {tg : Expr} {Q : Wat × List Val → VH → Prop} {E : Value → Shared → Prop} {v : Val} {x : V} {u : Value} {p : Wat × List Val}
    (S1 : Sm X hot pins rho mu1 vh1 sg H1 s1) (g1 : Ex mu vh H mu1 vh1 H1) (rv : RV X.K mu1 H1 v x) (r : RelV x u) (e : srcOf v vh1 = some p) (q : Q p vh1) :
    wpAny (model X.prog X.w) X.A (pyIter u) (IQ X hot pins rho mu vh sg H tg Q) E s1 := by
  have one : ∀ {J : It} {tn : Nat → Heap → Prop} (o : Obj) (T : Turn X.prog X.w X.K tg J [s1.heap.objs.size] s1.heap.objs.size tn) (st : tn 0 (s1.heap.push o)) (w : Walk X J p.1 p.2 mu1 vh1 H1),
      IQ X hot pins rho mu vh sg H tg Q (.ref s1.heap.objs.size) { s1 with heap := s1.heap.push o } := fun {J tn} o T st w =>
    ⟨p.1, p.2, vh1, mu1, H1, _, [s1.heap.objs.size], tn, J, rfl, q, S1.same (S1.inv.kept (t' := s1.toks) fun b o e => Heap.get?_push_of_some _ e), g1, T, st, fun b hb => by
      have e : b = s1.heap.objs.size := by simpa using hb
      subst e
      exact S1.inv.fpOk (Nat.le_refl _) (S1.inv.hok.fresh (Nat.le_refl _)), w⟩
  cases rv with
  | tup h rr =>
    rename_i a vs xs
    cases r
    cases e
    obtain ⟨its, rv', pt, hz⟩ := S1.inv.tuple h
    exact wpAny_pyIter_tuple (show s1.heap.IsTuple a its.toArray from pt) (one _ (turn_tuple a _) ⟨_, Heap.get?_push_size _ rfl, rfl, rfl⟩ (walk_tup h rr))
  | str h =>
    rename_i z
    obtain ⟨t, rfl⟩ := r
    cases e
    cases ha : z.cps.all (· < 128)
    · exact wpAny_pyIter_wide ha (one _ (turn_str _ z t "str_iterator" (.inr rfl)) ⟨_, Heap.get?_push_size _ rfl, rfl, rfl⟩ (walk_str h))
    · exact wpAny_pyIter_ascii ha (one _ (turn_str _ z t "str_ascii_iterator" (.inl rfl)) ⟨_, Heap.get?_push_size _ rfl, rfl, rfl⟩ (walk_str h))
  | ref h =>
    rename_i l a
    cases r
    have key : ∀ (o : VObj) (vs : List Val), vh1[l]? = some o → (o = .lst vs ∨ o = .frz vs) → p = ([(l, o)], vs) → wpAny (model X.prog X.w) X.A (pyIter (.ref a)) (IQ X hot pins rho mu vh sg H tg Q) E s1 := by
      intro o vs ho hk ep
      subst ep
      obtain ⟨xs, h1, h2⟩ := S1.rel.lstAt (vs := vs) h (by rcases hk with rfl | rfl <;> simp [ho])
      obtain ⟨its, rv', pl, hz⟩ := S1.inv.list h1
      exact wpAny_pyIter_list pl.isList (one _ (turn_list a _) ⟨_, Heap.get?_push_size _ rfl, rfl, rfl⟩ (walk_lst h hk))
    have e' : (match vh1[l]? with
      | some (.lst vs) => some ([(l, .lst vs)], vs)
      | some (.frz vs) => some ([(l, .frz vs)], vs)
      | _ => none) = some p := e
    split at e'
    · rename_i vs ho
      exact key _ vs ho (.inl rfl) (Option.some.inj e').symm
    · rename_i vs ho
      exact key _ vs ho (.inr rfl) (Option.some.inj e').symm
    · cases e'
  | non => cases e
  | bl b => cases e
  | int i => cases e
  | glo x => cases e
theorem simI_val {G : World'} {c : Sc} {tg a : Expr} {ma : Tm} (ha : SimE G c a ma) : SimI G c tg a (iVal ma) := by
  intro cfg X g xi hot pins rho mu vh sg H s Q E S W q
  refine ha.then g xi S W q fun v vh1 x mu1 H1 u s1 S1 g1 rv r q1 => ?_
  obtain ⟨p, e, q2⟩ := got_W q1
  exact iter_val S1 g1 rv r e q2
end Pv
end
/-! PvEnum -/
section
set_option Elab.async false
set_option linter.all false
set_option maxRecDepth 100000
set_option autoImplicit false
/-! Pv: enumerate, reversed. -/
namespace Pv
open PySem PySem.Spec PyProof.Rows L2

/-! ### enumerate(tuple) -/
def IteT (K : PySem.W.Frag) (a : Addr) : It :=
  ⟨fun i H => ∃ (xs : List V) (x : V), SqT K H a xs ∧ xs[i]? = some x, fun i H v H' => ∃ T x, v = .ref T ∧ H T = none ∧ H' = upd H T (.tup [.int (i : Nat), x]) ∧ ∀ xs, SqT K H a xs → xs[i]? = some x, fun i H => ∃ xs : List V, SqT K H a xs ∧ xs.length = i⟩
theorem turn_enumT {P : Program} {w : World} {K : PySem.W.Frag} {elts : List Expr} {kk : Nat} {tpos : Pos} (a e it : Addr) :
    Turn P w K (.Tuple elts kk tpos) (IteT K a) [e, it] e (fun i h => (∃ old, IsEnum h e it ((i : Nat) : Int) old) ∧ h.IsTupleIter it a i ∧ e ≠ it ∧ a ≠ e ∧ a ≠ it) where
  mem := by simp
  obj := fun i h st b hb => by
    obtain ⟨⟨old, he⟩, ⟨o, ho, hc, hd⟩, _⟩ := st
    have e' : b = e ∨ b = it := by simpa using hb
    rcases e' with z | z
    · rw [z]; exact ⟨_, he, fun v q => nomatch q⟩
    · rw [z]; exact ⟨o, ho, fun v q => by rw [hd] at q; cases q⟩
  keep := fun i h h' st k => let ⟨⟨old, he⟩, hi, hne⟩ := st; ⟨⟨old, k e (by simp) _ he⟩, hi.at fun o q => k it (by simp) o q, hne⟩
  item := by
    intro X hP hw hK hc i pins s σ H E I hf st hg
    subst hP hw hK
    obtain ⟨⟨old, he⟩, hit, hne, hae, hai⟩ := st
    obtain ⟨xs, x, hq, hx⟩ := hg
    obtain ⟨its, rv, p, hz⟩ := I.tuple hq
    obtain ⟨u, hu, ru⟩ := rv.get hx
    have hel : e < s.heap.objs.size := Heap.lt_size he
    have hil : it < s.heap.objs.size := by obtain ⟨_, q, _⟩ := hit; exact Heap.lt_size q
    have D : Draws X.prog X.w X.A.in1 it [it, a] its.toArray.size _ _ := Draws.tuple (show X.A.in1.handled = none from I.ok.hd hc) it a hai its.toArray
    have hlt : i < its.toArray.size := by
      rw [List.size_toArray]
      exact (List.getElem?_eq_some_iff.mp hu).1
    refine wpAny_pyNext_enum_itemC D he ⟨hit, p⟩ hlt hne (by simp; exact ⟨hne, Ne.symm hae⟩) fun y h' tk hy ho hst' hT hsz hk => ?_
    have ey : y = u := by
      have hy' : its.toArray[i]? = some y := hy
      have : its[i]? = some y := by simpa using hy'
      rw [hu] at this; exact (Option.some.inj this).symm
    subst ey
    have hit' := hst'.1
    refine ⟨_, rfl, wpAny_letOwnedTupleGo_enum (s := { s with heap := h', toks := tk + 1 }) ho fun h'' he' sb => ?_⟩
    have hT2 : h''.get? s.heap.objs.size = some { cls := .type "tuple", data := .seq #[.int i tk, y] } := (sb.2 _ (Nat.ne_of_gt hel)).trans hT
    have new : ObjOk X.prog X.w (upd H s.heap.objs.size (.tup [.int (i : Nat), x])) h'' s.heap.objs.size (.tup [.int (i : Nat), x]) :=
      ⟨by show 2 ≤ sizeLine; decide, [.int i tk, y], .cons ⟨_, rfl⟩ (.cons ru .nil), ⟨_, hT2, rfl, _, rfl⟩⟩
    have I1 : Inv X pins σ (upd H s.heap.objs.size (.tup [.int (i : Nat), x])) { s with heap := h'', toks := tk + 1 } :=
      I.turnedNew (ch := [e, it]) (fun b ob hb q => (sb.2 b (fun z => hb (by simp [z]))).trans (hk b ob (fun z => hb (by simp [z])) (fun z => hb (by simp [z])) q)) hf (Nat.le_refl _) new
    refine ⟨.ref s.heap.objs.size, _, I1, rfl, ⟨_, x, rfl, I.hok.fresh (Nat.le_refl _), rfl, fun ys hy => by rw [I.tuple_inj hy hq]; exact hx⟩, ⟨⟨y, ?_⟩, hit'.at fun o q => (sb.2 it (Ne.symm hne)).trans q, hne, hae, hai⟩, fun b hb => ?_⟩
    · have e1 : ((i + 1 : Nat) : Int) = (i : Int) + 1 := by omega
      rw [e1]; exact he'
    · have hb' : b < s.heap.objs.size := by
        have e' : b = e ∨ b = it := by simpa using hb
        rcases e' with z | z
        · rw [z]; exact hel
        · rw [z]; exact hil
      rw [upd_ne (Nat.ne_of_lt hb')]
      exact (hf b hb).1
  done := by
    intro X hP hw hK hc i pins s σ H E I hf st hg
    subst hP hw hK
    obtain ⟨⟨old, he⟩, hit, hne, hae, hai⟩ := st
    obtain ⟨xs, hq, hx⟩ := hg
    obtain ⟨its, rv, p, hz⟩ := I.tuple hq
    obtain ⟨f0, f1, f2, f3, f4, f5⟩ := hf it (by simp)
    have D : Draws X.prog X.w X.A.in1 it [it, a] its.toArray.size _ _ := Draws.tuple (show X.A.in1.handled = none from I.ok.hd hc) it a hai its.toArray
    have hl : i = its.toArray.size := by rw [List.size_toArray, ← rv.length, hx]
    refine wpAny_pyNext_enum_endD D he (by rw [← hl]; exact ⟨hit, p⟩) fun h' eb => ⟨rfl, I.turned (t' := s.toks) (fun b o hb q => eb b o hb q) f0 f1 f3 f4 f5⟩
  self := fun A i s Q E st h => let ⟨⟨_, he⟩, _⟩ := st; wpAny_pyIter_enum he h

def enumL (n : Nat) : List Val → List Val
  | [] => []
  | v :: r => .tup [.int n, v] :: enumL (n + 1) r
theorem enumL_get : ∀ (vs : List Val) (n i : Nat), (enumL n vs)[i]? = (vs[i]?).map fun v => .tup [.int ((n + i : Nat) : Int), v]
  | [], _, _ => rfl
  | v :: r, n, 0 => rfl
  | v :: r, n, i + 1 => by
    show (enumL (n + 1) r)[i]? = _
    rw [enumL_get r (n + 1) i]
    have e : n + 1 + i = n + (i + 1) := by omega
    rw [e]; rfl
theorem enumL_len : ∀ (vs : List Val) (n : Nat), (enumL n vs).length = vs.length
  | [], _ => rfl
  | _ :: r, n => by show (enumL (n + 1) r).length + 1 = _; rw [enumL_len r]; rfl
/-- a new pair comes -/
theorem pair_new {P : Program} {w : World} {K : PySem.W.Frag} {mu : List Addr} {vh : VH} {H : Hp} (R : Rel P w K mu vh H) {T : Addr} {vs : List Val} {xs : List V} (hT : H T = none) (r : RVs K mu H vs xs) :
    Rel P w K mu vh (upd H T (.tup xs)) ∧ Ex mu vh H mu vh (upd H T (.tup xs)) ∧ RV K mu (upd H T (.tup xs)) (.tup vs) (.ref T) :=
  ⟨R.laid hT, Ex.laid hT, .tup (SqT.of upd_same) (r.gro (Gro.new0 hT))⟩
theorem walk_enumL {X : Cx} {l : Nat} {a : Addr} {o : VObj} {vs : List Val} {mu : List Addr} {vh : VH} {H : Hp} (hm : mu[l]? = some a) (ho : o = .lst vs ∨ o = .frz vs) : Walk X (Ite X.K a) [(l, o)] (enumL 0 vs) mu vh H where
  go := fun i v mu2 vh2 H2 R g al hv => by
    have e := alive_at al
    obtain ⟨xs, h1, h2⟩ := R.lstAt (g.gro.at hm) (vs := vs) (by rcases ho with rfl | rfl <;> simp [e])
    rw [enumL_get] at hv
    obtain ⟨v0, e0, rfl⟩ := Option.map_eq_some_iff.mp hv
    obtain ⟨x, e1, rv⟩ := h2.get e0
    refine ⟨⟨xs, x, h1, e1⟩, fun y H3 hy => ?_⟩
    obtain ⟨T, x', rfl, hT, rfl, hy⟩ := hy
    have e2 := hy xs h1
    rw [e1] at e2
    cases e2
    rw [Nat.zero_add]
    exact pair_new R hT (.cons (.int _) (.cons rv .nil))
  stop := fun mu2 vh2 H2 R g al => by
    have e := alive_at al
    obtain ⟨xs, h1, h2⟩ := R.lstAt (g.gro.at hm) (vs := vs) (by rcases ho with rfl | rfl <;> simp [e])
    exact ⟨xs, h1, by rw [enumL_len]; exact Nat.le_of_eq h2.length.symm⟩
theorem walk_enumT {X : Cx} {a : Addr} {vs : List Val} {xs : List V} {mu : List Addr} {vh : VH} {H : Hp} (h : SqT X.K H a xs) (r : RVs X.K mu H vs xs) : Walk X (IteT X.K a) [] (enumL 0 vs) mu vh H where
  go := fun i v mu2 vh2 H2 R g al hv => by
    have h1 := g.gro.sqT h
    rw [enumL_get] at hv
    obtain ⟨v0, e0, rfl⟩ := Option.map_eq_some_iff.mp hv
    obtain ⟨x, e1, rv⟩ := (r.gro g.gro).get e0
    refine ⟨⟨xs, x, h1, e1⟩, fun y H3 hy => ?_⟩
    obtain ⟨T, x', rfl, hT, rfl, hy⟩ := hy
    have e2 := hy xs h1
    rw [e1] at e2
    cases e2
    rw [Nat.zero_add]
    exact pair_new R hT (.cons (.int _) (.cons rv .nil))
  stop := fun mu2 vh2 H2 R g al => ⟨xs, g.gro.sqT h, by rw [enumL_len]; exact r.length.symm⟩
def iEnum (a : Tm) : Ti := fun c rho h => (a c rho h).bind fun v h => (got (match v with
  | .str _ => none
  | v => srcOf v h) h).bind fun p h => .ok (p.1, enumL 0 p.2) h
theorem simI_enum {G : World'} {c : Sc} {a : Expr} {ma : Tm} {elts : List Expr} {kk : Nat} {tpos p pos : Pos} (w : Wd G) (ha : SimE G c a ma) (hn : noStar a = true) (hg : c.sc.names.lookup ("enumerate" : Str) = some .globalImplicit) :
    SimI G c (.Tuple elts kk tpos) (.Call (.Name "enumerate" p) [a] [] pos) (iEnum ma) := by
  intro cfg X g xi hot pins rho mu vh sg H s Q E S W q
  have GL : Gl X "enumerate" := by show X.env.scope.names.lookup _ = _; rw [xi.sc]; exact hg
  refine Call_ (ld_blt S.inv GL (w.bl cfg X g "enumerate" (by decide +kernel)) boot_enumerate (PyProof.Rows.callWith_type1 ?_ (starEach_cons hn) rfl))
  rw [starEach_cons hn]
  refine Calls.spliced_cons (ha.then g xi S W q fun v vh1 x mu1 H1 u s1 S1 g1 rv r q1 => Calls.spliced_nil ?_)
  rw [Out.W_bind] at q1
  obtain ⟨pr, e, q2⟩ := got_W q1
  have q3 : Q (pr.1, enumL 0 pr.2) vh1 := q2
  have two : ∀ {J : It} {tn : Nat → Heap → Prop} {h' : Heap} (hk : ∀ b o, s1.heap.get? b = some o → h'.get? b = some o) (T : Turn X.prog X.w X.K (.Tuple elts kk tpos) J [s1.heap.objs.size + 1, s1.heap.objs.size] (s1.heap.objs.size + 1) tn) (st : tn 0 h') (w : Walk X J pr.1 (enumL 0 pr.2) mu1 vh1 H1),
      IQ X cfg.hot pins rho mu vh sg H (.Tuple elts kk tpos) Q (.ref (s1.heap.objs.size + 1)) { s1 with heap := h' } := fun {J tn h'} hk T st w =>
    ⟨pr.1, _, vh1, mu1, H1, _, [s1.heap.objs.size + 1, s1.heap.objs.size], tn, J, rfl, q3, S1.same (S1.inv.kept (t' := s1.toks) hk), g1, T, st, fun b hb => by
      have e' : b = s1.heap.objs.size + 1 ∨ b = s1.heap.objs.size := by simpa using hb
      have hle : s1.heap.objs.size ≤ b := by
        rcases e' with z | z
        · rw [z]; exact Nat.le_add_right _ _
        · rw [z]; exact Nat.le_refl _
      exact S1.inv.fpOk hle (S1.inv.hok.fresh hle), w⟩
  cases rv with
  | tup h rr =>
    rename_i a vs xs
    cases r
    cases e
    obtain ⟨its, rv', pt, hz⟩ := S1.inv.tuple h
    have hlt : a < s1.heap.objs.size := IsTup.lt pt
    refine pv_enum_begins (begins_tuple a its.toArray) (show s1.heap.IsTuple a its.toArray from pt) fun h' he hit hsz hk => wpAny_pyIter_enum he ?_
    exact two hk (turn_enumT a (s1.heap.objs.size + 1) s1.heap.objs.size) ⟨⟨.none, he⟩, ⟨_, hit, rfl, rfl⟩, Nat.succ_ne_self _, Nat.ne_of_lt (Nat.lt_succ_of_lt hlt), Nat.ne_of_lt hlt⟩ (walk_enumT h rr)
  | ref h =>
    rename_i l a
    cases r
    have key : ∀ (o : VObj) (vs : List Val), vh1[l]? = some o → (o = .lst vs ∨ o = .frz vs) → pr = ([(l, o)], vs) → wpAny (model X.prog X.w) X.A (call (.type "enumerate") [.ref a]) (fun v s1 => wpAny (model X.prog X.w) X.A (pyIter v) (IQ X cfg.hot pins rho mu vh sg H (.Tuple elts kk tpos) Q) X.xe s1) X.xe s1 := by
      intro o vs ho hk ep
      subst ep
      obtain ⟨xs, h1, h2⟩ := S1.rel.lstAt (vs := vs) h (by rcases hk with rfl | rfl <;> simp [ho])
      obtain ⟨its, rv', pl, hz⟩ := S1.inv.list h1
      refine call_enumerate_list pl.isList fun h' he hit hsz hk' => wpAny_pyIter_enum he ?_
      exact two hk' (turn_enum a (s1.heap.objs.size + 1) s1.heap.objs.size) ⟨⟨.none, he⟩, hit, Nat.succ_ne_self _⟩ (walk_enumL h hk)
    have e' : (match vh1[l]? with
      | some (.lst vs) => some ([(l, .lst vs)], vs)
      | some (.frz vs) => some ([(l, .frz vs)], vs)
      | _ => none) = some pr := e
    split at e'
    · rename_i vs ho
      exact key _ vs ho (.inl rfl) (Option.some.inj e').symm
    · rename_i vs ho
      exact key _ vs ho (.inr rfl) (Option.some.inj e').symm
    · cases e'
  | str h => cases e
  | non => cases e
  | bl b => cases e
  | int i => cases e
  | glo x => cases e
end Pv
end
/-! PvComp -/
section
set_option Elab.async false
set_option linter.all false
set_option maxRecDepth 100000
set_option autoImplicit false
/-! Pv: list comprehensions. -/
namespace Pv
open PySem PySem.Spec PyProof.Rows L2

/-- what never raises, then more -/
def Out.bn {α β : Type} (o : Out α) (k : α → VH → Out β) : Out β := match o with
  | .ok a h => k a h
  | _ => .bad
@[simp] theorem Out.bn_ok {α β : Type} (a : α) (h : VH) (k : α → VH → Out β) : (Out.ok a h).bn k = k a h := rfl
theorem Out.bn_W {α β : Type} {o : Out α} {k : α → VH → Out β} {Q : β → VH → Prop} {E : Str → Flds → VH → Prop} (h : (o.bn k).W Q E) : o.W (fun a h => (k a h).W Q E) (fun _ _ _ => False) := by
  cases o with
  | ok a v => exact h
  | er c f v => exact h
  | bad => exact h
/-- slots forgotten -/
def wipeE (rho : Env) : List Nat → Env
  | [] => rho
  | v :: vs => (wipeE rho vs).set v none
theorem REnv.wipe {K : PySem.W.Frag} {mu : List Addr} {H : Hp} {rho : Env} {sg : Sl} (h : REnv K mu H rho sg) : ∀ vs : List Nat, REnv K mu H (wipeE rho vs) (wipe sg vs)
  | [] => h
  | v :: vs => (REnv.wipe h vs).del v
theorem wipe_get {σ : L2.St} {i : Nat} : ∀ {vs : List Nat}, i ∈ vs → i < σ.length → (wipe σ vs)[i]? = some none
  | [], h, _ => by cases h
  | v :: vs, h, hl => by
    unfold wipe
    by_cases e : v = i
    · subst e
      exact List.getElem?_set_self (by rw [wipe_length]; exact hl)
    · rw [List.getElem?_set_ne e]
      exact wipe_get ((List.mem_cons.mp h).resolve_left fun z => e z.symm) hl
theorem wipe_same {σ τ : L2.St} {vs ks : List Nat} (hl : τ.length = σ.length) (hk : ∀ i ∈ ks, i ∈ vs) (h : ∀ i, i ∉ ks → τ[i]? = σ[i]?) : wipe τ vs = wipe σ vs := by
  refine List.ext_getElem? fun i => ?_
  by_cases hi : i ∈ vs
  · by_cases hb : i < σ.length
    · rw [wipe_get hi hb, wipe_get hi (by omega)]
    · rw [List.getElem?_eq_none (by rw [wipe_length]; omega), List.getElem?_eq_none (by rw [wipe_length]; omega)]
  · rw [wipe_out hi, wipe_out hi]
    exact h i fun z => hi (hk i z)

/-! ### readings of the layer -/
section
variable {X : Cx}
def tE (X : Cx) (cfg : Cfg) (m : Tm) : TE := fun σ H Q => ∃ rho mu vh, Rel X.prog X.w X.K mu vh H ∧ REnv X.K mu H rho σ ∧ (m cfg rho vh).W (fun v vh' => ∀ x mu' H', Rel X.prog X.w X.K mu' vh' H' → Ex mu vh H mu' vh' H' → RV X.K mu' H' v x → Q x H') (fun _ _ _ => False)
def tT (X : Cx) (cfg : Cfg) (m : Tt) : TT := fun σ H Q => ∃ rho mu vh, Rel X.prog X.w X.K mu vh H ∧ REnv X.K mu H rho σ ∧ (m cfg rho vh).W (fun b vh' => ∀ mu' H', Rel X.prog X.w X.K mu' vh' H' → Ex mu vh H mu' vh' H' → Q b H') (fun _ _ _ => False)
theorem pe_of {G : World'} {c : Sc} {e : Expr} {m : Tm} (h : SimE G c e m) {cfg : Cfg} (hot : cfg.hot = none) (g : G cfg X) (xi : XIn c X) : PE X e (tE X cfg m) := by
  refine ⟨fun pins s σ H Q I ⟨rho, mu, vh, R, N, q⟩ => ?_⟩
  have S : Sm X cfg.hot pins rho mu vh σ H s := ⟨I, R, N, by rw [hot]; trivial⟩
  refine thn (h cfg X g xi pins rho mu vh σ H s _ _ S (Wish.none rho) q) fun u s1 hq => ?_
  obtain ⟨v, vh', x, mu', H', q1, S1, g1, rv, r⟩ := hq
  exact ⟨x, H', S1.inv, r, q1 x mu' H' S1.rel g1 rv⟩
theorem pt_of {G : World'} {c : Sc} {e : Expr} {m : Tt} (h : SimT G c e m) {cfg : Cfg} (hot : cfg.hot = none) (g : G cfg X) (xi : XIn c X) : PT X e (tT X cfg m) := by
  refine ⟨fun pins s σ H Q I ⟨rho, mu, vh, R, N, q⟩ => ?_⟩
  have S : Sm X cfg.hot pins rho mu vh σ H s := ⟨I, R, N, by rw [hot]; trivial⟩
  refine thn (h cfg X g xi pins rho mu vh σ H s _ _ S (Wish.none rho) q) fun u s1 hq => ?_
  obtain ⟨vh', mu', H', q1, S1, g1⟩ := hq
  exact ⟨H', S1.inv, q1 mu' H' S1.rel g1⟩
def tG (X : Cx) (cfg : Cfg) (m : Tg) (vs : List Nat) : TG := fun x σ H Q => ∃ v rho mu vh, Rel X.prog X.w X.K mu vh H ∧ REnv X.K mu H rho σ ∧ RV X.K mu H v x ∧ (m v cfg rho vh).W (fun rho' vh' => ∀ mu' σ' H', Rel X.prog X.w X.K mu' vh' H' → Ex mu vh H mu' vh' H' → REnv X.K mu' H' rho' σ' → wipe σ' vs = wipe σ vs → Q σ' H') (fun _ _ _ => False)
theorem pg_of {G : World'} {c : Sc} {e : Expr} {m : Tg} {ks vs : List Nat} (h : SimG G c e m ks) (hk : ∀ i ∈ ks, i ∈ vs) {cfg : Cfg} (hot : cfg.hot = none) (g : G cfg X) (xi : XIn c X) : PG X e (tG X cfg m vs) := by
  refine ⟨fun pins s σ H x u Q I r ⟨v, rho, mu, vh, R, N, rv, q⟩ => ?_⟩
  have S : Sm X cfg.hot pins rho mu vh σ H s := ⟨I, R, N, by rw [hot]; trivial⟩
  refine thn (h cfg X g xi pins rho mu vh σ H s v x u _ S rv r q) fun _ s1 hq => ?_
  obtain ⟨rho', vh', mu', σ', H', q1, S1, g1, k1⟩ := hq
  exact ⟨σ', H', S1.inv, q1 mu' σ' H' S1.rel g1 S1.env (wipe_same (by rw [S1.inv.len, I.len]) hk k1)⟩
/-- a clause's tests: none or one -/
theorem pts_of {G : World'} {c : Sc} {e : Expr} {m : Tt} (h : SimT G c e m) {cfg : Cfg} (hot : cfg.hot = none) (g : G cfg X) (xi : XIn c X) : PTs X [e] (tT X cfg m) := pts_one (pt_of h hot g xi)
def tI (X : Cx) (cfg : Cfg) (m : Ti) : TI := fun σ H R => ∃ rho mu vh E, Rel X.prog X.w X.K mu vh H ∧ REnv X.K mu H rho σ ∧ Wish X rho mu vh H E ∧ (m cfg rho vh).W (fun p vh' => ∀ J mu' H', Rel X.prog X.w X.K mu' vh' H' → Ex mu vh H mu' vh' H' → REnv X.K mu' H' rho σ → Walk X J p.1 p.2 mu' vh' H' → R J H') E
theorem pi_of {G : World'} {c : Sc} {tg e : Expr} {m : Ti} (h : SimI G c tg e m) {cfg : Cfg} (hot : cfg.hot = none) (g : G cfg X) (xi : XIn c X) : PI X tg e (tI X cfg m) := by
  refine ⟨fun pins s σ H R I ⟨rho, mu, vh, E, Rl, N, W, q⟩ => ?_⟩
  have S : Sm X cfg.hot pins rho mu vh σ H s := ⟨I, Rl, N, by rw [hot]; trivial⟩
  refine thn (h cfg X g xi hot pins rho mu vh σ H s _ _ S W q) fun v s1 h1 => thn h1 fun itv s2 h2 => ?_
  obtain ⟨w, its, vh', mu', H', it, fp, tn, J, e, q1, S1, g1, T, st, f, wk⟩ := h2
  exact ⟨it, fp, tn, J, H', e, S1.inv, T, st, f, q1 J mu' H' S1.rel g1 S1.env wk⟩
end

/-! ### the comprehension -/
/-- the names of a block -/
def blkSc (c : Sc) (scope : Scope) : Sc := { N := c.N, sc := relS scope c.sc, st := scope }
theorem XIn.blk {c : Sc} {X : Cx} (xi : XIn c X) (s : Shared) (H : Hp) (scope : Scope) (cl : List (Str × Addr)) (C : Addr) (fp : List Addr) : XIn (blkSc c scope) (X.blk s H scope (compEnvC scope cl C X.env) fp) where
  N := xi.N
  sc := by
    show relS scope X.env.scope = relS scope c.sc
    rw [xi.sc]
  nd := xi.nd
  st := fun x hx => by
    rcases hx with hx | hx
    · have k : (relS scope X.env.scope).names.lookup x = some .local := lookup_relS_keep (by decide) hx
      exact ⟨.inl k, .inr k⟩
    · have k : (relS scope X.env.scope).names.lookup x = some .cell := lookup_relS_keep (by decide) hx
      refine ⟨.inr k, .inl ?_⟩
      show (scope.names.lookup x == some .cell) = true
      have hx' : scope.names.lookup x = some .cell := hx
      rw [hx']; rfl
def lcL (w : Wat) (g : Tg) (t : Tt) (e : Tm) (c : Cfg) (rho0 : Env) : List Val → VH → Out (List Val)
  | [], h => if alive w h then .ok [] h else .bad
  | v :: r, h => if alive w h then (g v c rho0 h).bn fun rho h => (t c rho h).bn fun k h => if k then (e c rho h).bn fun y h => (lcL w g t e c rho0 r h).bn fun ys h => .ok (y :: ys) h else lcL w g t e c rho0 r h else .bad
def tYes : Tt := fun _ _ h => .ok true h
def eLc (src : Ti) (own : List Nat) (g : Tg) (t : Tt) (e : Tm) : Tm := fun c rho h => if c.hot.isSome then .bad else
  (src c rho h).bind fun p h => if p.2.length ≤ LIM then (lcL p.1 g t e c (wipeE rho own) p.2 h).bn fun ys h => .ok (.ref h.length) (h ++ [.lst ys]) else .bad
/-- a list that is no object of the pure heap is written -/
theorem Rel.aside {P : Program} {w : World} {K : PySem.W.Frag} {mu : List Addr} {vh : VH} {H : Hp} (R : Rel P w K mu vh H) {D : Addr} {xs ys : List V} (hD : H D = some (.lst xs)) (ap : Apt mu vh D) :
    Rel P w K mu vh (upd H D (.lst ys)) :=
  ⟨R.len, R.inj, fun i a o h1 h2 => RO.gro (Gro.write hD trivial) (R.obj i a o h1 h2) fun m => upd_ne fun z => by
    subst z
    have := ap i o h1 h2
    rw [this] at m; cases m⟩
/-- it is taken in -/
theorem Rel.adopt {P : Program} {w : World} {K : PySem.W.Frag} {mu : List Addr} {vh : VH} {H : Hp} (R : Rel P w K mu vh H) {D : Addr} {xs : List V} {vs : List Val} (hD : H D = some (.lst xs)) (rv : RVs K mu H vs xs) (ap : Apt mu vh D) :
    Rel P w K (mu ++ [D]) (vh ++ [.lst vs]) H ∧ Gro mu H (mu ++ [D]) H := by
  have g : Gro mu H (mu ++ [D]) H := ⟨fun _ _ h => h, fun _ _ _ h => h, fun _ _ h => h, List.prefix_append _ _⟩
  have hl := R.len
  have cas : ∀ (i : Nat) (b : Addr) (o' : VObj), (mu ++ [D])[i]? = some b → (vh ++ [VObj.lst vs])[i]? = some o' → (mu[i]? = some b ∧ vh[i]? = some o') ∨ (i = mu.length ∧ b = D ∧ o' = .lst vs) := by
    intro i b o' h1 h2
    by_cases hi : i < mu.length
    · rw [List.getElem?_append_left hi] at h1
      rw [List.getElem?_append_left (by omega)] at h2
      exact .inl ⟨h1, h2⟩
    · have h3 : i < (mu ++ [D]).length := (List.getElem?_eq_some_iff.mp h1).1
      have h4 : i = mu.length := by simp at h3; omega
      subst h4
      simp at h1
      rw [hl] at h2
      simp at h2
      exact .inr ⟨rfl, h1.symm, h2.symm⟩
  refine ⟨⟨by simp [hl], fun i j b o1 o2 h1 h2 h3 h4 m1 m2 => ?_, fun i b o' h1 h2 => ?_⟩, g⟩
  · rcases cas i b o1 h1 h3 with ⟨a1, a2⟩ | ⟨a1, a2, a3⟩ <;> rcases cas j b o2 h2 h4 with ⟨b1, b2⟩ | ⟨b1, b2, b3⟩
    · exact R.inj i j b o1 o2 a1 b1 a2 b2 m1 m2
    · subst b2; rw [ap i o1 a1 a2] at m1; cases m1
    · subst a2; rw [ap j o2 b1 b2] at m2; cases m2
    · rw [a1, b1]
  · rcases cas i b o' h1 h2 with ⟨a1, a2⟩ | ⟨_, rfl, rfl⟩
    · exact RO.gro g (R.obj i b o' a1 a2) fun _ => rfl
    · exact ⟨xs, hD, rv.gro g⟩
end Pv
end
/-! PvLc -/
section
set_option Elab.async false
set_option linter.all false
set_option maxRecDepth 100000
set_option autoImplicit false
/-! Pv: the list comprehension is sound. -/
namespace Pv
open PySem PySem.Spec PyProof.Rows L2
/-- a clause's tests -/
inductive SimTs (G : World') (c : Sc) : List Expr → Tt → Prop
  | nil : SimTs G c [] tYes
  | one {e : Expr} {t : Tt} (h : SimT G c e t) : SimTs G c [e] t
theorem pts_of' {X : Cx} {G : World'} {c : Sc} {es : List Expr} {m : Tt} (h : SimTs G c es m) {cfg : Cfg} (hot : cfg.hot = none) (g : G cfg X) (xi : XIn c X) : PTs X es (tT X cfg m) := by
  cases h with
  | nil => exact ⟨fun pins s σ H Q I ⟨rho, mu, vh, R, N, q⟩ => wpAny_tests_nil ⟨H, I, q mu H R (.refl _ _ _)⟩⟩
  | one h => exact pts_of h hot g xi
section
variable {G : World'} {c : Sc}
theorem lc_step {X : Cx} {cfg : Cfg} {g : Tg} {t : Tt} {e : Tm} {vs : List Nat} {rho : Env} {sg : Sl} {its : List Val} {w : Wat} {mu1 : List Addr} {vh1 : VH} {H1 : Hp} {J : It} {D : Addr} {QQ : VK} {Q : Val → VH → Prop} (hD : H1 D = none) (hl : its.length ≤ LIM)
    (R1 : Rel X.prog X.w X.K mu1 vh1 H1) (N1 : REnv X.K mu1 H1 rho sg) (wk : Walk X J w its mu1 vh1 H1)
    (q : (lcL w g t e cfg (wipeE rho vs) its vh1).W (fun ys h => Q (.ref h.length) (h ++ [.lst ys])) (fun _ _ _ => False))
    (hQ : ∀ vh' mu' H' ys xs, Q (.ref vh'.length) (vh' ++ [.lst ys]) → Rel X.prog X.w X.K mu' vh' H' → Ex mu1 vh1 H1 mu' vh' H' → Apt mu' vh' D → H' D = some (.lst xs) → RVs X.K mu' H' ys xs → QQ (.ref D) H') :
    ∃ W : Nat → Nat → Hp → Prop, (∃ m, W 0 m (upd H1 D (.lst []))) ∧ ∀ i m H, W i m H →
      (J.stop i H ∧ QQ (.ref D) H) ∨ (J.go i H ∧ ∃ Nx : Hp → Prop, (∀ H', Nx H' → ∃ m', m' < m ∧ W (i + 1) m' H') ∧ ∀ x H', J.yld i H x H' → tG X cfg g vs x (wipe sg vs) H' fun σ2 H2 => wipe σ2 vs = wipe sg vs ∧ tT X cfg t σ2 H2 fun b H3 =>
        if b = true then tE X cfg e σ2 H3 fun y H4 => ∃ acc, H4 D = some (.lst acc) ∧ acc.length < sizeLine ∧ Nx (upd H4 D (.lst (acc ++ [y]))) else Nx H3) := by
  have ap1 : Apt mu1 vh1 D := fun i o h1 h2 => by
    cases hm : mutO o with
    | false => rfl
    | true =>
      obtain ⟨u, e, _⟩ := RO.some (R1.obj i D o h1 h2) hm
      rw [hD] at e; cases e
  let W : Nat → List Val → Hp → Prop := fun i r Hc => ∃ (mu' : List Addr) (vh' : VH) (acc : List Val) (xs : List V), its.drop i = r ∧ i ≤ its.length ∧ acc.length ≤ i ∧ Rel X.prog X.w X.K mu' vh' Hc ∧ Ex mu1 vh1 H1 mu' vh' Hc ∧ Apt mu' vh' D ∧ Hc D = some (.lst xs) ∧ RVs X.K mu' Hc acc xs ∧
    (lcL w g t e cfg (wipeE rho vs) r vh').W (fun ys h => Q (.ref h.length) (h ++ [.lst (acc ++ ys)])) (fun _ _ _ => False)
  refine ⟨fun i m Hc => ∃ r, r.length = m ∧ W i r Hc, ⟨its.length, its, rfl, mu1, vh1, [], [], rfl, Nat.zero_le _, Nat.le_refl _, R1.laid hD, Ex.laid hD, ap1, upd_same, .nil, q⟩, ?_⟩
  rintro i m Hc ⟨r, rfl, mu', vh', acc, xs, er, hi, ha, R, ex, ap, hc, rv, q⟩
  cases r with
  | nil =>
    have q1 : (if alive w vh' then Out.ok ([] : List Val) vh' else .bad).W (fun ys h => Q (.ref h.length) (h ++ [.lst (acc ++ ys)])) (fun _ _ _ => False) := q
    split at q1
    · rename_i al
      have el : i = its.length := by
        have := List.drop_eq_nil_iff.mp er
        omega
      have st := wk.stop mu' vh' Hc R ex al
      rw [← el] at st
      have q2 : Q (.ref vh'.length) (vh' ++ [.lst (acc ++ [])]) := q1
      rw [List.append_nil] at q2
      exact .inl ⟨st, hQ vh' mu' Hc acc xs q2 R ex ap hc rv⟩
    · exact q1.elim
  | cons v r =>
    have q1 : (if alive w vh' then (g v cfg (wipeE rho vs) vh').bn fun rho2 h => (t cfg rho2 h).bn fun k h => if k then (e cfg rho2 h).bn fun y h => (lcL w g t e cfg (wipeE rho vs) r h).bn fun ys h => .ok (y :: ys) h else lcL w g t e cfg (wipeE rho vs) r h else .bad).W (fun ys h => Q (.ref h.length) (h ++ [.lst (acc ++ ys)])) (fun _ _ _ => False) := q
    split at q1
    · rename_i al
      have hv : its[i]? = some v := by
        have := congrArg (fun l => l[0]?) er
        simpa using this
      have hlt : i < its.length := (List.getElem?_eq_some_iff.mp hv).1
      have hr' : its.drop (i + 1) = r := by
        rw [← List.drop_drop, er]; rfl
      obtain ⟨go, yl⟩ := wk.go i v mu' vh' Hc R ex al hv
      refine .inr ⟨go, fun H' => W (i + 1) r H', fun H' hw => ⟨r.length, Nat.lt_succ_self _, r, rfl, hw⟩, fun x H5 y5 => ?_⟩
      obtain ⟨R5, g5, rv5⟩ := yl x H5 y5
      obtain ⟨hc5, ap5⟩ := g5.rest D _ hc ap
      refine ⟨v, wipeE rho vs, mu', vh', R5, ((N1.gro ex.gro).gro g5.gro).wipe vs, rv5, (Out.bn_W q1).mono (fun rho2 vh2 q2 => ?_) fun _ _ _ z => z⟩
      intro mu2 σ2 H2 R2 g2 N2 hw
      obtain ⟨hc2, ap2⟩ := g2.rest D _ hc5 ap5
      have hw' : wipe σ2 vs = wipe sg vs := by
        rw [hw]
        refine List.ext_getElem? fun j => ?_
        by_cases hj : j ∈ vs
        · by_cases hb : j < sg.length
          · rw [wipe_get hj (by rw [wipe_length]; exact hb), wipe_get hj hb]
          · rw [List.getElem?_eq_none (by rw [wipe_length, wipe_length]; omega), List.getElem?_eq_none (by rw [wipe_length]; omega)]
        · rw [wipe_out hj]
      refine ⟨hw', rho2, mu2, vh2, R2, N2, (Out.bn_W q2).mono (fun k vh3 q3 => ?_) fun _ _ _ z => z⟩
      intro mu3 H3 R3 g3
      obtain ⟨hc3, ap3⟩ := g3.rest D _ hc2 ap2
      have ex3 : Ex mu1 vh1 H1 mu3 vh3 H3 := ((ex.trans g5).trans g2).trans g3
      have rv3 : RVs X.K mu3 H3 acc xs := rv.gro ((g5.trans g2).trans g3).gro
      cases k with
      | false =>
        rw [if_neg Bool.false_ne_true] at q3
        rw [if_neg Bool.false_ne_true]
        exact ⟨mu3, vh3, acc, xs, hr', hlt, by omega, R3, ex3, ap3, hc3, rv3, q3⟩
      | true =>
        rw [if_pos rfl] at q3
        rw [if_pos rfl]
        refine ⟨rho2, mu3, vh3, R3, N2.gro g3.gro, (Out.bn_W q3).mono (fun y vh4 q4 => ?_) fun _ _ _ z => z⟩
        intro yv mu4 H4 R4 g4 rv4
        obtain ⟨hc4, ap4⟩ := g4.rest D _ hc3 ap3
        have rvA : RVs X.K mu4 H4 acc xs := rv3.gro g4.gro
        have gw : Gro mu4 H4 mu4 (upd H4 D (.lst (xs ++ [yv]))) := Gro.write hc4 trivial
        refine ⟨xs, hc4, ?_, mu4, vh4, acc ++ [y], xs ++ [yv], hr', hlt, by rw [List.length_append]; simp; omega, R4.aside hc4 ap4, (ex3.trans g4).asideFrom hD hc4, ap4, upd_same, (rvA.app (.cons rv4 .nil)).gro gw, ?_⟩
        · have h1 := rvA.length
          have h2 : LIM ≤ sizeLine := LIM_le (Nat.le_refl _)
          omega
        · refine (Out.bn_W q4).mono (fun ys h q5 => ?_) fun _ _ _ z => z
          have q6 : Q (.ref h.length) (h ++ [.lst (acc ++ (y :: ys))]) := q5
          rw [List.append_assoc]
          exact q6
    · exact q1.elim
/-- the layer's reading, from the pure one -/
theorem lc_pure {X : Cx} {cfg : Cfg} {src : Ti} {g : Tg} {t : Tt} {e : Tm} {vs : List Nat} {rho : Env} {mu : List Addr} {vh : VH} {sg : Sl} {H : Hp} {QQ : VK} {Q : Val → VH → Prop} {E : Str → Flds → VH → Prop} (hot : cfg.hot = none)
    (R : Rel X.prog X.w X.K mu vh H) (N : REnv X.K mu H rho sg) (W : Wish X rho mu vh H E) (q : (eLc src vs g t e cfg rho vh).W Q E)
    (hQ : ∀ v vh' x mu' H', Q v vh' → Rel X.prog X.w X.K mu' vh' H' → Ex mu vh H mu' vh' H' → RV X.K mu' H' v x → QQ x H') : tLc (tI X cfg src) (tG X cfg g vs) (tT X cfg t) (tE X cfg e) vs sg H QQ := by
  unfold eLc at q
  rw [if_neg (by rw [hot]; exact Bool.false_ne_true)] at q
  rw [Out.W_bind] at q
  refine ⟨rho, mu, vh, E, R, N, W, q.mono (fun p vh1 q1 => ?_) fun _ _ _ z => z⟩
  intro J mu1 H1 R1 g1 N1 wk D hD
  split at q1
  · rename_i hl
    refine lc_step (QQ := QQ) (Q := Q) hD hl R1 N1 wk ((Out.bn_W q1).mono (fun ys h z => z) fun _ _ _ z => z) fun vh' mu' H' ys xs qq R' ex ap hc' rv => ?_
    obtain ⟨R2, g2⟩ := R'.adopt (vs := ys) hc' rv ap
    have e0 := g1.trans ex
    refine hQ (.ref vh'.length) (vh' ++ [.lst ys]) (.ref D) (mu' ++ [D]) H' qq R2 ⟨e0.gro.trans g2, e0.exo.trans (.app _ _), fun i a h e => ?_, fun a h => e0.dom a h, fun a u h k => ?_⟩ (.ref (by rw [← R'.len]; simp))
    · by_cases hi : i < mu'.length
      · rw [List.getElem?_append_left hi] at e
        exact e0.fresh i a h e
      · have h3 : i < (mu' ++ [D]).length := (List.getElem?_eq_some_iff.mp e).1
        have h4 : i = mu'.length := by simp at h3; omega
        subst h4
        simp at e
        rw [← e]
        exact g1.dom D hD
    · obtain ⟨h2, k2⟩ := e0.rest a u h k
      refine ⟨h2, fun i o a1 a2 => ?_⟩
      by_cases hi : i < mu'.length
      · rw [List.getElem?_append_left hi] at a1
        rw [List.getElem?_append_left (by rw [← R'.len]; exact hi)] at a2
        exact k2 i o a1 a2
      · have h3 : i < (mu' ++ [D]).length := (List.getElem?_eq_some_iff.mp a1).1
        have h4 : i = mu'.length := by simp at h3; omega
        subst h4
        simp at a1
        subst a1
        rw [g1.dom D hD] at h; cases h
  · exact q1.elim
/-- what a comprehension is made of -/
structure LcIn (G : World') (c : Sc) (elt tg iter : Expr) (ifs : List Expr) (scope : Scope) (own : List (Str × Nat)) (src : Ti) (g : Tg) (t : Tt) (e : Tm) (ks : List Nat) : Prop where
  hi : SimI G c tg iter src
  ok : blkC c.N c.sc scope own = true
  hg : SimG G (blkSc c scope) tg g ks
  hk : (ks.all fun i => (own.map (·.2)).contains i) = true
  ht : SimTs G (blkSc c scope) ifs t
  he : SimE G (blkSc c scope) elt e
  hs : ∀ (env : PySem.Env) x, foldedSetIterable iter env x = pure x
variable {elt tg iter : Expr} {ifs : List Expr} {scope : Scope} {own : List (Str × Nat)} {pos spos py : Pos} {src : Ti} {g : Tg} {t : Tt} {e : Tm} {ks : List Nat}
theorem simE_lc (w : Wd G) (L : LcIn G c elt tg iter ifs scope own src g t e ks) : SimE G c (.ListComp elt [⟨tg, iter, ifs, 0⟩] scope pos) (eLc src (own.map (·.2)) g t e) := .mk <| by
  intro cfg X gg xi pins rho mu vh sg H s Q E S W q
  have hot : cfg.hot = none := by
    unfold eLc at q
    split at q
    · exact q.elim
    · rename_i hh; exact hot_none hh
  have hc : X.calm = true := (w.rm cfg X gg).calm hot
  have hk' : ∀ i ∈ ks, i ∈ own.map (·.2) := fun i hi => by
    have := List.all_eq_true.mp L.hk i hi
    simpa using this
  have okB : BlkOk X.N X.env.scope scope own := by rw [xi.N, xi.sc]; exact blkOk_by L.ok
  have P := pe_lc (pos := pos) (own := own) (g := tG X cfg g (own.map fun p : Str × Nat => p.2)) (tt := tT X cfg t) (te := tE X cfg e) hc xi.nd (pi_of L.hi hot gg xi) okB
    (fun s H C cl fp => pg_of (X := X.blk s H scope (compEnvC scope cl C X.env) fp) L.hg hk' hot (w.blk _ _ _ _ _ _ _ gg) (xi.blk s H scope cl C fp))
    (fun s H C cl fp => pts_of' (X := X.blk s H scope (compEnvC scope cl C X.env) fp) L.ht hot (w.blk _ _ _ _ _ _ _ gg) (xi.blk s H scope cl C fp))
    (fun s H C cl fp => pe_of (X := X.blk s H scope (compEnvC scope cl C X.env) fp) L.he hot (w.blk _ _ _ _ _ _ _ gg) (xi.blk s H scope cl C fp)) (L.hs _)
  refine thn (P.run pins s sg H (PQ X mu vh H Q) S.inv ?_) fun z s1 hz => EQ.of S hz
  exact lc_pure hot S.rel S.env W q fun v vh' x mu' H' qq R' ex rv => ⟨v, vh', mu', qq, R', ex, rv⟩
/-- name = [..], the name a local that the block has not -/
theorem simS_setLc {i : Nat} {y : Str} (w : Wd G) (L : LcIn G c elt tg iter ifs scope own src g t e ks) (hN : c.N[i]? = some y) (hy : c.sc.names.lookup y = some .local)
    (hsw : ∀ env : PySem.Env, env.scope = c.sc → swapsWith (.ListComp elt [⟨tg, iter, ifs, 0⟩] scope pos) (some (.Name y py)) spos.line env = pure true) :
    SimS G c (.Assign [.Name y py] (.ListComp elt [⟨tg, iter, ifs, 0⟩] scope pos) spos) (sAsg (eLc src (own.map (·.2)) g t e) (gName i)) := .mk <| by
  intro cfg X gg xi xs pins rho mu vh sg H s Z S W q
  unfold sAsg at q
  rw [Out.to_W] at q
  have hot : cfg.hot = none := by
    unfold eLc at q
    split at q
    · exact q.elim
    · rename_i hh; exact hot_none hh
  have hc : X.calm = true := (w.rm cfg X gg).calm hot
  have hk' : ∀ i ∈ ks, i ∈ own.map (·.2) := fun i hi => by
    have := List.all_eq_true.mp L.hk i hi
    simpa using this
  have okB : BlkOk X.N X.env.scope scope own := by rw [xi.N, xi.sc]; exact blkOk_by L.ok
  have P := ps_setLc (py := py) (i := i) (y := y) (spos := spos) (pos := pos) (own := own) (g := tG X cfg g (own.map fun p : Str × Nat => p.2)) (tt := tT X cfg t) (te := tE X cfg e) hc xi.nd (by rw [xi.N]; exact hN) (by rw [xi.sc]; exact hy) (hsw _ xi.sc) (pi_of L.hi hot gg xi) okB
    (fun s H C cl fp => pg_of (X := X.blk s H scope (compEnvC scope cl C X.env) fp) L.hg hk' hot (w.blk _ _ _ _ _ _ _ gg) (xi.blk s H scope cl C fp))
    (fun s H C cl fp => pts_of' (X := X.blk s H scope (compEnvC scope cl C X.env) fp) L.ht hot (w.blk _ _ _ _ _ _ _ gg) (xi.blk s H scope cl C fp))
    (fun s H C cl fp => pe_of (X := X.blk s H scope (compEnvC scope cl C X.env) fp) L.he hot (w.blk _ _ _ _ _ _ _ gg) (xi.blk s H scope cl C fp)) (L.hs _)
  let D : Ends := { nx := fun σ' H' => ∃ rho' vh' mu', Z (.nx rho' vh') ∧ Rel X.prog X.w X.K mu' vh' H' ∧ Ex mu vh H mu' vh' H' ∧ REnv X.K mu' H' rho' σ', rt := fun _ _ => False }
  refine thn (P.run pins s sg H D S.inv ?_) fun f s1 h1 => ?_
  · show tLc _ _ _ _ _ sg H fun x H1 => D.nx (sg.set i (some x)) H1
    exact lc_pure hot S.rel S.env (W.ex rho) q fun v vh' x mu' H' qq R' ex rv => ⟨rho.set i (some v), vh', mu', qq, R', ex, (S.env.gro ex.gro).put rv i⟩
  · cases f with
    | next =>
      obtain ⟨σ', H', I', rho', vh', mu', z, R', ex, N'⟩ := h1
      exact ⟨rho', vh', mu', σ', H', z, ⟨I', R', N', by rw [hot]; trivial⟩, ex⟩
    | brk => obtain ⟨_, _, _, z⟩ := h1; exact z.elim
    | cont => obtain ⟨_, _, _, z⟩ := h1; exact z.elim
    | ret u => obtain ⟨_, _, _, _, _, z⟩ := h1; exact z.elim
end
end Pv
end
/-! PvFun -/
section
set_option Elab.async false
set_option linter.all false
set_option maxRecDepth 100000
set_option autoImplicit false
/-! Pv: defs and their calls. -/
namespace Pv
open PySem PySem.Spec PyProof.Rows L2

/-! ### the pure meaning -/
structure FDef where
  nm : List Str
  ko : List Str
  dfl : List Val
  kwd : List (Str × Val)
  n : Nat
  body : Ts
abbrev Tab := List (Nat × FDef)
def SO.out (o : SO) : Out Val := match o with
  | .nx _ h => .ok .non h
  | .rt v h => .ok v h
  | .er c fs _ h => .er c fs h
  | _ => .bad
def startE (n : Nat) (zs : List Val) : Env := zs.map some ++ List.replicate (n - zs.length) none
def runF (d : FDef) (c : Cfg) (zs : List Val) (h : VH) : Out Val := (d.body c (startE d.n zs) h).out
/-- by levels -/
def callN (T : Tab) : Nat → Option Nat → Nat → List Val → List (Str × Val) → VH → Out Val
  | 0, _, _, _, _, _ => .bad
  | k + 1, hot, f, vs, ws, h => match T.lookup f with
    | some d => (match bindL d.nm d.ko d.dfl (fun n => d.kwd.lookup n) vs ws with
      | some zs => runF d ⟨callN T k, hot⟩ zs h
      | none => .bad)
    | none => .bad
def kwsOf (kws : List Keyword) : List Str := kws.filterMap (·.arg)
def eCall (f : Nat) (t : Ta) (ks : List Str) (u : Ta) : Tm := fun c rho h => (t c rho h).bind fun vs h => (u c rho h).bind fun ws h => c.call c.hot f vs (ks.zip ws) h

/-! ### the promise of a def -/
structure Sys where
  P : Program
  w : World
  K : PySem.W.Frag
  mg : Str → Option Value
  base : Heap
  T : Tab
  ad : Nat → Addr
section
variable (P : Program) (w : World) (K : PySem.W.Frag) (mu : List Addr) (vh : VH) (H : Hp)
def QV (Q : Val → VH → Prop) : VK := fun x H' => ∃ v vh' mu', Q v vh' ∧ Rel P w K mu' vh' H' ∧ Ex mu vh H mu' vh' H' ∧ RV K mu' H' v x
def QX (E : Str → Flds → VH → Prop) : XK := fun cls d H' => ∃ c fs mu' vh', Rel P w K mu' vh' H' ∧ Ex mu vh H mu' vh' H' ∧ RX K mu' H' c fs cls d ∧ E c fs vh'
/-- the handled exception, at a call -/
def HotA (A : Around) (outer : List PySem.Env) (s : Shared) (hot : Option Nat) : Prop := match hot with
  | none => A.handled = none
  | some l => ∃ p c fs, L2H.Hot1 A p ∧ L2H.PinOk outer H s p ∧ mu[l]? = some p.1 ∧ vh[l]? = some (.exo c fs) ∧ RX K mu H c fs p.2.cls p.2.dict
end
/-- room for a def at level k, be it called by its class -/
structure RoomM (k : Nat) (A : Around) : Prop where
  dp : A.depth + 3 * k + 10 < recursionLimit
  un : A.units + 16 * k + 219 < cLine
theorem RoomM.of {k : Nat} {A : Around} (r : L2H.RoomH (k + 2) A) : RoomM k A := ⟨by have := r.dp; omega, by have := r.un; omega⟩
theorem RoomM.make {k : Nat} {A : Around} (r : L2H.RoomH (k + 2) A) (C : Addr) (us : List Value) (kw : List (Str × Value)) : RoomM k (A.under (.builtin "type.__call__" ⟨.ref C :: us, kw⟩)) :=
  ⟨by have := r.dp; rw [make_depth]; omega, by have := r.un; rw [make_units]; omega⟩
theorem RoomM.deeper {k : Nat} {A : Around} (r : RoomM (k + 1) A) (env : PySem.Env) : L2H.RoomH (k + 2) (A.deeper env) :=
  ⟨by have := r.dp; show A.depth + 1 + 3 * (k + 2) + 5 < _; omega, by have := r.un; show A.units + 3 + 16 * (k + 2) + 200 < _; omega⟩
theorem RoomM.depth {k : Nat} {A : Around} (r : RoomM k A) : A.depth < recursionLimit := by have := r.dp; omega
def FnS (Y : Sys) (k : Nat) (f : Addr) (fd : FuncData) (ps : List Str) (r : Option Nat → List Val → VH → Out Val) : Prop :=
  ∀ (hot : Option Nat) (A : Around) (outer : List PySem.Env) (s : Shared) (H : Hp) (args : Args) (us : List Value) (vs : List V) (zs : List Val) (mu : List Addr) (vh : VH) (Q : Val → VH → Prop) (E : Str → Flds → VH → Prop),
    RoomM k A → A.guards = some [] → HotA Y.K mu vh H A outer s hot → Env0 Y.P Y.w Y.K Y.mg Y.base A outer s H → BindsTo s fd args (ps.zip us) → Vals vs us → vs.length = ps.length → RVs Y.K mu H zs vs → Rel Y.P Y.w Y.K mu vh H → (r hot zs vh).W Q E →
      codeAny (model Y.P Y.w) A (.call (.ref f) args) (CR (L2N.CX Y.P Y.w) outer Y.P Y.w H s (QV Y.P Y.w Y.K mu vh H Q) (QX Y.P Y.w Y.K mu vh H E)) s
/-- the address, the defaults, the parameters of a def -/
structure FAt (Y : Sys) (d : FDef) (f : Addr) (fd : FuncData) (dvs : List V) (kws : List (Str × V)) : Prop where
  ex : ∃ name qual params body scope, FunD Y.K name qual params body scope dvs kws f fd ∧ params.posonlyargs = [] ∧ params.vararg = none ∧ params.kwarg = none ∧ params.args.map (·.arg) = d.nm ∧ params.kwonlyargs.map (·.arg) = d.ko
  dfl : RVs Y.K [] (fun _ => none) d.dfl dvs
  kwd : RP (RV Y.K [] (fun _ => none)) d.kwd kws
def CallsOk (Y : Sys) (k : Nat) : Prop := ∀ (i : Nat) (d : FDef), Y.T.lookup i = some d → ∃ fd dvs kws, FAt Y d (Y.ad i) fd dvs kws ∧ (k = 0 ∨ ∃ j, k = j + 1 ∧ FnS Y k (Y.ad i) fd (d.nm ++ d.ko) fun hot zs h => runF d ⟨callN Y.T j, hot⟩ zs h)
structure Sys.G (Y : Sys) (cfg : Cfg) (X : Cx) : Prop where
  P : X.prog = Y.P
  w : X.w = Y.w
  K : X.K = Y.K
  mg : X.mg = Y.mg
  base : X.base = Y.base
  lv : ∃ k, cfg.call = callN Y.T k ∧ L2H.RoomH (k + 2) X.A ∧ CallsOk Y k
  gd : X.A.guards = some []
  calm : cfg.hot = none → X.calm = true
theorem Sys.wd (Y : Sys) (hb : ∀ x ∈ bnames, Y.mg x = none) : Wd Y.G where
  rm := fun cfg X g => ⟨by
    obtain ⟨k, _, r, _⟩ := g.lv
    have := r.un
    omega, g.calm⟩
  bl := fun cfg X g x hx => by rw [g.mg]; exact hb x hx
  blk := fun cfg X s H scope cenv fp g => ⟨g.P, g.w, g.K, g.mg, g.base, g.lv, g.gd, g.calm⟩
  tr := fun cfg X pn xe g => ⟨g.P, g.w, g.K, g.mg, g.base, g.lv, g.gd, g.calm⟩
  suite := fun cfg X a pn l _ g => ⟨g.P, g.w, g.K, g.mg, g.base, by
    obtain ⟨k, h1, r, h2⟩ := g.lv
    exact ⟨k, h1, ⟨r.dp, r.un⟩, h2⟩, g.gd, fun h => nomatch h⟩

theorem deeper_gd {A : Around} {env : PySem.Env} (h : A.guards = some []) : (A.deeper env).guards = some [] := by
  first
  | exact h
  | simp [Around.deeper, h]
/-! ### a def's body keeps the promise -/
def bodyZ (Q : Val → VH → Prop) (E : Str → Flds → VH → Prop) : SO → Prop
  | .nx _ h => Q .non h
  | .rt v h => Q v h
  | .er c fs _ h => E c fs h
  | _ => False
theorem SO.out_W {o : SO} {Q : Val → VH → Prop} {E : Str → Flds → VH → Prop} (h : o.out.W Q E) : o.W (bodyZ Q E) := by cases o <;> exact h
theorem start_env {K : PySem.W.Frag} {mu : List Addr} {H : Hp} {N : List Str} {zs : List Val} {vs : List V} (r : RVs K mu H zs vs) : REnv K mu H (startE N.length zs) (L2.start N vs) := by
  have hl := r.length
  refine ⟨by unfold startE L2.start; simp [hl], fun i v e => ?_⟩
  unfold startE at e
  by_cases hi : i < zs.length
  · rw [List.getElem?_append_left (by simpa using hi), List.getElem?_map] at e
    cases e1 : zs[i]? with
    | none => rw [e1] at e; cases e
    | some z =>
      rw [e1] at e
      cases e
      obtain ⟨x, e2, rv⟩ := r.get e1
      refine ⟨x, ?_, rv⟩
      unfold L2.start
      rw [List.getElem?_append_left (by simpa [← hl] using hi), List.getElem?_map, e2]
      rfl
  · rw [List.getElem?_append_right (by simpa using hi), List.getElem?_replicate] at e
    split at e <;> cases e
theorem body_ok {Y : Sys} {k j : Nat} {d : FDef} {f : Addr} {fd : FuncData} {name qual : Str} {params : Arguments} {body : List Stmt} {scope : Scope} {dvs : List V} {kws : List (Str × V)} {N : List Str}
    (F : FunD Y.K name qual params body scope dvs kws f fd) (S : FnScope N (d.nm ++ d.ko) scope) (hn : d.n = N.length) (B : SimB Y.G ⟨N, scope, scope⟩ body d.body) (C : CallsOk Y k) :
    FnS Y (k + 1) f fd (d.nm ++ d.ko) fun hot zs h => runF d ⟨callN Y.T k, hot⟩ zs h := by
  obtain ⟨oc, od, dV, kV, doc, pm, an, cdv, ct, osl, rfl, lk, hcd, _, _⟩ := F.ex
  intro hot A outer s H args us vs zs mu vh Q E hr hgd hh e0 hb r hl rz R q
  have KX : Y.K.In s.heap := e0.mod.kin.keeps fun b o e => (e0.bs b o e).1
  have lim : s.heap.NoLimit := e0.mod.nolimit.keeps fun b o e => (e0.bs b o e).1
  have hkind : ∀ y ∈ (d.nm ++ d.ko).zip us, scope.names.lookup y.1 = some .local ∨ (scope.names.lookup y.1 = some .cell ∧ ((cellsFrom (s.heap.objs.size + 1) scope.names []).lookup y.1).isSome = true) := fun ⟨n, v⟩ hy => by
    rcases S.par n (List.of_mem_zip hy).1 with q | q
    · exact .inl q
    · exact .inr ⟨q, PySem.W.cellsFrom_some _ _ _ (.inl q)⟩
  refine codeAny_call_function hr.depth (KX _ _ lk) rfl S.co S.gen rfl (PySem.W.codeRec_of KX hcd) (hb _ _ _ _ ?_)
  refine wpAny_newFunctionEnv_cells S.kind hkind fun env he s1 x => ?_
  subst he
  refine ⟨lim.keeps x.toInCall.keep, codeAny_func ?_⟩
  have hrd := hr.deeper (envOfC qual scope s.heap.objs.size f cdv)
  have q0 : (d.body ⟨callN Y.T k, hot⟩ (startE N.length zs) vh).W (bodyZ Q E) := by rw [← hn]; exact SO.out_W q
  have XI : ∀ X : Cx, X.N = N → X.env = envOfC qual scope s.heap.objs.size f cdv → (∀ y, X.fn y = true) → XIn ⟨N, scope, scope⟩ X := fun X h1 h2 h3 =>
    ⟨h1, by rw [h2]; rfl, by rw [h1]; exact S.nd, fun y hy => ⟨by rw [h2]; exact hy, .inl (h3 y)⟩⟩
  -- what is left, whatever the context is
  have go : ∀ X : Cx, X.prog = Y.P → X.w = Y.w → X.K = Y.K → X.mg = Y.mg → X.base = Y.base → X.A = A.deeper (envOfC qual scope s.heap.objs.size f cdv) → X.N = N → X.s_0 = s → X.H_0 = H → X.env = envOfC qual scope s.heap.objs.size f cdv → X.outer = outer →
      X.stack = envOfC qual scope s.heap.objs.size f cdv :: outer → X.ex = [] → (∀ y, X.fn y = true) → (hot = none → X.calm = true) →
      X.xe = (fun e s' => wpAny (model Y.P Y.w) (A.deeper (envOfC qual scope s.heap.objs.size f cdv)) (leaving (envOfC qual scope s.heap.objs.size f cdv) e) (fun _ s'' => L2N.CX Y.P Y.w outer H s (QX Y.P Y.w Y.K mu vh H E) e s'') (fun e' s'' => L2N.CX Y.P Y.w outer H s (QX Y.P Y.w Y.K mu vh H E) e' s'') s') →
      Inv X [] (L2.start N vs) H s1 → HotR X hot mu vh H →
      wpAny (model Y.P Y.w) (A.deeper (envOfC qual scope s.heap.objs.size f cdv)) (execs body (envOfC qual scope s.heap.objs.size f cdv)) (fun fl s' => match fl with
        | .ret u => CR (L2N.CX Y.P Y.w) outer Y.P Y.w H s (QV Y.P Y.w Y.K mu vh H Q) (QX Y.P Y.w Y.K mu vh H E) (.ok (.ret u)) s'
        | .next => CR (L2N.CX Y.P Y.w) outer Y.P Y.w H s (QV Y.P Y.w Y.K mu vh H Q) (QX Y.P Y.w Y.K mu vh H E) (.ok (.ret .none)) s'
        | _ => False) X.xe s1 := by
    intro X eP ew eK emg ebase eA eN es0 eH0 eenv eout estk eex efn ecalm exe I hx
    have XS' : XS X := ⟨by rw [estk, eenv, eout], by rw [eenv]; rfl, L2.passes_of (by rw [exe, eP, ew, eA, eenv])⟩
    have G' : Y.G ⟨callN Y.T k, hot⟩ X := ⟨eP, ew, eK, emg, ebase, ⟨k, rfl, by rw [eA]; exact hrd, C⟩, by rw [eA]; exact deeper_gd hgd, ecalm⟩
    have tk : L2N.Takes X fun cls dd _ H' => QX Y.P Y.w Y.K mu vh H E cls dd H' := L2N.takes_of XS'.hs XS'.hf eex (by rw [exe, eP, ew, eA, eenv, eout, eH0, es0])
    have W : WishS X mu vh H (bodyZ Q E) := L2N.Takes.imp tk fun cls dd sg H' ⟨c, fs, rho, mu', vh', h1, h2, h3, h4, h5⟩ => ⟨c, fs, mu', vh', by rw [← eP, ← ew, ← eK]; exact h1, h2, by rw [← eK]; exact h4, h5⟩
    have Sx : Sm X hot [] (startE N.length zs) mu vh (L2.start N vs) H s1 := ⟨I, by rw [eP, ew, eK]; exact R, by rw [eK]; exact start_env rz, hx⟩
    have run := B ⟨callN Y.T k, hot⟩ X G' (XI X eN eenv efn) XS' [] (startE N.length zs) mu vh (L2.start N vs) H s1 (bodyZ Q E) Sx W q0
    rw [eP, ew, eA, eenv] at run
    refine thn run fun fl s' hs => ?_
    have fin : ∀ {σ' : Sl} {H' : Hp} {v : V} {u : Value}, Inv X [] σ' H' s' → RelV v u → QV Y.P Y.w Y.K mu vh H Q v H' → CE outer Y.P Y.w H s (QV Y.P Y.w Y.K mu vh H Q) u s' :=
      fun {σ' H' v u} J rv q => ⟨v, H', by have := J.os; rw [es0] at this; exact this, J.bare, by have := J.base; rw [es0, eH0, eex] at this; rw [show X.fs = frs outer from by show frs X.outer = _; rw [eout]] at this; exact this, by have := J.hok; rw [eP, ew] at this; exact this, rv, q⟩
    cases fl with
    | ret u =>
      obtain ⟨v, vh', y, mu', rho', sg', H', z, S', g', rv, ru⟩ := hs
      exact fin S'.inv ru ⟨v, vh', mu', z, by have := S'.rel; rw [eP, ew, eK] at this; exact this, g', by rw [← eK]; exact rv⟩
    | next =>
      obtain ⟨rho', vh', mu', sg', H', z, S', g'⟩ := hs
      exact fin (v := V.non) (u := Value.none) S'.inv rfl ⟨.non, vh', mu', z, by have := S'.rel; rw [eP, ew, eK] at this; exact this, g', .non⟩
    | brk =>
      obtain ⟨_, _, _, _, _, z, _⟩ := hs
      exact z.elim
    | cont =>
      obtain ⟨_, _, _, _, _, z, _⟩ := hs
      exact z.elim
  have close : ∀ {xe : Value → Shared → Prop}, xe = (fun e s' => wpAny (model Y.P Y.w) (A.deeper (envOfC qual scope s.heap.objs.size f cdv)) (leaving (envOfC qual scope s.heap.objs.size f cdv) e) (fun _ s'' => L2N.CX Y.P Y.w outer H s (QX Y.P Y.w Y.K mu vh H E) e s'') (fun e' s'' => L2N.CX Y.P Y.w outer H s (QX Y.P Y.w Y.K mu vh H E) e' s'') s') → True := fun _ => trivial
  cases hot with
  | none =>
    have I : Inv (cxOf (L2N.CX Y.P Y.w) Y.P Y.w Y.K Y.mg Y.base N qual scope f cdv A outer s H (QX Y.P Y.w Y.K mu vh H E)) [] (L2.start N vs) H s1 := inv_start S hh e0 hl r x
    refine wpAny_mono (go _ rfl rfl rfl rfl rfl rfl rfl rfl rfl rfl rfl rfl rfl (fun _ => rfl) (fun _ => rfl) rfl I trivial) (fun fl s' hs => ?_) fun e s' hs => hs
    cases fl <;> first | exact hs | exact hs.elim
  | some l =>
    obtain ⟨p, c, fs, h1, h2, h3, h4, h5⟩ := hh
    have I : Inv (L2H.cxH (L2N.CX Y.P Y.w) Y.P Y.w Y.K Y.mg Y.base N qual scope f cdv A outer s H (QX Y.P Y.w Y.K mu vh H E) p) [] (L2.start N vs) H s1 := L2H.inv_startH S h2 e0 hl r x
    refine wpAny_mono (go _ rfl rfl rfl rfl rfl rfl rfl rfl rfl rfl rfl rfl rfl (fun _ => rfl) (fun z => nomatch z) rfl I ⟨p, c, fs, List.mem_singleton.mpr rfl, h1, h3, h4, h5⟩) (fun fl s' hs => ?_) fun e s' hs => hs
    cases fl <;> first | exact hs | exact hs.elim
end Pv
end
/-! PvFun2 -/
section
set_option Elab.async false
set_option linter.all false
set_option maxRecDepth 100000
set_option autoImplicit false
/-! Pv: calls of defs. -/
namespace Pv
open PySem PySem.Spec PyProof.Rows L2
theorem Gro.zero (mu : List Addr) (H : Hp) : Gro [] (fun _ => none) mu H := ⟨fun _ _ h => (nomatch h), fun _ _ _ h => (nomatch h), fun _ _ h => (nomatch h), List.nil_prefix⟩
/-- through the layer's values -/
def RU (K : PySem.W.Frag) (mu : List Addr) (H : Hp) (v : Val) (u : Value) : Prop := ∃ x, RV K mu H v x ∧ RelV x u
theorem RU.of {K : PySem.W.Frag} {mu : List Addr} {H : Hp} : ∀ {vs : List Val} {xs : List V} {us : List Value}, RVs K mu H vs xs → Vals xs us → Paired (RU K mu H) vs us
  | _, _, _, .nil, .nil => .nil
  | _, _, _, .cons r t, .cons q z => .cons ⟨_, r, q⟩ (RU.of t z)
theorem RU.to {K : PySem.W.Frag} {mu : List Addr} {H : Hp} : ∀ {vs : List Val} {us : List Value}, Paired (RU K mu H) vs us → ∃ xs, RVs K mu H vs xs ∧ Vals xs us
  | _, _, .nil => ⟨[], .nil, .nil⟩
  | _, _, .cons r t => by
    obtain ⟨x, h1, h2⟩ := r
    obtain ⟨xs, h3, h4⟩ := RU.to t
    exact ⟨x :: xs, .cons h1 h3, .cons h2 h4⟩
theorem dfl_looks {K : PySem.W.Frag} {dV : Value} {dvs : List V} {h : Heap} (X : K.In h) (D : DflV K dV dvs) : ∃ its : List Value, Vals dvs its ∧ ∀ M, PySem.W.Looks M h (seqItems? dV) (if its = [] then none else some its.toArray) ∨ PySem.W.Looks M h (seqItems? dV) (some its.toArray) := by
  rcases D with ⟨rfl, rfl⟩ | ⟨_, T, o, its, n, rfl, lT, oT, rT⟩
  · exact ⟨[], .nil, fun M => .inl (PySem.W.Looks.of_pure rfl)⟩
  · refine ⟨its, rT, fun M => .inr ?_⟩
    have := looks_items (M := M) (k := fun o => pure o) (r := some its.toArray) X lT oT (.of_pure rfl)
    rwa [bind_pure] at this
theorem kwd_looks {K : PySem.W.Frag} {kV : Value} {kws : List (Str × V)} (D : KwdV K kV kws) {n : Str} {x : V} (h : kws.lookup n = some x) : ∃ u D, kV = .ref D ∧ PySem.W.nsIn K D n = some (some u) ∧ RelV x u := by
  rcases D with rfl | ⟨D, rfl, hq⟩
  · cases h
  · obtain ⟨u, h1, h2⟩ := hq _ (PySem.mem_of_lookup h)
    exact ⟨u, D, rfl, h1, h2⟩
section
variable {Y : Sys}
/-- a def is called -/
theorem call_def {cfg : Cfg} {X : Cx} (g : Y.G cfg X) {pins : List (Addr × Obj)} {rho : Env} {mu : List Addr} {vh : VH} {sg : Sl} {H : Hp} {s : Shared} {Q : Val → VH → Prop} {E : Str → Flds → VH → Prop} {i : Nat} {vs ws : List Val} {xs zs : List V} {us ts : List Value} {ks : List Str}
    (S : Sm X cfg.hot pins rho mu vh sg H s) (W : Wish X rho mu vh H E) (r : RVs X.K mu H vs xs) (ru : Vals xs us) (rk : RVs X.K mu H ws zs) (rt : Vals zs ts) (q : (cfg.call cfg.hot i vs (ks.zip ws) vh).W Q E) :
    wpAny (model X.prog X.w) X.A (call (.ref (Y.ad i)) us (ks.zip ts)) (EQ X cfg.hot pins rho mu vh sg H Q) X.xe s := by
  obtain ⟨k, ec, rm, C⟩ := g.lv
  rw [ec] at q
  cases k with
  | zero => exact q.elim
  | succ j =>
    have q1 : (match Y.T.lookup i with
      | some d => (match bindL d.nm d.ko d.dfl (fun n => d.kwd.lookup n) vs (ks.zip ws) with
        | some zs => runF d ⟨callN Y.T j, cfg.hot⟩ zs vh
        | none => .bad)
      | none => .bad : Out Val).W Q E := q
    cases eT : Y.T.lookup i with
    | none => rw [eT] at q1; exact q1.elim
    | some d =>
      rw [eT] at q1
      dsimp only at q1
      cases eB : bindL d.nm d.ko d.dfl (fun n => d.kwd.lookup n) vs (ks.zip ws) with
      | none => rw [eB] at q1; exact q1.elim
      | some zs' =>
        rw [eB] at q1
        obtain ⟨fd, dvs, kws, A, hlev⟩ := C i d eT
        obtain ⟨name, qual, params, body, scope, F, e1, e2, e3, e4, e5⟩ := A.ex
        rcases hlev with h0 | ⟨j', ej, FS⟩
        · cases h0
        cases ej
        obtain ⟨oc, od, dV, kV, doc, pm, an, cdv, ct, osl, rfl, lk, hcd, hD, hK⟩ := F.ex
        have KX : Y.K.In s.heap := by rw [← g.K]; exact S.inv.kIn
        obtain ⟨its, rI, hL⟩ := dfl_looks KX hD
        have K1 := g.K
        -- the defaults, in this heap
        have rd : Paired (RU X.K mu H) d.dfl its := by
          rw [K1]
          exact RU.of (A.dfl.gro (Gro.zero mu H)) rI
        have kd : ∀ n, ∃ o : Option Value, (∀ v, o = some v → ∃ D, kV = .ref D ∧ PySem.W.nsIn Y.K D n = some (some v)) ∧ ∀ a, d.kwd.lookup n = some a → ∃ b, o = some b ∧ RU X.K mu H a b := by
          intro n
          rcases RP.lookup A.kwd n with ⟨a, x, h1, h2, h3⟩ | ⟨h1, h2⟩
          · obtain ⟨u, D, h4, h5, h6⟩ := kwd_looks hK h2
            refine ⟨some u, fun v e => by cases e; exact ⟨D, h4, h5⟩, fun a' e => ?_⟩
            rw [h1] at e
            cases e
            exact ⟨u, rfl, x, by rw [K1]; exact h3.gro (Gro.zero mu H), h6⟩
          · exact ⟨none, fun v e => (nomatch e), fun a e => by rw [h1] at e; cases e⟩
        let kwd' : Str → Option Value := fun n => Classical.choose (kd n)
        obtain ⟨zu, eB', pz⟩ := bindL_rel (R := RU X.K mu H) (dfl' := its) (kwd' := kwd') (pos' := us) (kw' := ks.zip ts) rd (fun n _ a e => (Classical.choose_spec (kd n)).2 a e) (RU.of r ru) (RP.zip (RU.of rk rt)) eB
        obtain ⟨zx, rz, rzu⟩ := RU.to pz
        have hb : BindsTo s (PySem.W.fnOf name qual params body scope dV kV doc pm an cdv ct) ⟨us, ks.zip ts⟩ ((d.nm ++ d.ko).zip zu) := by
          have := binds_of (fd := PySem.W.fnOf name qual params body scope dV kV doc pm an cdv ct) (s := s) (us := us) (zs := zu) (kw := ks.zip ts) (its := its) (kwd := kwd') KX e1 e2 e3 hL (fun n v e => (Classical.choose_spec (kd n)).1 v e)
            (by show bindL (params.args.map (·.arg)) (params.kwonlyargs.map (·.arg)) its kwd' us (ks.zip ts) = some zu; rw [e4, e5]; exact eB')
          have h2 : (PySem.W.fnOf name qual params body scope dV kV doc pm an cdv ct).params = params := rfl
          rw [h2, e4, e5] at this
          exact this
        have hl : zx.length = (d.nm ++ d.ko).length := by
          rw [← rz.length]
          have key : ∀ (s : List (Str × Val)) (ns : List Str) (z : List Val), getAll s ns = some z → z.length = ns.length := by
            intro s ns
            induction ns with
            | nil => intro z h; cases h; rfl
            | cons n ns ih =>
              intro z h
              unfold getAll at h
              split at h
              · rename_i v t h1 h2
                cases h
                show t.length + 1 = ns.length + 1
                rw [ih t h2]
              · cases h
          unfold bindL at eB
          split at eB
          · split at eB
            · split at eB
              · split at eB
                · exact key _ _ _ eB
                · cases eB
              · cases eB
            · cases eB
          · cases eB
        have hA : HotA Y.K mu vh H X.A X.stack s cfg.hot := by
          cases hot : cfg.hot with
          | none => exact S.inv.ok.hd (g.calm hot)
          | some l =>
            have hx := S.hot
            rw [hot] at hx
            obtain ⟨p, c, fs, hp, h2, h3, h4, h5⟩ := hx
            have P1 := S.inv.pin p (List.mem_append_left _ hp)
            exact ⟨p, c, fs, h2, ⟨P1.1, P1.2.1, fun hm => (List.mem_cons.mp (S.inv.stkSub p.1 hm)).elim P1.2.2.1 P1.2.2.2.1, P1.2.2.2.2⟩, h3, h4, by rw [← K1]; exact h5⟩
        have e0 : Env0 Y.P Y.w Y.K Y.mg Y.base X.A X.stack s H := by
          have := S.inv.env0
          rw [g.P, g.w, g.K, g.mg, g.base] at this
          exact this
        have run := FS cfg.hot X.A X.stack s H ⟨us, ks.zip ts⟩ zu zx zs' mu vh Q E (.of rm) g.gd hA e0 hb rzu hl (by rw [← K1]; exact rz) (by have := S.rel; rw [g.P, g.w, g.K] at this; exact this) q1
        rw [← g.P, ← g.w] at run
        refine wpAny_call (codeAny_mono run fun r s' hq => ?_)
        cases r with
        | error e =>
          refine W e s' (L2N.XE.of_call S.inv (fun cls dd H' h => ?_) (show L2N.CX X.prog X.w X.stack H s (QX X.prog X.w Y.K mu vh H E) e s' from hq))
          obtain ⟨c, fs, mu', vh', h1, h2, h3, h4⟩ := h
          exact ⟨c, fs, mu', vh', by rw [K1]; exact h1, h2, S.env.gro h2.gro, by rw [K1]; exact h3, h4⟩
        | ok fl =>
          cases fl with
          | ret u =>
            have hq' : CE X.stack X.prog X.w H s (PQ X mu vh H Q) u s' := by
              obtain ⟨v, H', a, b, c, d', e, v', vh', mu', z, h1, h2, h3⟩ := hq
              exact ⟨v, H', a, b, c, d', e, v', vh', mu', z, by rw [K1]; exact h1, h2, by rw [K1]; exact h3⟩
            exact EQ.of S (S.inv.after hq')
          | next => exact False.elim hq
          | brk => exact False.elim hq
          | cont => exact False.elim hq
end
end Pv
end
/-! PvCall2 -/
section
set_option Elab.async false
set_option linter.all false
set_option maxRecDepth 100000
set_option autoImplicit false
/-! Pv: names of the module, calls by name. -/
namespace Pv
open PySem PySem.Spec PyProof.Rows L2
/-! ### keywords -/
def SimK (G : World') (c : Sc) (kws : List Keyword) (m : Ta) : Prop :=
  ∀ (cfg : Cfg) (X : Cx), G cfg X → XIn c X → ∀ (pos : Pos) (pins : List (Addr × Obj)) (rho : Env) (mu : List Addr) (vh : VH) (sg : Sl) (H : Hp) (s : Shared) (Q : List Val → VH → Prop) (E : Str → Flds → VH → Prop),
    Sm X cfg.hot pins rho mu vh sg H s → Wish X rho mu vh H E → (m cfg rho vh).W Q E → wpAny (model X.prog X.w) X.A (evalAll ((backToKw pos (keywordEach kws X.env)).map (·.2))) (AQ kws.length X cfg.hot pins rho mu vh sg H Q) X.xe s
section
variable {G : World'} {c : Sc} {a : Expr} {ma : Tm} {kws : List Keyword} {mt : Ta} {es : List Expr} {mu' : Ta}
theorem simK_nil : SimK G c [] aNil := fun cfg X g xi pos pins rho mu vh sg H s Q E S W q => wpAny_evalAll_nil ⟨[], vh, [], mu, H, q, S, .refl _ _ _, .nil, .nil, rfl⟩
theorem simK_cons {nm : Option Str} {kp : Pos} (ha : SimE G c a ma) (ht : SimK G c kws mt) : SimK G c (⟨nm, a, kp⟩ :: kws) (aCons ma mt) := by
  intro cfg X g xi pos pins rho mu vh sg H s Q E S W q
  show wpAny _ _ (evalAll ((do let v ← eval a X.env; standAt pos; pure v) :: (backToKw pos (keywordEach kws X.env)).map (·.2))) _ _ s
  refine wpAny_evalAll_cons (wpAny_bind (ha.then g xi S W q fun v vh1 x mu1 H1 u s1 S1 g1 rv r q1 => wpAny_bind (wpAny_standAt (wpAny_pure ?_))))
  rw [Out.W_bind] at q1
  refine thn (ht cfg X g xi pos pins rho mu1 vh1 sg H1 s1 _ E S1 (W.from g1) q1) fun us s2 hq => ?_
  obtain ⟨vs, vh2, xs, mu2, H2, q2, S2, g2, rvs, rs, hl⟩ := hq
  exact ⟨v :: vs, vh2, x :: xs, mu2, H2, q2, S2, g1.trans g2, .cons (rv.gro g2.gro) rvs, .cons r rs, by rw [List.length_cons, hl]; rfl⟩
def kwAll (kws : List Keyword) : Bool := kws.all fun k => k.arg.isSome
theorem kw_all {env : PySem.Env} {pos : Pos} : ∀ {kws : List Keyword}, kwAll kws = true → (backToKw pos (keywordEach kws env)).all (·.1.isSome) = true
  | [], _ => rfl
  | ⟨nm, e, kp⟩ :: kws, h => by
    unfold kwAll at h
    rw [List.all_cons, Bool.and_eq_true] at h
    show (nm.isSome && (backToKw pos (keywordEach kws env)).all (·.1.isSome)) = true
    rw [show nm.isSome = true from h.1, kw_all h.2]; rfl
theorem kw_none {env : PySem.Env} {pos : Pos} : ∀ {kws : List Keyword}, kwAll kws = true → (backToKw pos (keywordEach kws env)).any (·.1.isNone) = false
  | [], _ => rfl
  | ⟨nm, e, kp⟩ :: kws, h => by
    unfold kwAll at h
    rw [List.all_cons, Bool.and_eq_true] at h
    show (nm.isNone || (backToKw pos (keywordEach kws env)).any (·.1.isNone)) = false
    have h1 : nm.isSome = true := h.1
    rw [kw_none h.2]
    cases nm with
    | none => cases h1
    | some x => rfl
theorem kw_names {env : PySem.Env} {pos : Pos} : ∀ {kws : List Keyword}, (backToKw pos (keywordEach kws env)).filterMap (·.1) = kwsOf kws
  | [] => rfl
  | ⟨nm, e, kp⟩ :: kws => by
    show (((nm, _) :: backToKw pos (keywordEach kws env)) : List (Option Str × Sem Value)).filterMap (·.1) = kwsOf (⟨nm, e, kp⟩ :: kws)
    unfold kwsOf
    cases nm with
    | none => simp only [List.filterMap_cons]; exact kw_names
    | some x => simp only [List.filterMap_cons]; exact congrArg (x :: ·) kw_names
/-- the arguments of a call, then the call: f's value keeps -/
theorem call_args {cfg : Cfg} {X : Cx} (g : G cfg X) (xi : XIn c X) {pins : List (Addr × Obj)} {rho : Env} {mu : List Addr} {vh : VH} {sg : Sl} {H : Hp} {s : Shared} {β : Type} {Q : β → VH → Prop} {R : Value → Shared → Prop} {E : Str → Flds → VH → Prop} {k : List Val → List Val → VH → Out β} {f : Value} {first : List Value} {pos : Pos}
    (hf : PySem.W.keepIn X.K f = true) (ht : SimA G c es mt) (hk : SimK G c kws mu') (hs : es.all noStar = true) (hkw : kwAll kws = true) (S : Sm X cfg.hot pins rho mu vh sg H s) (W : Wish X rho mu vh H E)
    (q : ((mt cfg rho vh).bind fun vs h => (mu' cfg rho h).bind fun ws h => k vs ws h).W Q E)
    (h : ∀ vs ws vh1 xs zs mu1 H1 us ts s1, Sm X cfg.hot pins rho mu1 vh1 sg H1 s1 → Ex mu vh H mu1 vh1 H1 → RVs X.K mu1 H1 vs xs → Vals xs us → RVs X.K mu1 H1 ws zs → Vals zs ts → us.length = es.length → (k vs ws vh1).W Q E → wpAny (model X.prog X.w) X.A (call f (first ++ us) ((kwsOf kws).zip ts)) R X.xe s1) :
    wpAny (model X.prog X.w) X.A (callWith pos f first (backTo pos (starEach es X.env)) (backToKw pos (keywordEach kws X.env))) R X.xe s := by
  have key : wpAny (model X.prog X.w) X.A (spliced (backTo pos (starEach es X.env))) (fun us s1 => wpAny (model X.prog X.w) X.A (evalAll ((backToKw pos (keywordEach kws X.env)).map (·.2))) (fun ts s2 => X.K.In s2.heap ∧ wpAny (model X.prog X.w) X.A (call f (first ++ us) ((kwsOf kws).zip ts)) R X.xe s2) X.xe s1) X.xe s := by
    refine ht.then g xi S W q fun vs vh1 xs mu1 H1 us s1 S1 g1 rv r hl q1 => ?_
    rw [Out.W_bind] at q1
    refine thn (hk cfg X g xi pos pins rho mu1 vh1 sg H1 s1 _ E S1 (W.from g1) q1) fun ts s2 hq => ?_
    obtain ⟨ws, vh2, zs, mu2, H2, q2, S2, g2, rvs, rs, hl2⟩ := hq
    exact ⟨S2.inv.kIn, h vs ws vh2 xs zs mu2 H2 us ts s2 S2 (g1.trans g2) (rv.gro g2.gro) r rvs rs hl q2⟩
  cases es with
  | nil =>
    refine PySem.W.callWith_KW0 (h₀ := X.base) S.inv.ok.mod.kin hf (kw_all hkw) ?_ (by rw [kw_none hkw]; rfl)
    rw [kw_names]
    have k2 : wpAny (model X.prog X.w) X.A (spliced []) (fun us s1 => wpAny (model X.prog X.w) X.A (evalAll ((backToKw pos (keywordEach kws X.env)).map (·.2))) (fun ts s2 => X.K.In s2.heap ∧ wpAny (model X.prog X.w) X.A (call f (first ++ us) ((kwsOf kws).zip ts)) R X.xe s2) X.xe s1) X.xe s := key
    exact fun Γ p hΓ => (k2 Γ p hΓ) Γ p hΓ
  | cons e es =>
    rw [List.all_cons, Bool.and_eq_true] at hs
    refine PySem.W.callWith_KW (h₀ := X.base) S.inv.ok.mod.kin hf (kw_all hkw) ?_ ?_ (starEach_cons hs.1)
    · rw [kw_names]; exact key
    · rw [noStars (by rw [List.all_cons, hs.1, hs.2]; rfl), kw_none hkw]; rfl
end
/-! ### names of the module -/
/-- what a law's head tells of the module: defs (their numbers), constants, objects -/
structure Kn (Y : Sys) (fs : List (Str × Nat)) (cs : List (Str × Val)) (gs : List Str) : Prop where
  fn : ∀ p ∈ fs, Y.mg p.1 = some (.ref (Y.ad p.2)) ∧ PySem.W.keepIn Y.K (.ref (Y.ad p.2)) = true
  con : ∀ p ∈ cs, ∃ u x, Y.mg p.1 = some u ∧ RelV x u ∧ RV Y.K [] (fun _ => none) p.2 x
  glo : ∀ x ∈ gs, Y.mg x = some (.ref (He.ga Y.K x))
  bl : ∀ x ∈ bnames, Y.mg x = none
/-- a name of the module, in this scope -/
def gloB (c : Sc) (x : Str) : Bool := c.sc.names.lookup x == some .globalImplicit && !(x == ("__debug__" : Str)) && !(x == ("__name__" : Str))
theorem gloB_ok {c : Sc} {x : Str} (h : gloB c x = true) : c.sc.names.lookup x = some .globalImplicit ∧ (x == ("__debug__" : Str)) = false := by
  unfold gloB at h
  rw [Bool.and_eq_true, Bool.and_eq_true] at h
  exact ⟨by simpa using h.1.1, by simpa using h.1.2⟩
section
variable {Y : Sys} {fs : List (Str × Nat)} {cs : List (Str × Val)} {gs : List Str} {c : Sc} {es : List Expr} {mt mk : Ta} {kws : List Keyword} {pos p : Pos} {x : Str} {i j : Nat}
theorem simE_call (kn : Kn Y fs cs gs) (hf : fs[j]? = some (x, i)) (hg : gloB c x = true) (ht : SimA Y.G c es mt) (hk : SimK Y.G c kws mk) (hs : es.all noStar = true) (hkw : kwAll kws = true) : SimE Y.G c (.Call (.Name x p) es kws pos) (eCall i mt (kwsOf kws) mk) := .mk <| by
  intro cfg X g xi pins rho mu vh sg H s Q E S W q
  obtain ⟨hm, hkp⟩ := kn.fn _ (List.mem_of_getElem? hf)
  obtain ⟨h1, h2⟩ := gloB_ok hg
  refine wpAny_Call_Name_kw (ld_glob S.inv (by show X.env.scope.names.lookup x = _; rw [xi.sc]; exact h1) (by rw [g.mg]; exact hm) ?_ h2)
  refine call_args (first := []) g xi (by rw [g.K]; exact hkp) ht hk hs hkw S W q fun vs ws vh1 xs zs mu1 H1 us ts s1 S1 g1 rv r rk rt hl q1 => ?_
  exact thn (call_def g S1 (W.from g1) rv r rk rt q1) fun z s2 hz => hz.from g1
theorem simE_G {v : Val} (kn : Kn Y fs cs gs) (hf : cs[j]? = some (x, v)) (hg : gloB c x = true) : SimE Y.G c (.Name x pos) (eC v) := .mk <| by
  intro cfg X g xi pins rho mu vh sg H s Q E S W q
  obtain ⟨u, y, hm, r, rv⟩ := kn.con _ (List.mem_of_getElem? hf)
  obtain ⟨h1, h2⟩ := gloB_ok hg
  exact ld_glob S.inv (by show X.env.scope.names.lookup x = _; rw [xi.sc]; exact h1) (by rw [g.mg]; exact hm) (EQ.pure S q (by rw [g.K]; exact rv.gro (Gro.zero mu H)) r S.inv) h2
theorem simE_O (kn : Kn Y fs cs gs) (hf : gs[j]? = some x) (hg : gloB c x = true) : SimE Y.G c (.Name x pos) (eC (.glo x)) := .mk <| by
  intro cfg X g xi pins rho mu vh sg H s Q E S W q
  have hm := kn.glo _ (List.mem_of_getElem? hf)
  obtain ⟨h1, h2⟩ := gloB_ok hg
  exact ld_glob S.inv (by show X.env.scope.names.lookup x = _; rw [xi.sc]; exact h1) (by rw [g.mg]; exact hm) (EQ.pure S (v := .glo x) q (.glo x) (by rw [g.K]; rfl) S.inv) h2
end
end Pv
end
/-! PvMk -/
section
set_option Elab.async false
set_option linter.all false
set_option maxRecDepth 100000
set_option autoImplicit false
/-! Pv: exception classes made with keywords; over ValueError or LookupError. -/
namespace PySem
namespace PvX
open HandSPX Builtin Builtin.ObjectAttr
section
variable {M : Model} {prog : Program} {w : World} {A : Around} {E : Value → Shared → Prop} {R : Result → Shared → Prop} {h : Heap} {g : Array GenState} {d : Drawn} {t : Nat} {os : OsState}
variable {nm q : Str} {C N : Addr} {bs bm bmB : List Value} {hdct : Bool} {sn : List Str} {sub : List Value} {ab : Bool} {col : Option Bool} {dd : Option Addr} {k0 k1 k2 k3 k5 : Option Value} {B newId initId : String}
theorem checkNewK (F : ExcBaseFacts B newId initId bmB) (hT : ∀ X : String, bm.contains (.type X) = bmB.contains (.type X)) {rest : List Value} {kw : List (Str × Value)} {Q : Unit → Shared → Prop}
    (hC : h.get? C = some (excClassObj nm q C N bs bm hdct sn sub ab col dd k0 k1 k2 k3 k5 newId)) (hq : Q () ⟨h, g, d, t, os⟩) : wpAny M A (checkBuiltinCall newId ⟨.ref C :: rest, kw⟩) Q E ⟨h, g, d, t, os⟩ := by
  have hcont : (Value.ref C :: bm).contains (.type B) = true := by rw [List.contains_cons, hT, F.hasB, Bool.or_true]
  have hstar := F.noStar
  simp only [checkBuiltinCall, F.newKind, F.newSplit, F.newRow]
  repeat (first | refine wpAny_loadPart_at hC ?_ | (refine wpAny_isSubtype_exc hC ?_; rw [hcont]) | refine wpAny_staticBase_exc hC ?_ | refine wpAny_madeBy_exc hC ?_ | simp only [bne_self_eq_false, Bool.false_eq_true, if_false] | wp_step)
  exact hq
theorem newK (F : ExcBaseFacts B newId initId bmB) (hT : ∀ X : String, bm.contains (.type X) = bmB.contains (.type X)) {rest : List Value} {kw : List (Str × Value)}
    (hC : h.get? C = some (excClassObj nm q C N bs bm hdct sn sub ab col dd k0 k1 k2 k3 k5 newId))
    (hq : R (.ok (.ret (.ref (h.objs.size + 1)))) ⟨(h.push { cls := .type "tuple", data := .seq rest.toArray }).push
      { cls := .ref C, data := .fields #[.ref h.objs.size, .none, .none, .none, .bool false, .none] }, g, d, t, os⟩) (hrest : rest.length ≤ sizeLine) :
    codeAny (model prog w) A (.builtin newId ⟨.ref C :: rest, kw⟩) R ⟨h, g, d, t, os⟩ := by
  have hends := F.ends
  have hcB : (Value.ref C :: bm).contains (.type B) = true := by rw [List.contains_cons, hT, F.hasB, Bool.or_true]
  have hcA : (Value.ref C :: bm).contains (.type "AttributeError") = false := by rw [List.contains_cons, hT, F.noAttr]; rfl
  have hcN : (Value.ref C :: bm).contains (.type "NameError") = false := by rw [List.contains_cons, hT, F.noName]; rfl
  refine codeAny_builtinAt F.entry ?_
  unfold Builtin.«BaseException.__new__»
  refine wpAt_bind ?_
  show wpAt _ _ _ (stack >>= _) _ _ _
  refine wpAt_bind (wpAt_stack fun p below => wpAt_of_wpAny ?_)
  wp_walk
  refine wpAt_of_wpAny ?_
  rw [F.owner]
  repeat (first | with_reducible refine wpAny_madeHere_exc F.canon hC ?_ | with_reducible refine wpAny_loadPart_at hC ?_ | (with_reducible refine wpAny_isSubtype_exc hC ?_; first | rw [hcB] | rw [hcA] | rw [hcN]) | wp_step)
  show R _ _
  rw [Heap.size_push]
  exact hq

theorem typeCallK (F : ExcBaseFacts B newId initId bmB) (hT : ∀ X : String, bm.contains (.type X) = bmB.contains (.type X)) {rest : List Value} {kw : List (Str × Value)} {fI : Addr} {Q : Fin → Shared → Prop}
    (hC : h.get? C = some (excClassObj nm q C N bs bm hdct sn sub ab col dd k0 k1 k2 k3 k5 newId))
    (hi : W.Looks (model prog w) h (typeLookup (.ref C) "__init__") (some (.ref fI))) (hb : ∀ self, W.Looks (model prog w) h (bindSpecial (.ref fI) self) (.ref fI, [self])) (hrest : rest.length ≤ sizeLine)
    (hq : codeAny (model prog w) A (.call (.ref fI) ⟨.ref (h.objs.size + 1) :: rest, kw⟩)
      (fun r s' => match r with | .ok (.ret v) => v = .none ∧ Q (.done (.ret (.ref (h.objs.size + 1)))) s' | .ok _ => False | .error e => E e s')
      ⟨(h.push (W.kdv_tup rest)).push (excO C h.objs.size), g, d, t, os⟩) :
    wpAny (model prog w) A (Builtin.«type.__call__» ⟨.ref C :: rest, kw⟩) Q E ⟨h, g, d, t, os⟩ := by
  repeat (first | with_reducible refine wpAny_loadPart_at hC ?_ | with_reducible refine wpAny_madeBy_exc hC ?_ | wp_step)
  refine codeAny_call_builtin_code (Code.quiet_builtin _ F.quiet) (checkNewK F hT hC ?_)
  refine newK F hT hC ?_ hrest
  show wpAny _ _ _ _ _ _
  have k : ∀ b o, h.get? b = some o → ((h.push (W.kdv_tup rest)).push (excO C h.objs.size)).get? b = some o := fun b o e => Heap.get?_push_of_some _ (Heap.get?_push_of_some _ e)
  have hC₁ := k _ _ hC
  have hget : ((h.push (W.kdv_tup rest)).push (excO C h.objs.size)).get? (h.objs.size + 1) = some (excO C h.objs.size) := by heap_get
  have hcC : (Value.ref C :: bm).contains (.ref C) = true := by simp
  have i1 := hi.keeps k
  have b1 := (hb (.ref (h.objs.size + 1))).keeps k
  unfold isInstance
  repeat (first | with_reducible refine wpAny_loadPart_at hget ?_ | (with_reducible refine wpAny_isSubtype_exc hC₁ ?_; rw [hcC]) | wp_step)
  show wpAny _ _ (typeLookup (.ref C) _) _ _ _
  refine i1.at ?_
  refine wpAny_holding (wpAny_bind (b1.at ?_))
  refine wpAny_bind (wpAny_call (codeAny_mono hq fun r s' z => ?_))
  rcases r with e | (v | _ | _ | _) <;> first | exact z | exact z.elim | skip
  obtain ⟨rfl, z⟩ := z
  first
    | exact wpAny_pure (wpAny_pure z)
    | (wp_walk; exact z)

theorem callK (F : ExcBaseFacts B newId initId bmB) (hT : ∀ X : String, bm.contains (.type X) = bmB.contains (.type X)) {rest : List Value} {kw : List (Str × Value)} {fI : Addr}
    (hC : h.get? C = some (excClassObj nm q C N bs bm hdct sn sub ab col dd k0 k1 k2 k3 k5 newId))
    (hi : W.Looks (model prog w) h (typeLookup (.ref C) "__init__") (some (.ref fI))) (hb : ∀ self, W.Looks (model prog w) h (bindSpecial (.ref fI) self) (.ref fI, [self])) (hrest : rest.length ≤ sizeLine)
    (hq : codeAny (model prog w) (A.under (.builtin "type.__call__" ⟨.ref C :: rest, kw⟩)) (.call (.ref fI) ⟨.ref (h.objs.size + 1) :: rest, kw⟩) (W.InitBack (h.objs.size + 1) R)
      ⟨(h.push (W.kdv_tup rest)).push (excO C h.objs.size), g, d, t, os⟩) :
    codeAny (model prog w) A (.call (.ref C) ⟨rest, kw⟩) R ⟨h, g, d, t, os⟩ := by
  have f1 := tc_lookup
  have f2 := tc_bind (.ref C)
  have hTy : (⟨h, g, d, t, os⟩ : Shared).TypeIs (.ref C) "type" := ⟨_, hC, rfl⟩
  refine codeAny_of_tree ?_
  show wpAny _ _ (callAny (.ref C) _) _ _ _
  repeat (any_goals (first | assumption | with_reducible refine wpAny_loadPart_at hC ?_ | wp_step))
  refine ⟨rfl, ?_⟩
  refine codeAny_call_builtin_at (Code.quiet_builtin _ (by decide +kernel)) entry_typeCall (wpAny_check_type_call_sub hC (typeCallK F hT hC hi hb hrest ?_))
  refine codeAny_mono hq fun r s' z => ?_
  rcases r with e | (v | _ | _ | _) <;> exact z

end
end PvX
end PySem
end
/-! PvOex -/
section
set_option Elab.async false
set_option linter.all false
set_option maxRecDepth 100000
set_option maxHeartbeats 4000000
/-! Pv: own exceptions over ValueError or LookupError whose __init__ stores. -/
namespace PySem
namespace PvX
open HandSPX Builtin Builtin.ObjectAttr OEX PySem.W PySem.Calls PyProof.Rows
structure MroOk (l : List Value) : Prop where
  pass : ∀ self : Value, refuseLoop self "__setattr__" l = pure ()
  obj : l.contains (.type "object") = true
  ne : l.isEmpty = false
abbrev leTail : List Value := [.type "LookupError", .type "Exception", .type "BaseException", .type "object"]
/-- own classes, then LookupError's mro -/
def refsLE : List Value → Bool
  | .ref _ :: r => refsLE r
  | l => l == leTail
theorem refsLE_cases : ∀ l : List Value, refsLE l = true → (∃ c r, l = .ref c :: r ∧ refsLE r = true) ∨ l = leTail
  | [], e => .inr (beq_iff_eq.mp e)
  | .ref c :: r, e => .inl ⟨c, r, rfl, e⟩
  | .none :: _, e => .inr (beq_iff_eq.mp e)
  | .ellipsis :: _, e => .inr (beq_iff_eq.mp e)
  | .notImplemented :: _, e => .inr (beq_iff_eq.mp e)
  | .bool _ :: _, e => .inr (beq_iff_eq.mp e)
  | .int _ _ :: _, e => .inr (beq_iff_eq.mp e)
  | .float _ _ :: _, e => .inr (beq_iff_eq.mp e)
  | .str _ _ :: _, e => .inr (beq_iff_eq.mp e)
  | .bytes _ _ :: _, e => .inr (beq_iff_eq.mp e)
  | .type _ :: _, e => .inr (beq_iff_eq.mp e)
  | .builtin _ :: _, e => .inr (beq_iff_eq.mp e)
theorem refsLE_pass (self : Value) : ∀ l : List Value, refsLE l = true → refuseLoop self "__setattr__" l = pure () := by
  intro l
  induction l with
  | nil => intro e; exact absurd e (by decide)
  | cons a r ih =>
    intro e
    rcases refsLE_cases (a :: r) e with ⟨c, r', q, h⟩ | q
    · obtain ⟨rfl, rfl⟩ := List.cons.inj q
      rw [refuseLoop_ref]; exact ih h
    · rw [q]; exact F.store_LookupError.passes self
theorem refsLE_contains (X : String) : ∀ l : List Value, refsLE l = true → l.contains (.type X) = leTail.contains (.type X) := by
  intro l
  induction l with
  | nil => intro e; exact absurd e (by decide)
  | cons a r ih =>
    intro e
    rcases refsLE_cases (a :: r) e with ⟨c, r', q, h⟩ | q
    · obtain ⟨rfl, rfl⟩ := List.cons.inj q
      rw [List.contains_cons, ih h]; rfl
    · rw [q]
theorem refsLE_ne {l : List Value} (e : refsLE l = true) : l.isEmpty = false := by
  cases l with
  | nil => exact absurd e (by decide)
  | cons _ _ => rfl
theorem mroVE {l : List Value} (h : refsVE l = true) : MroOk l := ⟨fun self => refsVE_pass self l h, (refsVE_contains "object" _ h).trans (by decide +kernel), refsVE_ne h⟩
theorem mroLE {l : List Value} (h : refsLE l = true) : MroOk l := ⟨fun self => refsLE_pass self l h, (refsLE_contains "object" _ h).trans (by decide +kernel), refsLE_ne h⟩
section
variable {prog : Program} {w : World} {A : Around} {E : Value → Shared → Prop} {R : Result → Shared → Prop} {hp : Heap} {g : Array GenState} {d : Drawn} {t : Nat} {os : OsState}
theorem exc_osaG {K : W.Frag} {name : Str} {tk : Tok} {v : Value} {x C : Addr} {fv : Array Value} {cd : ClassData}
    (X : K.In hp) (hx : hp.get? x = some { cls := .ref C, data := .fields fv }) (hcd : W.clsIn K C = some cd) (hm : MroOk cd.mro) (hh : cd.hasDict = true) (ha : W.findIn K (.ref C) name = some none)
    (hq : ∀ h' tk' dx, (∀ b o, b ≠ x → hp.get? b = some o → h'.get? b = some o) → hp.objs.size ≤ dx → dx ≠ x → h'.get? x = some { cls := .ref C, dict := some dx, data := .fields fv } →
      h'.Ns1 dx (fun y => if y = name then some v else none) → R (.ok (.ret .none)) ⟨h', g, d, tk', os⟩) :
    codeAny (model prog w) A (.call (.builtin "object.__setattr__") ⟨[.ref x, .str name tk, v], []⟩) R ⟨hp, g, d, t, os⟩ := by
  have I : W.InstAt hp x { cls := .ref C, data := .fields fv } C none := ⟨hx, rfl, rfl, trivial⟩
  have SF := F.store_object
  have ne := hm.ne
  have hob : cd.mro.contains (.type "object") = true := hm.obj
  have hxs : x ≠ hp.objs.size := Nat.ne_of_lt (Heap.lt_size hx)
  have sub : W.Looks (model prog w) hp (isInstance (.ref x) (.type "object")) true := I.type.andThen (W.looks_mroIn X (by unfold W.mroIn; rw [hcd, Option.bind_some, if_neg (by rw [ne]; decide), hob]))
  refine codeAny_call_builtin SF.slot.plain SF.entry (@W.check_slot (model prog w) _ _ ⟨hp, g, d, t, os⟩ "object.__setattr__" "object" "__setattr__" (.ref x) [.str name tk, v] [] _ SF.kind SF.split sub (SF.args (.ref x) (.str name tk) v) ?_)
  have hmr : W.Looks (model prog w) hp (mroOf (.ref C)) cd.mro := (W.looks_clsIn X hcd).andThen .now
  have L3 : W.Looks (model prog w) hp (storeTaker? none) none := .now
  have hcls : W.Looks (model prog w) hp (classData C) cd := W.looks_clsIn X hcd
  rw [W.osa_eq, refuse_eq]
  refine wpAny_bind (wpAny_bind (I.type.at (wpAny_bind (hmr.at ?_))))
  rw [hm.pass]
  refine wpAny_pure (wpAny_bind (I.type.at (wpAny_bind ((W.looks_findIn X ha).at (wpAny_bind (L3.at ?_))))))
  show wpAny _ _ (storeInOwnDict (.ref x) (.ref C) (.str name tk) name v false) _ _ _
  obtain ⟨nm, bs, mro, ns, qn, hd, sn, sb, ab, col, del⟩ := cd
  dsimp only at hh
  subst hh
  unfold storeInOwnDict ownDictForStores
  repeat (first | with_reducible refine store_in_new ?_ ?_ | with_reducible refine wpAny_loadPart_at hx ?_ | with_reducible refine hcls.at ?_ | wp_step)
  · exact ⟨_, #[], _, (Heap.get?_update_ne _ _ _ _ hxs.symm).trans (Heap.get?_push_at rfl rfl), rfl, fun e he => absurd he (by simp), fun _ => rfl⟩
  · intro h' tk' hn' hs
    have hx₁ : (hp.push { cls := .type "dict", data := .dict #[] }).get? x = some { cls := .ref C, data := .fields fv } := Heap.get?_push_of_some _ hx
    refine hq h' tk' hp.objs.size (fun b o hb ho => ?_) (Nat.le_refl _) hxs.symm ?_ hn'
    · exact (hs.2 b (Nat.ne_of_lt (Heap.lt_size ho))).trans ((Heap.get?_update_ne _ _ _ _ hb).trans (Heap.get?_push_of_some _ ho))
    · exact (hs.2 x hxs).trans (Heap.get?_update_self _ hx₁ rfl)
theorem osa_oldG {K : W.Frag} {name : Str} {tk : Tok} {v : Value} {x C dx : Addr} {fv : Array Value} {cd : ClassData} {m0 : Str → Option Value} {nl : List Str}
    (X : K.In hp) (hx : hp.get? x = some { cls := .ref C, dict := some dx, data := .fields fv }) (hns : hp.Ns1 dx m0) (hw : Within m0 nl) (hz : nl.length ≤ 1000) (hcd : W.clsIn K C = some cd) (hm : MroOk cd.mro) (hh : cd.hasDict = true)
    (ha : W.findIn K (.ref C) name = some none)
    (hq : ∀ h' tk', (∀ b o, b ≠ dx → hp.get? b = some o → h'.get? b = some o) → h'.Ns1 dx (fun y => if y = name then some v else m0 y) → R (.ok (.ret .none)) ⟨h', g, d, tk', os⟩) :
    codeAny (model prog w) A (.call (.builtin "object.__setattr__") ⟨[.ref x, .str name tk, v], []⟩) R ⟨hp, g, d, t, os⟩ := by
  obtain ⟨oD, esD, epD, hoD, hdD, _⟩ := hns.count hw
  have I : W.InstAt hp x { cls := .ref C, dict := some dx, data := .fields fv } C (some oD) := ⟨hx, rfl, rfl, hoD⟩
  have SF := F.store_object
  have ne := hm.ne
  have hob : cd.mro.contains (.type "object") = true := hm.obj
  have sub : W.Looks (model prog w) hp (isInstance (.ref x) (.type "object")) true := I.type.andThen (W.looks_mroIn X (by unfold W.mroIn; rw [hcd, Option.bind_some, if_neg (by rw [ne]; decide), hob]))
  refine codeAny_call_builtin SF.slot.plain SF.entry (@W.check_slot (model prog w) _ _ ⟨hp, g, d, t, os⟩ "object.__setattr__" "object" "__setattr__" (.ref x) [.str name tk, v] [] _ SF.kind SF.split sub (SF.args (.ref x) (.str name tk) v) ?_)
  have hmr : W.Looks (model prog w) hp (mroOf (.ref C)) cd.mro := (W.looks_clsIn X hcd).andThen .now
  have L3 : W.Looks (model prog w) hp (storeTaker? none) none := .now
  have hcls : W.Looks (model prog w) hp (classData C) cd := W.looks_clsIn X hcd
  rw [W.osa_eq, refuse_eq]
  refine wpAny_bind (wpAny_bind (I.type.at (wpAny_bind (hmr.at ?_))))
  rw [hm.pass]
  refine wpAny_pure (wpAny_bind (I.type.at (wpAny_bind ((W.looks_findIn X ha).at (wpAny_bind (L3.at ?_))))))
  show wpAny _ _ (storeInOwnDict (.ref x) (.ref C) (.str name tk) name v false) _ _ _
  obtain ⟨nm, bs, mro, ns, qn, hd, sn, sb, ab, col, del⟩ := cd
  dsimp only at hh
  subst hh
  unfold storeInOwnDict ownDictForStores
  repeat (first | with_reducible refine store_in_old hns hw hz ?_ | with_reducible refine wpAny_loadPart_at hx ?_ | with_reducible refine hcls.at ?_ | wp_step)
  intro h' tk' hn' hs
  exact hq h' tk' (fun b o hb ho => (hs.2 b hb).trans ho) hn'
end
end PvX
end PySem
set_option autoImplicit false
namespace Pv
open PySem PySem.Spec PyProof.Rows L2
/-- what the written part says of the class -/
structure OexG (K : PySem.W.Frag) (C : Addr) : Prop where
  cls : ∃ nm q N bs bm sn sub ab col dd k0 k1 k2 k3 k5 B newId initId bmB, ExcBaseFacts B newId initId bmB ∧ (∀ X : String, bm.contains (.type X) = bmB.contains (.type X)) ∧ PvX.MroOk (.ref C :: bm) ∧ K.lookup C = some (excClassObj nm q C N bs bm true sn sub ab col dd k0 k1 k2 k3 k5 newId)
  sa : PySem.W.findIn K (.ref C) "__setattr__" = some (some (.builtin "object.__setattr__"))
  exC : PySem.W.subIn K (.ref C) (.type "BaseException") = some true
  tyC : PySem.W.typeIn K (.ref C) = some (.type "type")
  kC : PySem.W.keepIn K (.ref C) = true
section
variable {X : Cx} {pins : List (Addr × Obj)} {σ : L2.St} {H : Hp} {s : Shared} {a C dx : Addr} {f : Str} {y : V} {u : Value} {fs : List (Str × V)} {Q : Unit → Shared → Prop} {E : Value → Shared → Prop} {A : Around}
theorem ost_newG (T : OexG X.K C) (I : Inv X pins σ H s) (e : H a = some (exo a C none)) (hno : PySem.W.findIn X.K (.ref C) f = some none) (ry : RelV y u)
    (h : ∀ dx s', H dx = none → dx ≠ a → Inv X pins σ (upd (upd H dx (exd dx [(f, y)])) a (exo a C (some dx))) s' → Q () s') : wpAny (model X.prog X.w) A (setAttr (.ref a) f u) Q E s := by
  obtain ⟨nm, q, N, bs, bm, sn, sub, ab, col, dd, k0, k1, k2, k3, k5, B, newId, initId, bmB, BF, hT, hM, hC⟩ := T.cls
  have hcl : PySem.W.clsIn X.K C = some { name := nm, bases := bs, mro := .ref C :: bm, ns := N, qualname := q, hasDict := true, slotNames := sn, subclasses := sub, abstract := ab, collection := col, hasDel := false } := by unfold PySem.W.clsIn; rw [hC] <;> rfl
  obtain ⟨t1, ho⟩ := exo_at I.hok e
  obtain ⟨hp, g, d, t, os⟩ := s
  refine PySem.W.set_plain I.kIn (ox := { cls := .ref C, dict := none, data := .fields #[.ref t1, .none, .none, .none, .bool false, .none] }) (od := none) ⟨ho, rfl, rfl, trivial⟩ T.sa ?_
  refine PySem.PvX.exc_osaG I.kIn ho hcl hM rfl hno (fun h' tk' dx k dn dne hx hn => ?_)
  have hnd : H dx = none := I.hok.fresh dn
  have nd : ∀ {b : Addr} {o : Obj}, hp.get? b = some o → b ≠ dx := fun {b o} q => Nat.ne_of_lt (Nat.lt_of_lt_of_le (Heap.lt_size q) dn)
  have na : ∀ {b : Addr}, H b = none → b ≠ a := fun {b} n z => by
    rw [z, e] at n
    cases n
  have Un1 : Un X.fs [] H (upd (upd H dx (exd dx [(f, y)])) a (exo a C (some dx))) hp h' := {
    keep := fun b o q n _ _ => k b o (na n) q
    slot := fun b o q n _ _ => ⟨o.slots, k b o (na n) q⟩
    free := fun b o q n _ => by rw [upd_ne (na n), upd_ne (nd q)]; exact n
    there := fun b o q _ => by
      by_cases hb : b = a
      · exact ⟨_, by rw [hb]; exact hx⟩
      · exact ⟨o, k b o hb q⟩
    tups := fun b xs q => by rw [upd_ne (at_ne e q exo_tup), upd_ne (ne_of_none q hnd)]; exact q
    frzs := fun b o v q => by rw [upd_ne (at_ne e q exo_frz), upd_ne (ne_of_none q hnd)]; exact q
    tbls := fun b ps q => ⟨#[], by rw [upd_ne (at_ne e q exo_tbl), upd_ne (ne_of_none q hnd), q]; simp⟩ }
  refine h dx _ hnd dne (I.un (t' := tk') Un1 fun b o q => ?_)
  by_cases hb : b = a
  · subst hb
    rw [upd_same] at q
    cases q
    exact exo_ok hx
  · rw [upd_ne hb] at q
    by_cases hd : b = dx
    · subst hd
      rw [upd_same] at q
      cases q
      exact exd_ok hn (relO_put (fs := []) ry fun g => True.intro)
    · rw [upd_ne hd] at q
      exact (I.hok b o q).stay (fun c v hc z => k c v (by
          rcases hc with hc | hc
          · rw [hc]
            exact hb
          · exact at_ne e hc exo_own) z)
        (fun c hc => by rw [upd_ne (at_ne e hc exo_own), upd_ne (ne_of_none hc hnd)]; exact hc) (fun c xs hc => by rw [upd_ne (at_ne e hc exo_tup), upd_ne (ne_of_none hc hnd)]; exact hc)
theorem ost_oldG (T : OexG X.K C) (I : Inv X pins σ H s) (e : H a = some (exo a C (some dx))) (ed : H dx = some (exd dx fs)) (hl : fs.length ≤ 900) (hno : PySem.W.findIn X.K (.ref C) f = some none) (ry : RelV y u)
    (h : ∀ s', Inv X pins σ (upd H dx (exd dx ((f, y) :: fs))) s' → Q () s') : wpAny (model X.prog X.w) A (setAttr (.ref a) f u) Q E s := by
  obtain ⟨nm, q, N, bs, bm, sn, sub, ab, col, dd, k0, k1, k2, k3, k5, B, newId, initId, bmB, BF, hT, hM, hC⟩ := T.cls
  have hcl : PySem.W.clsIn X.K C = some { name := nm, bases := bs, mro := .ref C :: bm, ns := N, qualname := q, hasDict := true, slotNames := sn, subclasses := sub, abstract := ab, collection := col, hasDel := false } := by unfold PySem.W.clsIn; rw [hC] <;> rfl
  obtain ⟨t1, ho⟩ := exo_at I.hok e
  obtain ⟨mA, hns, rel⟩ := exd_at I.hok ed
  have hw := within_of rel
  obtain ⟨hp, g, d, t, os⟩ := s
  obtain ⟨oD, _, _, hoD, _, _⟩ := hns.count hw
  refine PySem.W.set_plain I.kIn (ox := { cls := .ref C, dict := some dx, data := .fields #[.ref t1, .none, .none, .none, .bool false, .none] }) (od := some oD) ⟨ho, rfl, rfl, hoD⟩ T.sa ?_
  refine PySem.PvX.osa_oldG I.kIn ho hns hw (by rw [List.length_map]; omega) hcl hM rfl hno (fun h' tk' k hn => ?_)
  have hd : ∃ o, h'.get? dx = some o := by
    obtain ⟨o, _, _, e', _⟩ := hn
    exact ⟨o, e'⟩
  exact h _ (I.write (t' := tk') (x := dx) (e := dx) (o := exd dx ((f, y) :: fs)) (by rw [ed]; exact True.intro) (.inl rfl) k hd (exd_ok hn (relO_put ry rel)))

end
def tOstG (K : PySem.W.Frag) (f : Str) (to te : TE) : TS := fun D σ H => te σ H fun y H1 => to σ H1 fun x H2 => ∃ a C : Addr, x = .ref a ∧ OexG K C ∧ PySem.W.findIn K (.ref C) f = some none ∧
  ((H2 a = some (exo a C none) ∧ ∀ dx, H2 dx = none → dx ≠ a → D.nx σ (upd (upd H2 dx (exd dx [(f, y)])) a (exo a C (some dx)))) ∨
    ∃ (dx : Addr) (fs : List (Str × V)), H2 a = some (exo a C (some dx)) ∧ H2 dx = some (exd dx fs) ∧ fs.length ≤ 900 ∧ D.nx σ (upd H2 dx (exd dx ((f, y) :: fs))))

section
variable {X : Cx} {o e : Expr} {es : List Expr} {to te : TE} {ta : TA} {f : Str} {p p' p1 p2 pos : Pos}
theorem ps_ostG (ho : PE X o to) (he : PE X e te) (hs : swapsWith e (some (.Attribute o f p')) pos.line X.env = pure false := by rfl) : PS X (.Assign [.Attribute o f p'] e pos) (tOstG X.K f to te) := by
  refine ⟨fun pins s σ H D I h => ?_⟩
  refine plainObj_wpAny_Assign_Attribute (thn (he.run pins s σ H _ I h) fun v s1 ⟨y, H1, I1, r1, q1⟩ => thn (ho.run pins s1 σ H1 _ I1 q1) fun u s2 ⟨x, H2, I2, r2, a, C, ex, T, hno, q⟩ => ?_) hs
  subst ex
  obtain rfl : u = Value.ref a := r2
  rcases q with ⟨ea, q⟩ | ⟨dx, fs, ea, ed, hl, q⟩
  · exact ost_newG T I2 ea hno r1 fun dx s' n ne J => ⟨σ, _, J, q dx n ne⟩
  · exact ost_oldG T I2 ea ed hl hno r1 fun s' J => ⟨σ, _, J, q⟩

end
end Pv
end
/-! PvRaise -/
section
set_option Elab.async false
set_option linter.all false
set_option maxRecDepth 100000
set_option autoImplicit false
/-! Pv: raise. -/
namespace Pv
open PySem PySem.Spec PyProof.Rows L2
/-! ### an own __init__ that stores its parameters -/
/-- the last heap of a making -/
def iniH (H : Hp) (a C d : Addr) (fs : List (Str × V)) : Hp := upd (upd H d (exd d fs)) a (exo a C (some d))
theorem iniH_put {H : Hp} {a C d : Addr} {fs gs : List (Str × V)} (ne : d ≠ a) : upd (iniH H a C d fs) d (exd d gs) = iniH H a C d gs := by
  funext b
  unfold iniH
  by_cases hd : b = d
  · subst hd
    rw [upd_same, upd_ne ne, upd_same]
  · rw [upd_ne hd]
    by_cases ha : b = a
    · subst ha; rw [upd_same, upd_same]
    · rw [upd_ne ha, upd_ne ha, upd_ne hd, upd_ne hd]
def spI (K : PySem.W.Frag) (C : Addr) (fl : List Str) : Sp := fun vs H Q _ => ∃ a ys, vs = .ref a :: ys ∧ ys.length = fl.length ∧ H a = some (exo a C none) ∧ OexG K C ∧ (∀ f ∈ fl, PySem.W.findIn K (.ref C) f = some none) ∧ ∀ d, H d = none → d ≠ a → Q .non (iniH H a C d (fl.zip ys).reverse)
section
variable {P : Program} {w : World} {K : PySem.W.Frag} {mg : Str → Option Value} {base : Heap} {C fI : Addr} {fd : FuncData} {name qual : Str} {params : Arguments} {scope : Scope} {dvs : List V} {kws : List (Str × V)} {k : Nat}
theorem ini1 {f s0 y : Str} {p1 p2 p3 p4 : Pos} (F : FunD K name qual params [.Assign [.Attribute (.Name s0 p1) f p2] (.Name y p3) p4] scope dvs kws fI fd) (S : FnScope [s0, y] [s0, y] scope)
    (h0 : visB ⟨[s0, y], scope, scope⟩ s0 = true) (h1 : visB ⟨[s0, y], scope, scope⟩ y = true) : FnOk P w K mg base (L2N.CX P w) (k + 1) fI fd [s0, y] (spI K C [f]) := by
  refine F.ok S (fun vs H Q E h => ?_) fun cdv A outer s H vs Q E hr h => ⟨tOstG K f (tVar 0) (tVar 1), PSs.nox (pss_one (ps_ostG (pe_var (i := 0) rfl (visB_ok h0).1 (visB_ok h0).2.1 (visB_ok h0).2.2) (pe_var (i := 1) rfl (visB_ok h1).1 (visB_ok h1).2.1 (visB_ok h1).2.2))), ?_⟩
  · obtain ⟨a, ys, rfl, hl, _⟩ := h
    simp [hl]
  · obtain ⟨a, ys, rfl, hl, he, T, hf, hq⟩ := h
    match ys, hl with
    | [y1], _ =>
      exact ⟨y1, rfl, .ref a, rfl, a, C, rfl, T, hf f (List.mem_singleton.mpr rfl), .inl ⟨he, fun dx n ne => hq dx n ne⟩⟩
theorem ini2 {f g s0 y z : Str} {p1 p2 p3 p4 p5 p6 p7 p8 : Pos} (F : FunD K name qual params [.Assign [.Attribute (.Name s0 p1) f p2] (.Name y p3) p4, .Assign [.Attribute (.Name s0 p5) g p6] (.Name z p7) p8] scope dvs kws fI fd) (S : FnScope [s0, y, z] [s0, y, z] scope)
    (h0 : visB ⟨[s0, y, z], scope, scope⟩ s0 = true) (h1 : visB ⟨[s0, y, z], scope, scope⟩ y = true) (h2 : visB ⟨[s0, y, z], scope, scope⟩ z = true) : FnOk P w K mg base (L2N.CX P w) (k + 1) fI fd [s0, y, z] (spI K C [f, g]) := by
  refine F.ok S (fun vs H Q E h => ?_) fun cdv A outer s H vs Q E hr h => ⟨tSeq (tOstG K f (tVar 0) (tVar 1)) (tOstG K g (tVar 0) (tVar 2)), PSs.nox (pss_cons (ps_ostG (pe_var (i := 0) rfl (visB_ok h0).1 (visB_ok h0).2.1 (visB_ok h0).2.2) (pe_var (i := 1) rfl (visB_ok h1).1 (visB_ok h1).2.1 (visB_ok h1).2.2))
    (pss_one (ps_ostG (pe_var (i := 0) rfl (visB_ok h0).1 (visB_ok h0).2.1 (visB_ok h0).2.2) (pe_var (i := 2) rfl (visB_ok h2).1 (visB_ok h2).2.1 (visB_ok h2).2.2)))), ?_⟩
  · obtain ⟨a, ys, rfl, hl, _⟩ := h
    simp [hl]
  · obtain ⟨a, ys, rfl, hl, he, T, hf, hq⟩ := h
    match ys, hl with
    | [y1, y2], _ =>
      refine ⟨y1, rfl, .ref a, rfl, a, C, rfl, T, hf f (by simp), .inl ⟨he, fun dx n ne => ?_⟩⟩
      refine ⟨y2, rfl, .ref a, rfl, a, C, rfl, T, hf g (by simp), .inr ⟨dx, [(f, y1)], upd_same, ?_, by show (1 : Nat) ≤ 900; omega, ?_⟩⟩
      · rw [upd_ne ne, upd_same]
      · have := hq dx n ne
        rw [← iniH_put ne (fs := [(f, y1)])] at this
        exact this
end
end Pv
end
/-! PvRaise2 -/
section
set_option Elab.async false
set_option linter.all false
set_option maxRecDepth 100000
set_option autoImplicit false
/-! Pv: raise, as a statement. -/
namespace Pv
open PySem PySem.Spec PyProof.Rows L2
/-- how an exception class binds: its parameters (self first), the fields, the defaults -/
structure XDef where
  nm : List Str
  fl : List Str
  dfl : List Val
def unO : List (Option Val) → Option (List Val)
  | [] => some []
  | some v :: r => (unO r).map (v :: ·)
  | none :: _ => none
def excBind (x : XDef) (vs : List Val) (ws : List (Str × Val)) : Option (List Val) := match bindL x.nm [] (x.dfl.map some) (fun _ => none) (none :: vs.map some) (ws.map fun p => (p.1, some p.2)) with
  | some (none :: zs) => unO zs
  | _ => none
def sRaise0 (c : Str) : Ts := fun cfg rho h => if cfg.hot.isSome then .bad else .er c [] rho h
def sRaise (c : Str) (x : XDef) (t : Ta) (ks : List Str) (u : Ta) : Ts := fun cfg rho h => if cfg.hot.isSome then .bad else (t cfg rho h).to rho fun vs h => (u cfg rho h).to rho fun ws h => match excBind x vs (ks.zip ws) with
  | some zs => if zs.length = x.fl.length ∧ vs.length ≤ 1000 then .er c (x.fl.zip zs).reverse rho h else .bad
  | none => .bad
/-- a class of exceptions without own __init__ -/
structure ExcF (Y : Sys) (c : Str) : Prop where
  glo : Y.mg c = some (.ref (He.ga Y.K c))
  kp : PySem.W.keepIn Y.K (.ref (He.ga Y.K c)) = true
  base : ∃ B newId initId bmB, ExcBaseFacts B newId initId bmB ∧ PySem.W.excIn Y.K (He.ga Y.K c) bmB newId = true
  exC : PySem.W.subIn Y.K (.ref (He.ga Y.K c)) (.type "BaseException") = some true
  tyC : PySem.W.typeIn Y.K (.ref (He.ga Y.K c)) = some (.type "type")
/-- a class of exceptions over ValueError whose __init__ stores its parameters -/
structure ExcI (Y : Sys) (c : Str) (x : XDef) : Prop where
  glo : Y.mg c = some (.ref (He.ga Y.K c))
  T : OexG Y.K (He.ga Y.K c)
  hf : ∀ f ∈ x.fl, PySem.W.findIn Y.K (.ref (He.ga Y.K c)) f = some none
  ini : ∃ fI fd dvs name qual params body scope, PySem.W.findIn Y.K (.ref (He.ga Y.K c)) "__init__" = some (some (.ref fI)) ∧ PySem.W.typeIn Y.K (.ref fI) = some (.type "function") ∧ FunD Y.K name qual params body scope dvs [] fI fd ∧
    params.posonlyargs = [] ∧ params.vararg = none ∧ params.kwarg = none ∧ params.args.map (·.arg) = x.nm ∧ params.kwonlyargs = [] ∧ RVs Y.K [] (fun _ => none) x.dfl dvs ∧
    ∀ k, FnOk Y.P Y.w Y.K Y.mg Y.base (L2N.CX Y.P Y.w) (k + 1) fI fd x.nm (spI Y.K (He.ga Y.K c) x.fl)
section
variable {Y : Sys} {c : Sc} {es : List Expr} {mt mk : Ta} {kws : List Keyword} {pos p rp : Pos} {x : Str}
theorem simS_raise0 (F : ExcF Y x) (hg : gloB c x = true) : SimS Y.G c (.Raise (some (.Call (.Name x p) [] [] pos)) none rp) (sRaise0 x) := .mk <| by
  intro cfg X g xi xs pins rho mu vh sg H s Z S W q
  unfold sRaise0 at q
  split at q
  · exact q.elim
  rename_i hh
  have hc := g.calm (hot_none hh)
  obtain ⟨h1, h2⟩ := gloB_ok hg
  have K1 := g.K
  have pm : L2N.PMk X (.Call (.Name x p) [] [] pos) fun _ H Q => Q (.ref (He.ga X.K x)) none H := by
    intro pins s σ H Q I h
    refine wpAny_Call_Name_kw (ld_glob I (by show X.env.scope.names.lookup x = _; rw [xi.sc]; exact h1) (by rw [g.mg]; exact F.glo) ?_ h2)
    refine PySem.W.callWith_K0 I.kIn (by rw [K1]; exact F.kp) ?_
    obtain ⟨B, newId, initId, bmB, BF, q⟩ := F.base
    obtain ⟨bm, N, nm, qn, bs, hdct, sn, sub, ab, col, dd, k0, k1, k2, k3, k5, mN, hC, hN, hni, T⟩ := exc_obj (K := Y.K) (by rw [← K1]; exact I.kIn) q
    refine wpAny_call_exc_subT BF T hC hN hni (fun h' e hm => ?_) (by show 0 ≤ sizeLine; exact Nat.zero_le _)
    have := L2N.mk_of (X := X) I hm (by rw [← K1]; exact raises_own (by rw [K1]; exact F.exC) (by rw [K1]; exact F.tyC)) (by rw [← K1]; exact h) (I.hok.gone hm.new)
    exact this
  have P := L2N.ps_raise (X := X) (W := fun cls d sg H' => ∃ c fs rho mu' vh', Rel X.prog X.w X.K mu' vh' H' ∧ Ex mu vh H mu' vh' H' ∧ REnv X.K mu' H' rho sg ∧ RX X.K mu' H' c fs cls d ∧ Z (.er c fs rho vh')) (pos := rp) hc W pm
  refine thn (P.run pins s sg H { nx := fun _ _ => False, rt := fun _ _ => False } S.inv ⟨x, [], rho, mu, vh, S.rel, .refl _ _ _, S.env, ⟨rfl, .inl ⟨rfl, rfl⟩⟩, q⟩) fun f s1 hf => ?_
  cases f with
  | next => obtain ⟨_, _, _, z⟩ := hf; exact z.elim
  | brk => obtain ⟨_, _, _, z⟩ := hf; exact z.elim
  | cont => obtain ⟨_, _, _, z⟩ := hf; exact z.elim
  | ret u => obtain ⟨_, _, _, _, _, z⟩ := hf; exact z.elim
theorem iniH_end {H : Hp} {a C d : Addr} {fs : List (Str × V)} (ha : H a = none) (ne : d ≠ a) : upd (del (iniH (upd H a (exo a C none)) a C d fs) a) d (.xd fs) = upd H d (.xd fs) := by
  funext b
  unfold iniH
  by_cases hd : b = d
  · subst hd; rw [upd_same, upd_same]
  · rw [upd_ne hd, upd_ne hd]
    by_cases hb : b = a
    · subst hb; rw [del_same, ha]
    · rw [del_ne hb, upd_ne hb, upd_ne hd, upd_ne hb]
theorem unO_some : ∀ {zs : List (Option Val)} {vs : List Val}, unO zs = some vs → zs = vs.map some
  | [], vs, h => by cases h; rfl
  | some v :: r, vs, h => by
    unfold unO at h
    cases e : unO r with
    | none => rw [e] at h; cases h
    | some t =>
      rw [e] at h
      cases h
      rw [unO_some e]; rfl
  | none :: r, vs, h => by cases h
/-- values, or the new exception itself -/
def RO' (K : PySem.W.Frag) (mu : List Addr) (H : Hp) (a : Addr) (o : Option Val) (u : Value) : Prop := match o with
  | none => u = .ref a
  | some v => RU K mu H v u
theorem RO'.of {K : PySem.W.Frag} {mu : List Addr} {H : Hp} {a : Addr} : ∀ {vs : List Val} {us : List Value}, Paired (RU K mu H) vs us → Paired (RO' K mu H a) (vs.map some) us
  | _, _, .nil => .nil
  | _, _, .cons r t => .cons r (RO'.of t)
theorem RO'.to {K : PySem.W.Frag} {mu : List Addr} {H : Hp} {a : Addr} : ∀ {vs : List Val} {us : List Value}, Paired (RO' K mu H a) (vs.map some) us → Paired (RU K mu H) vs us
  | [], _, h => by cases h; exact .nil
  | v :: vs, _, h => by
    cases h with
    | cons r t => exact .cons r (RO'.to t)
theorem RPO.of {K : PySem.W.Frag} {mu : List Addr} {H : Hp} {a : Addr} : ∀ {vs : List (Str × Val)} {us : List (Str × Value)}, RP (RU K mu H) vs us → RP (RO' K mu H a) (vs.map fun p => (p.1, some p.2)) us
  | _, _, .nil => .nil
  | _, _, .cons (a := p) (b := q) r t => .cons ⟨r.1, r.2⟩ (RPO.of t)
theorem FV.of {K : PySem.W.Frag} {mu : List Addr} {H : Hp} : ∀ {fl : List Str} {vs : List Val} {xs : List V}, RVs K mu H vs xs → FV K mu H (fl.zip vs) (fl.zip xs)
  | [], _, _, _ => by rw [List.zip_nil_left, List.zip_nil_left]; exact .nil
  | _ :: _, _, _, .nil => by rw [List.zip_nil_right, List.zip_nil_right]; exact .nil
  | f :: fl, _, _, .cons r t => .cons ⟨rfl, r⟩ (FV.of t)
theorem FV.rev {K : PySem.W.Frag} {mu : List Addr} {H : Hp} : ∀ {fs : Flds} {xs : List (Str × V)}, FV K mu H fs xs → FV K mu H fs.reverse xs.reverse
  | _, _, .nil => .nil
  | _, _, .cons r t => by
    rw [List.reverse_cons, List.reverse_cons]
    exact Paired.app (FV.rev t) (.cons r .nil)
end
end Pv
end
/-! PvRaise3 -/
section
set_option Elab.async false
set_option linter.all false
set_option maxRecDepth 100000
set_option autoImplicit false
/-! Pv: raise of a class with fields. -/
namespace Pv
open PySem PySem.Spec PyProof.Rows L2
def excK (x : XDef) (ks : List Str) (vs ws : List Val) (h : VH) : Out Flds := match excBind x vs (ks.zip ws) with
  | some zs => if zs.length = x.fl.length ∧ vs.length ≤ 1000 then .ok (x.fl.zip zs).reverse h else .bad
  | none => .bad
theorem sRaise_W {c : Str} {x : XDef} {t : Ta} {ks : List Str} {u : Ta} {cfg : Cfg} {rho : Env} {h : VH} {Z : SO → Prop} (hot : cfg.hot = none) (q : (sRaise c x t ks u cfg rho h).W Z) :
    ((t cfg rho h).bind fun vs h => (u cfg rho h).bind fun ws h => excK x ks vs ws h).W (fun fs h => Z (.er c fs rho h)) (fun c fs h => Z (.er c fs rho h)) := by
  unfold sRaise at q
  rw [if_neg (by rw [hot]; exact Bool.false_ne_true)] at q
  rw [Out.to_W] at q
  rw [Out.W_bind]
  refine q.mono (fun vs h1 q1 => ?_) fun _ _ _ z => z
  rw [Out.to_W] at q1
  rw [Out.W_bind]
  refine q1.mono (fun ws h2 q2 => ?_) fun _ _ _ z => z
  unfold excK
  split
  · rename_i zs e
    rw [e] at q2
    dsimp only at q2
    split
    · rename_i hz
      rw [if_pos hz] at q2
      exact q2
    · rename_i hz
      rw [if_neg hz] at q2
      exact q2
  · rename_i e
    rw [e] at q2
    exact q2
section
variable {Y : Sys} {c : Sc} {es : List Expr} {mt mk : Ta} {kws : List Keyword} {pos p rp : Pos} {x : Str} {xd : XDef}
theorem make_exc (F : ExcI Y x xd) {cfg : Cfg} {X : Cx} (g : Y.G cfg X) (hot : cfg.hot = none) {pins : List (Addr × Obj)} {rho : Env} {mu1 : List Addr} {vh1 : VH} {sg : Sl} {H1 : Hp} {s1 : Shared} {Q : XK} {E : Str → Flds → VH → Prop} {ks : List Str} {vs ws : List Val} {xs zs : List V} {us ts : List Value}
    (S1 : Sm X cfg.hot pins rho mu1 vh1 sg H1 s1) (rv : RVs X.K mu1 H1 vs xs) (ru : Vals xs us) (rk : RVs X.K mu1 H1 ws zs) (rt : Vals zs ts)
    (q : (excK xd ks vs ws vh1).W (fun fs vh' => ∀ d mu' H', Rel X.prog X.w X.K mu' vh' H' → Ex mu1 vh1 H1 mu' vh' H' → RX X.K mu' H' x fs (.ref (He.ga X.K x)) d → Q (.ref (He.ga X.K x)) d H') E) :
    wpAny (model X.prog X.w) X.A (call (.ref (He.ga X.K x)) us (ks.zip ts)) (L2N.MkP X pins sg Q) X.xe s1 := by
  obtain ⟨k, ec, rm, C⟩ := g.lv
  have K1 := g.K
  unfold excK at q
  split at q
  · rename_i fz eB
    split at q
    · rename_i hlen
      obtain ⟨hfl, hvs⟩ := hlen
      have I1 := S1.inv
      have hc : X.calm = true := g.calm hot
      obtain ⟨fI, fd, dvs, name, qual, params, body, scope, iC, tI, FD, e1, e2, e3, e4, e5, rdf, F1⟩ := F.ini
      have T := F.T
      obtain ⟨nm, qn, N, bs, bm, sn, sub, ab, col, dd, k0, k1, k2, k3, k5, B, newId, initId, bmB, BF, hT, hM, hC⟩ := T.cls
      obtain ⟨oc, od, dV, kV, doc, pm, an, cdv, ct, osl, rfl, lk, hcd, hD, hK⟩ := FD.ex
      -- the level is not nought: else nothing is told of room
      have hroom : Room 1 (X.A.under (.builtin "type.__call__" ⟨.ref (He.ga X.K x) :: us, ks.zip ts⟩)) := by
        have h1 := rm.dp
        have h2 := rm.un
        exact ⟨I1.ok.hd hc, by rw [make_depth]; omega, by rw [make_units]; omega⟩
      obtain ⟨hp, gn, dr, tk, os⟩ := s1
      have hsz : hp.objs.size ≤ hp.objs.size + 1 := Nat.le_succ _
      have hn : H1 (hp.objs.size + 1) = none := I1.hok.fresh hsz
      rw [← K1] at hC
      have hCh := I1.kIn _ _ hC
      have kk : ∀ b o, hp.get? b = some o → ((hp.push (PySem.W.kdv_tup us)).push (PySem.HandSPX.excO (He.ga X.K x) hp.objs.size)).get? b = some o := fun b o e => Heap.get?_push_of_some _ (Heap.get?_push_of_some _ e)
      have hget : ((hp.push (PySem.W.kdv_tup us)).push (PySem.HandSPX.excO (He.ga X.K x) hp.objs.size)).get? (hp.objs.size + 1) = some (PySem.HandSPX.excO (He.ga X.K x) hp.objs.size) := by heap_get
      have I2 : Inv X pins sg (upd H1 (hp.objs.size + 1) (exo (hp.objs.size + 1) (He.ga X.K x) none)) ⟨(hp.push (PySem.W.kdv_tup us)).push (PySem.HandSPX.excO (He.ga X.K x) hp.objs.size), gn, dr, tk, os⟩ :=
        I1.laid (t' := tk) (a := hp.objs.size + 1) (o := exo (hp.objs.size + 1) (He.ga X.K x) none) (h' := (hp.push (PySem.W.kdv_tup us)).push (PySem.HandSPX.excO (He.ga X.K x) hp.objs.size)) kk hsz (exo_ok hget)
      have KX2 : Y.K.In ((hp.push (PySem.W.kdv_tup us)).push (PySem.HandSPX.excO (He.ga X.K x) hp.objs.size)) := by rw [← K1]; exact I2.kIn
      obtain ⟨its, rI, hL⟩ := dfl_looks KX2 hD
      have rd : Paired (RO' X.K mu1 H1 (hp.objs.size + 1)) (xd.dfl.map some) its := by
        rw [K1]
        exact RO'.of (RU.of (rdf.gro (Gro.zero mu1 H1)) rI)
      -- how it binds
      have eB' : bindL xd.nm [] (xd.dfl.map some) (fun _ => none) (none :: vs.map some) ((ks.zip ws).map fun p => (p.1, some p.2)) = some (none :: fz.map some) := by
        unfold excBind at eB
        split at eB
        · rename_i zs0 e0
          rw [e0, unO_some eB]
        · cases eB
      obtain ⟨zu, eBu, pz⟩ := bindL_rel (R := RO' X.K mu1 H1 (hp.objs.size + 1)) (dfl' := its) (kwd' := fun _ => none) (pos := none :: vs.map some) (pos' := .ref (hp.objs.size + 1) :: us) (kw' := ks.zip ts) rd (fun n hn => by cases hn) (.cons (show RO' X.K mu1 H1 (hp.objs.size + 1) none (.ref (hp.objs.size + 1)) from rfl) (RO'.of (RU.of rv ru))) (RPO.of (RP.zip (RU.of rk rt))) eB'
      cases pz with
      | @cons _ u0 _ zr r0 pz =>
        obtain rfl : u0 = Value.ref (hp.objs.size + 1) := r0
        obtain ⟨zx, rz, rzu⟩ := RU.to (RO'.to pz)
        have hb : BindsTo ⟨(hp.push (PySem.W.kdv_tup us)).push (PySem.HandSPX.excO (He.ga X.K x) hp.objs.size), gn, dr, tk, os⟩ (PySem.W.fnOf name qual params body scope dV kV doc pm an cdv ct) ⟨.ref (hp.objs.size + 1) :: us, ks.zip ts⟩ (xd.nm.zip (.ref (hp.objs.size + 1) :: zr)) := by
          have := binds_of (fd := PySem.W.fnOf name qual params body scope dV kV doc pm an cdv ct) (s := ⟨(hp.push (PySem.W.kdv_tup us)).push (PySem.HandSPX.excO (He.ga X.K x) hp.objs.size), gn, dr, tk, os⟩) (us := .ref (hp.objs.size + 1) :: us) (zs := .ref (hp.objs.size + 1) :: zr) (kw := ks.zip ts) (its := its) (kwd := fun _ => none) KX2 e1 e2 e3 hL (fun n v e => by cases e)
            (by show bindL (params.args.map (·.arg)) (params.kwonlyargs.map (·.arg)) its (fun _ => none) _ (ks.zip ts) = _; rw [e4, e5]; exact eBu)
          have h2 : (PySem.W.fnOf name qual params body scope dV kV doc pm an cdv ct).params = params := rfl
          rw [h2, e4, e5] at this
          rw [List.map_nil, List.append_nil] at this
          exact this
        have hq : spI Y.K (He.ga Y.K x) xd.fl (V.ref (hp.objs.size + 1) :: zx) (upd H1 (hp.objs.size + 1) (exo (hp.objs.size + 1) (He.ga X.K x) none))
            (fun v H2 => v = .non ∧ ∃ d, d ≠ hp.objs.size + 1 ∧ H1 d = none ∧ H2 = iniH (upd H1 (hp.objs.size + 1) (exo (hp.objs.size + 1) (He.ga X.K x) none)) (hp.objs.size + 1) (He.ga X.K x) d (xd.fl.zip zx).reverse) (fun _ _ _ => False) := by
          refine ⟨_, zx, rfl, by rw [← rz.length, hfl], by rw [K1]; exact upd_same, T, F.hf, fun d hd ne => ⟨rfl, d, ne, ?_, by rw [K1]⟩⟩
          rw [upd_ne ne] at hd
          exact hd
        have hus : us.length ≤ sizeLine := by
          rw [← Paired.length ru, ← rv.length, sizeLine_eq]
          omega
        have eC := g.P
        have run := (F1 0).run (X.A.under (.builtin "type.__call__" ⟨.ref (He.ga X.K x) :: us, ks.zip ts⟩)) X.stack ⟨(hp.push (PySem.W.kdv_tup us)).push (PySem.HandSPX.excO (He.ga X.K x) hp.objs.size), gn, dr, tk, os⟩ (upd H1 (hp.objs.size + 1) (exo (hp.objs.size + 1) (He.ga X.K x) none)) ⟨Value.ref (hp.objs.size + 1) :: us, ks.zip ts⟩ (Value.ref (hp.objs.size + 1) :: zr) (V.ref (hp.objs.size + 1) :: zx) _ _ hroom
          (by have := I2.env0.make (He.ga X.K x) us (ks.zip ts); rw [g.P, g.w, g.mg, g.base] at this; rw [← K1]; exact this) hb (.cons rfl rzu) hq
        rw [← g.P, ← g.w] at run
        refine wpAny_call (PySem.PvX.callK BF hT hCh (PySem.W.looks_findIn I1.kIn (by rw [K1]; exact iC)) (fun self => PySem.W.bind_fn I1.kIn self (by rw [K1]; exact tI)) hus (codeAny_mono run fun r s' hq' => ?_))
        cases r with
        | error er =>
          obtain ⟨_, _, _, _, _, _, _, _, _, _, _, _, z⟩ := hq'
          exact z.elim
        | ok fl =>
          cases fl with
          | ret u =>
            obtain ⟨v, H2, os2, bare2, un2, hok2, rv2, ev, d, ne, hd1, eH⟩ := hq'
            subst ev eH
            obtain ⟨h2, g2, d2, t2, os'⟩ := s'
            have ea : iniH (upd H1 (hp.objs.size + 1) (exo (hp.objs.size + 1) (He.ga X.K x) none)) (hp.objs.size + 1) (He.ga X.K x) d (xd.fl.zip zx).reverse (hp.objs.size + 1) = some (exo (hp.objs.size + 1) (He.ga X.K x) (some d)) := upd_same
            have ed : iniH (upd H1 (hp.objs.size + 1) (exo (hp.objs.size + 1) (He.ga X.K x) none)) (hp.objs.size + 1) (He.ga X.K x) d (xd.fl.zip zx).reverse d = some (exd d (xd.fl.zip zx).reverse) := by
              unfold iniH
              rw [upd_ne ne, upd_same]
            obtain ⟨t0, G, J, kG, ge, hoe, na⟩ := mk_end0 (d2 := d2) (t2 := t2) I1 hsz kk un2 hok2 os2 bare2 ea ed hd1
            rw [iniH_end hn ne] at J na
            refine ⟨rv2, hp.objs.size + 1, _, _, ⟨G, g2, d2, t2, os'⟩, _, .ref (He.ga X.K x), some d, rfl, J, kG, ge, hoe, ⟨rfl, rfl, fun vs hv => ?_⟩, rfl, rfl, na, rfl, bare2, raises_own (by rw [K1]; exact T.exC) (by rw [K1]; exact T.tyC), ?_⟩
            · cases hv
              rfl
            · refine q (some d) mu1 _ (S1.rel.laid hd1) (Ex.laid hd1) ⟨rfl, .inr ⟨d, (xd.fl.zip zx).reverse, rfl, upd_same, FV.rev (FV.of (rz.gro (Gro.new0 hd1)))⟩⟩
          | next => exact False.elim hq'
          | brk => exact False.elim hq'
          | cont => exact False.elim hq'
    · exact q.elim
  · exact q.elim
end
end Pv
end
/-! PvTry -/
section
set_option Elab.async false
set_option linter.all false
set_option maxRecDepth 100000
set_option autoImplicit false
/-! Pv: raise with fields as a statement; try. -/
namespace Pv
open PySem PySem.Spec PyProof.Rows L2
section
variable {Y : Sys} {c : Sc} {es : List Expr} {mt mk : Ta} {kws : List Keyword} {pos p rp : Pos} {x : Str} {xd : XDef} {fs : List (Str × Nat)} {cs : List (Str × Val)} {gs : List Str}
theorem simS_raise (F : ExcI Y x xd) (hg : gloB c x = true) (ht : SimA Y.G c es mt) (hk : SimK Y.G c kws mk) (hs : es.all noStar = true) (hkw : kwAll kws = true) : SimS Y.G c (.Raise (some (.Call (.Name x p) es kws pos)) none rp) (sRaise x xd mt (kwsOf kws) mk) := .mk <| by
  intro cfg X g xi xs pins rho mu vh sg H s Z S W q
  have hot : cfg.hot = none := by
    unfold sRaise at q
    split at q
    · exact q.elim
    · rename_i hh; exact hot_none hh
  have hc := g.calm hot
  have q' := sRaise_W hot q
  obtain ⟨h1, h2⟩ := gloB_ok hg
  have K1 := g.K
  have pm : L2N.PMk X (.Call (.Name x p) es kws pos) fun σ H Q => ∃ rho mu vh E, Rel X.prog X.w X.K mu vh H ∧ REnv X.K mu H rho σ ∧ Wish X rho mu vh H E ∧
      ((mt cfg rho vh).bind fun vs h => (mk cfg rho h).bind fun ws h => excK xd (kwsOf kws) vs ws h).W (fun fs vh' => ∀ d mu' H', Rel X.prog X.w X.K mu' vh' H' → Ex mu vh H mu' vh' H' → RX X.K mu' H' x fs (.ref (He.ga X.K x)) d → Q (.ref (He.ga X.K x)) d H') E := by
    rintro pins s σ H Q I ⟨rho, mu, vh, E, R, N, W, q⟩
    have S : Sm X cfg.hot pins rho mu vh σ H s := ⟨I, R, N, by rw [hot]; trivial⟩
    refine wpAny_Call_Name_kw (ld_glob I (by show X.env.scope.names.lookup x = _; rw [xi.sc]; exact h1) (by rw [g.mg]; exact F.glo) ?_ h2)
    refine call_args (first := []) g xi (by rw [K1]; exact F.T.kC) ht hk hs hkw S W q fun vs ws vh1 xs' zs mu1 H1 us ts s1 S1 g1 rv r rk rt hl q1 => ?_
    rw [← K1]
    exact make_exc F g hot S1 rv r rk rt (q1.mono (fun fs vh' q2 d mu' H' a b => q2 d mu' H' a (g1.trans b)) fun _ _ _ z => z)
  have P := L2N.ps_raise (X := X) (W := fun cls d sg H' => ∃ c fs rho mu' vh', Rel X.prog X.w X.K mu' vh' H' ∧ Ex mu vh H mu' vh' H' ∧ REnv X.K mu' H' rho sg ∧ RX X.K mu' H' c fs cls d ∧ Z (.er c fs rho vh')) (pos := rp) hc W pm
  refine thn (P.run pins s sg H { nx := fun _ _ => False, rt := fun _ _ => False } S.inv ⟨rho, mu, vh, _, S.rel, S.env, W.ex rho, q'.mono (fun fs vh' z d mu' H' R' ex rx => ⟨x, fs, rho, mu', vh', R', ex, S.env.gro ex.gro, rx, z⟩) fun _ _ _ z => z⟩) fun f s1 hf => ?_
  cases f with
  | next => obtain ⟨_, _, _, z⟩ := hf; exact z.elim
  | brk => obtain ⟨_, _, _, z⟩ := hf; exact z.elim
  | cont => obtain ⟨_, _, _, z⟩ := hf; exact z.elim
  | ret u => obtain ⟨_, _, _, _, _, z⟩ := hf; exact z.elim
end

/-! ### try: body, except (A, B) as e: suite -/
def nestNames : List Str := ["NestError", "NoSigns", "NoPlace", "NoGivens", "NoUnlikes", "NoLines", "NoModel", "NoPattern", "NoRules", "NoRounds", "NoCosts", "NoLine", "NoTerm", "TooMany", "NoText"]
def absentNames : List Str := ["AbsentError", "NoLevel", "NotKnown", "NotAlike"]
def excNames : List Str := nestNames ++ absentNames
/-- is the class c under the class x -/
def subOf (xs : List Str) (c x : Str) : Option Bool := if xs.contains c && xs.contains x then some (c == x || (x == ("NestError" : Str) && nestNames.contains c) || (x == ("AbsentError" : Str) && absentNames.contains c)) else none
structure ExMat (Y : Sys) (xs : List Str) : Prop where
  exm : ∀ c x b, subOf xs c x = some b → PySem.W.exmOne Y.K (.ref (He.ga Y.K c)) (.ref (He.ga Y.K x)) = some b
/-- what a clause names -/
def clB (xs : List Str) (c : Str) : List Str → Option Bool
  | [] => some false
  | x :: r => match subOf xs c x, clB xs c r with
    | some a, some b => some (a || b)
    | _, _ => none
/-- the handled exception gets slot i while the suite runs; behind it the slot is empty -/
def unhot (i : Option Nat) (o : SO) : SO := match i with
  | none => o
  | some i => match o with
    | .nx rho h => .nx (rho.set i none) h
    | .bk rho h => .bk (rho.set i none) h
    | .ct rho h => .ct (rho.set i none) h
    | o => o
/-- one clause: which classes, the slot, the suite -/
structure Hd where
  cl : List Str
  slot : Option Nat
  suite : Ts
def findH (xs : List Str) (c : Str) : List Hd → Option (Option Hd)
  | [] => some none
  | d :: r => match clB xs c d.cl with
    | some true => some (some d)
    | some false => findH xs c r
    | none => none
def putO {α : Type} (i : Option Nat) (x : α) (l : List (Option α)) : List (Option α) := match i with
  | some i => l.set i (some x)
  | none => l
def noEr (o : SO) : SO := match o with
  | .er _ _ _ _ => .bad
  | o => o
def catchH (xs : List Str) (hs : List Hd) (cfg : Cfg) (c : Str) (fs : Flds) (rho : Env) (h : VH) : SO := match findH xs c hs with
  | some (some d) => unhot d.slot (noEr (d.suite { cfg with hot := some h.length } (putO d.slot (.ref h.length) rho) (h ++ [.exo c fs])))
  | some none => .er c fs rho h
  | none => .bad
def sTry (xs : List Str) (b : Ts) (hs : List Hd) : Ts := fun cfg rho h => if cfg.hot.isSome then .bad else match b cfg rho h with
  | .er c fs rho h => catchH xs hs cfg c fs rho h
  | o => o
inductive HdS (Y : Sys) (c : Sc) : ExceptHandler → Hd → Prop
  | as1 {x n : Str} {i : Nat} {b₀ : Stmt} {suite : List Stmt} {m : Ts} {np pos : Pos} (hg : gloB c x = true) (hm : Y.mg x = some (.ref (He.ga Y.K x))) (hN : c.N[i]? = some n) (hl : c.sc.names.lookup n = some .local) (hs : SimB Y.G c (b₀ :: suite) m) :
      HdS Y c (.ExceptHandler (some (.Name x np)) (some n) (b₀ :: suite) pos) ⟨[x], some i, m⟩
  | only1 {x : Str} {b₀ : Stmt} {suite : List Stmt} {m : Ts} {np pos : Pos} (hg : gloB c x = true) (hm : Y.mg x = some (.ref (He.ga Y.K x))) (hs : SimB Y.G c (b₀ :: suite) m) :
      HdS Y c (.ExceptHandler (some (.Name x np)) none (b₀ :: suite) pos) ⟨[x], none, m⟩
  | as2 {x y n : Str} {i : Nat} {b₀ : Stmt} {suite : List Stmt} {m : Ts} {np np2 tp pos : Pos} {kk : Nat} (hg : gloB c x = true) (hm : Y.mg x = some (.ref (He.ga Y.K x))) (hg2 : gloB c y = true) (hm2 : Y.mg y = some (.ref (He.ga Y.K y))) (hN : c.N[i]? = some n) (hl : c.sc.names.lookup n = some .local) (hs : SimB Y.G c (b₀ :: suite) m) :
      HdS Y c (.ExceptHandler (some (.Tuple [.Name x np, .Name y np2] kk tp)) (some n) (b₀ :: suite) pos) ⟨[x, y], some i, m⟩
inductive HdsS (Y : Sys) (c : Sc) : List ExceptHandler → List Hd → Prop
  | nil : HdsS Y c [] []
  | cons {e : ExceptHandler} {d : Hd} {es : List ExceptHandler} {ds : List Hd} (h : HdS Y c e d) (t : HdsS Y c es ds) : HdsS Y c (e :: es) (d :: ds)
/-- an exception's place joins the heap -/
theorem Rel.exo {P : Program} {w : World} {K : PySem.W.Frag} {mu : List Addr} {vh : VH} {H : Hp} (R : Rel P w K mu vh H) (a : Addr) (c : Str) (fs : Flds) (ha : H a = none) :
    Rel P w K (mu ++ [a]) (vh ++ [.exo c fs]) H ∧ Ex mu vh H (mu ++ [a]) (vh ++ [.exo c fs]) H := by
  have g : Gro mu H (mu ++ [a]) H := ⟨fun _ _ h => h, fun _ _ _ h => h, fun _ _ h => h, List.prefix_append _ _⟩
  have hl := R.len
  have cas : ∀ (i : Nat) (b : Addr) (o' : VObj), (mu ++ [a])[i]? = some b → (vh ++ [VObj.exo c fs])[i]? = some o' → (mu[i]? = some b ∧ vh[i]? = some o') ∨ (i = mu.length ∧ b = a ∧ o' = .exo c fs) := by
    intro i b o' h1 h2
    by_cases hi : i < mu.length
    · rw [List.getElem?_append_left hi] at h1
      rw [List.getElem?_append_left (by omega)] at h2
      exact .inl ⟨h1, h2⟩
    · have h3 : i < (mu ++ [a]).length := (List.getElem?_eq_some_iff.mp h1).1
      have h4 : i = mu.length := by simp at h3; omega
      subst h4
      simp at h1
      rw [hl] at h2
      simp at h2
      exact .inr ⟨rfl, h1.symm, h2.symm⟩
  refine ⟨⟨by simp [hl], fun i j b o1 o2 h1 h2 h3 h4 m1 m2 => ?_, fun i b o' h1 h2 => ?_⟩, ⟨g, .app _ _, fun i b h e => ?_, fun _ h => h, fun b u h k => ⟨h, fun i o' h1 h2 => ?_⟩⟩⟩
  · rcases cas i b o1 h1 h3 with ⟨a1, a2⟩ | ⟨a1, a2, a3⟩ <;> rcases cas j b o2 h2 h4 with ⟨b1, b2⟩ | ⟨b1, b2, b3⟩
    · exact R.inj i j b o1 o2 a1 b1 a2 b2 m1 m2
    · subst b3; cases m2
    · subst a3; cases m1
    · rw [a1, b1]
  · rcases cas i b o' h1 h2 with ⟨a1, a2⟩ | ⟨_, rfl, rfl⟩
    · exact RO.gro g (R.obj i b o' a1 a2) fun _ => rfl
    · exact trivial
  · have h3 : i < (mu ++ [a]).length := (List.getElem?_eq_some_iff.mp e).1
    have h4 : i = mu.length := by simp at h3; omega
    subst h4
    simp at e
    rw [← e]; exact ha
  · rcases cas i b o' h1 h2 with ⟨a1, a2⟩ | ⟨_, rfl, rfl⟩
    · exact k i o' a1 a2
    · rfl
theorem flyingZ_push {h B : Heap} {l : List PySem.Env} {a : Addr} {Z : Obj → Prop} {o : Obj} (x : HandSPX.FlyingZ B l a Z h) : HandSPX.FlyingZ B l a Z (h.push o) := by
  obtain ⟨h1, h2, h3, oe, vs, T, oT, ts, e1, e2, e3, e4, e5, e6, e7, e8, e9⟩ := x
  exact ⟨fun b u e => Heap.get?_push_of_some _ (h1 b u e), h2, Heap.FunFrames.of_keeps (fun b u e _ => ⟨u, Heap.get?_push_of_some _ e, rfl⟩) h3, oe, vs, T, oT, ts, Heap.get?_push_of_some _ e1, e2, e3, e4, e5, e6, Heap.get?_push_of_some _ e7, e8, e9⟩
end Pv
end
/-! PvTry2 -/
section
set_option Elab.async false
set_option linter.all false
set_option maxRecDepth 100000
set_option autoImplicit false
/-! Pv: try is sound. -/
namespace Pv
open PySem PySem.Spec PyProof.Rows L2
/-- what a suite is to reach -/
def suZ (i : Option Nat) (Z : SO → Prop) : SO → Prop
  | .er _ _ _ _ => False
  | o => (unhot i o).W Z
theorem suZ_W {o : SO} {i : Option Nat} {Z : SO → Prop} (q : (unhot i (noEr o)).W Z) : o.W (suZ i Z) := by
  cases o <;> cases i <;> exact q
def tryZ (xn : List Str) (ds : List Hd) (cfg : Cfg) (Z : SO → Prop) : SO → Prop
  | .er c fs rho h => (catchH xn ds cfg c fs rho h).W Z
  | o => Z o
section
variable {Y : Sys} {c : Sc}
/-- a suite, its exception pinned: from the state behind the landing -/
theorem suite_run (w : Wd Y.G) {cfg : Cfg} {X : Cx} (g : Y.G cfg X) (hot : cfg.hot = none) (xi : XIn c X) (xs : XS X) {pins : List (Addr × Obj)} {mu mu' : List Addr} {vh vh' : VH} {H H' : Hp} {rho' : Env} {σ' : Sl} {s4 : Shared} {a : Addr} {oe : Obj} {cls : Value} {d : Option Addr} {cn : Str} {fs : Flds} {suite : List Stmt} {m : Ts} {Z : SO → Prop} {slot : Option Nat}
    (sl : ∀ i, slot = some i → ∃ n, c.N[i]? = some n ∧ c.sc.names.lookup n = some .local)
    (I : Inv (X.suite a ((a, oe) :: (X.pn ++ pins))) [] (putO slot (.ref a) σ') H' s4)
    (R : Rel X.prog X.w X.K mu' vh' H') (ex : Ex mu vh H mu' vh' H') (N : REnv X.K mu' H' rho' σ') (rx : RX X.K mu' H' cn fs cls d) (hz : L2N.Zn cls d oe) (hd : ∃ vs, oe.data = .fields vs ∧ vs[2]? = some .none) (na : H' a = none) (hs : SimB Y.G c suite m)
    (q : (m { cfg with hot := some vh'.length } (putO slot (.ref vh'.length) rho') (vh' ++ [.exo cn fs])).W (suZ slot Z)) :
    wpAny (model X.prog X.w) (X.A.mark (some (.ref a))) (execs suite X.env) (fun f s6 => SQ (X.suite a ((a, oe) :: (X.pn ++ pins))) (some vh'.length) [] mu vh H (suZ slot Z) f s6) (fun _ _ => False) s4 := by
  obtain ⟨R2, e2⟩ := R.exo a cn fs na
  have hl := R.len
  have hra : RV X.K (mu' ++ [a]) H' (.ref vh'.length) (.ref a) := .ref (by rw [← hl]; simp)
  have xi2 : XIn c (X.suite a ((a, oe) :: (X.pn ++ pins))) := ⟨xi.N, xi.sc, xi.nd, xi.st⟩
  have xs2 : XS (X.suite a ((a, oe) :: (X.pn ++ pins))) := ⟨xs.hs, xs.hf, PassesOwn.never⟩
  have N2 : REnv X.K (mu' ++ [a]) H' (putO slot (.ref vh'.length) rho') (putO slot (.ref a) σ') := by
    cases slot with
    | none => exact N.gro e2.gro
    | some i => exact (N.gro e2.gro).put hra i
  have hx : HotR (X.suite a ((a, oe) :: (X.pn ++ pins))) (some vh'.length) (mu' ++ [a]) (vh' ++ [.exo cn fs]) H' := by
    obtain ⟨vs, hv, h2⟩ := hd
    refine ⟨(a, oe), cn, fs, List.mem_cons_self, ⟨rfl, vs, hv, h2⟩, by rw [← hl]; simp, by simp, ?_⟩
    obtain ⟨h3, h4⟩ := rx.gro e2.gro
    refine ⟨hz.1.trans h3, ?_⟩
    rw [hz.2.1]
    exact h4
  have W2 : WishS (X.suite a ((a, oe) :: (X.pn ++ pins))) (mu' ++ [a]) (vh' ++ [.exo cn fs]) H' (suZ slot Z) := fun u s' ⟨_, _, _, _, _, _, _, _, _, _, _, _, _, _, _, _, z⟩ => by
    obtain ⟨_, _, _, _, _, _, _, _, _, z⟩ := z
    exact z.elim
  have run := hs { cfg with hot := some vh'.length } _ (w.suite cfg X a ((a, oe) :: (X.pn ++ pins)) vh'.length hot g) xi2 xs2 [] _ (mu' ++ [a]) (vh' ++ [.exo cn fs]) _ H' s4 (suZ slot Z) ⟨I, R2, N2, hx⟩ W2 q
  exact thn run fun f s6 h => h.from (ex.trans e2)
/-- behind the suite -/
theorem suite_end {cfg : Cfg} {X : Cx} (hot : cfg.hot = none) (xi : XIn c X) {pins : List (Addr × Obj)} {mu : List Addr} {vh : VH} {H : Hp} {a : Addr} {oe : Obj} {Z : SO → Prop} {i : Nat} {n : Str} {l : Nat} {f : Flow} {s6 : Shared} {pos' : Pos} (ok : X.Ok)
    (hN : c.N[i]? = some n) (hln : c.sc.names.lookup n = some .local) (h : SQ (X.suite a ((a, oe) :: (X.pn ++ pins))) (some l) [] mu vh H (suZ (some i) Z) f s6) :
    wpAny (model X.prog X.w) X.A (do bindName X.env n .none; unbindBehindTheSuite X.env n pos') (fun _ s7 => SQ X cfg.hot pins mu vh H Z f s7) X.xe s6 := by
  have hi : X.N[i]? = some n := by rw [xi.N]; exact hN
  have hk : X.env.kindOf n = some .local := by show X.env.scope.names.lookup n = _; rw [xi.sc]; exact hln
  have HN : ∀ {mu' : List Addr} {vh' : VH} {H' : Hp}, HotR X cfg.hot mu' vh' H' := fun {_ _ _} => by rw [hot]; trivial
  cases f with
  | next =>
    obtain ⟨rho6, vh6, mu6, sg6, H6, z, S6, g6⟩ := h
    exact gone_ok (S6.inv.unsuite ok) xi.nd hi hk fun s7 J7 => ⟨rho6.set i none, vh6, mu6, _, H6, z, ⟨J7, S6.rel, S6.env.del i, HN⟩, g6⟩
  | brk =>
    obtain ⟨rho6, vh6, mu6, sg6, H6, z, S6, g6⟩ := h
    exact gone_ok (S6.inv.unsuite ok) xi.nd hi hk fun s7 J7 => ⟨rho6.set i none, vh6, mu6, _, H6, z, ⟨J7, S6.rel, S6.env.del i, HN⟩, g6⟩
  | cont =>
    obtain ⟨rho6, vh6, mu6, sg6, H6, z, S6, g6⟩ := h
    exact gone_ok (S6.inv.unsuite ok) xi.nd hi hk fun s7 J7 => ⟨rho6.set i none, vh6, mu6, _, H6, z, ⟨J7, S6.rel, S6.env.del i, HN⟩, g6⟩
  | ret u =>
    obtain ⟨v6, vh6, x6, mu6, rho6, sg6, H6, z, S6, g6, rv, r⟩ := h
    exact gone_ok (S6.inv.unsuite ok) xi.nd hi hk fun s7 J7 => ⟨v6, vh6, x6, mu6, rho6.set i none, _, H6, z, ⟨J7, S6.rel, S6.env.del i, HN⟩, g6, rv, r⟩
theorem suite_end0 {cfg : Cfg} {X : Cx} (hot : cfg.hot = none) {pins : List (Addr × Obj)} {mu : List Addr} {vh : VH} {H : Hp} {a : Addr} {oe : Obj} {Z : SO → Prop} {l : Nat} {f : Flow} {s6 : Shared} (ok : X.Ok)
    (h : SQ (X.suite a ((a, oe) :: (X.pn ++ pins))) (some l) [] mu vh H (suZ none Z) f s6) : SQ X cfg.hot pins mu vh H Z f s6 := by
  have HN : ∀ {mu' : List Addr} {vh' : VH} {H' : Hp}, HotR X cfg.hot mu' vh' H' := fun {_ _ _} => by rw [hot]; trivial
  cases f with
  | next =>
    obtain ⟨rho6, vh6, mu6, sg6, H6, z, S6, g6⟩ := h
    exact ⟨rho6, vh6, mu6, sg6, H6, z, ⟨S6.inv.unsuite ok, S6.rel, S6.env, HN⟩, g6⟩
  | brk =>
    obtain ⟨rho6, vh6, mu6, sg6, H6, z, S6, g6⟩ := h
    exact ⟨rho6, vh6, mu6, sg6, H6, z, ⟨S6.inv.unsuite ok, S6.rel, S6.env, HN⟩, g6⟩
  | cont =>
    obtain ⟨rho6, vh6, mu6, sg6, H6, z, S6, g6⟩ := h
    exact ⟨rho6, vh6, mu6, sg6, H6, z, ⟨S6.inv.unsuite ok, S6.rel, S6.env, HN⟩, g6⟩
  | ret u =>
    obtain ⟨v6, vh6, x6, mu6, rho6, sg6, H6, z, S6, g6, rv, r⟩ := h
    exact ⟨v6, vh6, x6, mu6, rho6, sg6, H6, z, ⟨S6.inv.unsuite ok, S6.rel, S6.env, HN⟩, g6, rv, r⟩
end
end Pv
end
/-! PvTry3 -/
section
set_option Elab.async false
set_option linter.all false
set_option maxRecDepth 100000
set_option autoImplicit false
/-! Pv: try is sound, the whole. -/
namespace Pv
open PySem PySem.Spec PyProof.Rows L2
section
variable {Y : Sys} {c : Sc} {xn : List Str}
theorem clB1 {cn x : Str} {b : Bool} (h : clB xn cn [x] = some b) : subOf xn cn x = some b := by
  unfold clB at h
  split at h
  · rename_i a b' h1 h2
    cases h2
    cases h
    rw [h1, Bool.or_false]
  · cases h
theorem clB2 {cn x y : Str} {b : Bool} (h : clB xn cn [x, y] = some b) : ∃ b1 b2, subOf xn cn x = some b1 ∧ subOf xn cn y = some b2 ∧ b = (b1 || b2) := by
  unfold clB at h
  split at h
  · rename_i a b' h1 h2
    cases h
    exact ⟨a, b', h1, clB1 h2, rfl⟩
  · cases h
theorem catch_run (w : Wd Y.G) (em : ExMat Y xn) {cfg : Cfg} {X : Cx} (g : Y.G cfg X) (hot : cfg.hot = none) (xi : XIn c X) (xs : XS X) {pins : List (Addr × Obj)} {mu mu' : List Addr} {vh vh' : VH} {H H' : Hp} {rho' : Env} {σ' : Sl} {sI s' : Shared} {a : Addr} {cls : Value} {d : Option Addr} {cn : Str} {fs : Flds} {Z : SO → Prop} {B : Heap}
    (ok : X.Ok) (W : WishS X mu vh H Z) (J : Inv X pins σ' H' sI) (nb : ∀ b o, sI.heap.get? b = some o → b ∉ frs X.stack → B.get? b = some o) (os : s'.os = sI.os) (ag : AllBare s'.gens) (na : H' a = none)
    (R : Rel X.prog X.w X.K mu' vh' H') (ex : Ex mu vh H mu' vh' H') (N : REnv X.K mu' H' rho' σ') (rx : RX X.K mu' H' cn fs cls d) :
    ∀ {hds : List ExceptHandler} {ds : List Hd}, HdsS Y c hds ds → ∀ hp : Heap, HandSPX.FlyingZ B (X.env :: X.outer) a (L2N.Zn cls d) hp → sI.heap.UpToSlots hp → (catchH xn ds cfg cn fs rho' vh').W Z →
      wpAny (model X.prog X.w) X.A (handleBy (.ref a) X.env hds) (SQ X cfg.hot pins mu vh H Z) X.xe { s' with heap := hp } := by
  have landed : ∀ {hp : Heap}, HandSPX.FlyingZ B (X.env :: X.outer) a (L2N.Zn cls d) hp → sI.heap.UpToSlots hp → Inv X pins σ' H' { s' with heap := hp } := fun {hp} fl up => J.landed nb fl.1 up os ag
  have hfr : X.A.frames = some (X.env :: X.outer) := by rw [ok.frames, xs.hs]
  -- the exception's place is none of ours
  have apart : ∀ {hp : Heap} (fl : HandSPX.FlyingZ B (X.env :: X.outer) a (L2N.Zn cls d) hp), a ≠ X.env.locals ∧ a ∉ X.fs := fun {hp} fl => by
    obtain ⟨oe3, vs3, he3, hz3, hd3⟩ := fl.there
    have nfr : a ∉ frs (X.env :: X.outer) := fun hm => by
      obtain ⟨_, o', e', hnf⟩ := fl.2.2.1.mem hm
      rw [he3] at e'; cases e'
      exact hnf _ hd3
    exact ⟨fun z => nfr (List.mem_filterMap.mpr ⟨X.env, List.mem_cons_self, by rw [xs.hf, z]⟩), fun hm => by
      obtain ⟨e, he, q⟩ := List.mem_filterMap.mp hm
      exact nfr (List.mem_filterMap.mpr ⟨e, List.mem_cons_of_mem _ he, q⟩)⟩
  have K1 := g.K
  have ec : cls = .ref (He.ga Y.K cn) := by rw [← K1]; exact rx.1
  -- a suite with a name
  have asRun : ∀ {hp : Heap} {n : Str} {i : Nat} {b₀ : Stmt} {suite : List Stmt} {m : Ts} {pos : Pos} {rest : List ExceptHandler}, HandSPX.FlyingZ B (X.env :: X.outer) a (L2N.Zn cls d) hp → sI.heap.UpToSlots hp → c.N[i]? = some n → c.sc.names.lookup n = some .local → SimB Y.G c (b₀ :: suite) m →
      (m { cfg with hot := some vh'.length } (putO (some i) (.ref vh'.length) rho') (vh' ++ [.exo cn fs])).W (suZ (some i) Z) →
      ∀ h4, HandSPX.FlyingZ B (X.env :: X.outer) a (L2N.Zn cls d) h4 → hp.UpToSlots h4 →
        wpAny (model X.prog X.w) (X.A.mark (some (.ref a))) (storeName X.env n (.ref a)) (fun _ s₂ => wpAny (model X.prog X.w) (X.A.mark (some (.ref a))) (execs (b₀ :: suite) X.env) (fun f s₃ => wpAny (model X.prog X.w) X.A (do bindName X.env n .none; unbindBehindTheSuite X.env n pos) (fun _ s₄ => SQ X cfg.hot pins mu vh H Z f s₄) X.xe s₃) (fun _ _ => False) s₂) (fun _ _ => False) { s' with heap := h4 } := by
    intro hp n i b₀ suite m pos rest fl up hN hln hs q h4 fl4 up4
    obtain ⟨oe4, vs4, he4, hz4, hd4⟩ := fl4.there
    have J4 := landed fl4 (up.trans up4)
    have S4 := J4.suite he4 hd4 na (apart fl4).1 (apart fl4).2
    have hk : X.env.scope.names.lookup n = some .local := by rw [xi.sc]; exact hln
    refine store_ok (X := X.suite a ((a, oe4) :: (X.pn ++ pins))) (v := .ref a) S4 xi.nd (by rw [show (X.suite a ((a, oe4) :: (X.pn ++ pins))).N = X.N from rfl, xi.N]; exact hN) (.inl hk) rfl (fun s5 S5 => ?_) (.inr hk)
    refine thn (suite_run w g hot xi xs (slot := some i) (fun j e => by cases e; exact ⟨n, hN, hln⟩) S5 R ex N rx hz4 ⟨vs4, hd4, hz4.2.2 vs4 hd4⟩ na hs q) fun f s6 h6 => ?_
    exact suite_end hot xi ok hN hln h6
  have onlyRun : ∀ {hp : Heap} {b₀ : Stmt} {suite : List Stmt} {m : Ts}, HandSPX.FlyingZ B (X.env :: X.outer) a (L2N.Zn cls d) hp → sI.heap.UpToSlots hp → SimB Y.G c (b₀ :: suite) m →
      (m { cfg with hot := some vh'.length } (putO none (.ref vh'.length) rho') (vh' ++ [.exo cn fs])).W (suZ none Z) →
      ∀ h4, HandSPX.FlyingZ B (X.env :: X.outer) a (L2N.Zn cls d) h4 → hp.UpToSlots h4 →
        wpAny (model X.prog X.w) (X.A.mark (some (.ref a))) (execs (b₀ :: suite) X.env) (SQ X cfg.hot pins mu vh H Z) (fun _ _ => False) { s' with heap := h4 } := by
    intro hp b₀ suite m fl up hs q h4 fl4 up4
    obtain ⟨oe4, vs4, he4, hz4, hd4⟩ := fl4.there
    have J4 := landed fl4 (up.trans up4)
    have S4 := J4.suite he4 hd4 na (apart fl4).1 (apart fl4).2
    refine thn (suite_run w g hot xi xs (slot := none) (fun j e => nomatch e) S4 R ex N rx hz4 ⟨vs4, hd4, hz4.2.2 vs4 hd4⟩ na hs q) fun f s6 h6 => ?_
    exact suite_end0 hot ok h6
  intro hds ds hk
  induction hk with
  | nil =>
    intro hp fl up q
    refine wpAny_handleBy_nil ?_
    obtain ⟨k1, k2, k3, oe, vs, T, oT, ts', he, hz, hd, h1, hr⟩ := id fl
    unfold PySem.passOn
    refine wpAny_bind (wpAny_field he hd h1 ?_)
    rw [if_neg (show ¬ ((Value.ref T == Value.none) = true) from by simp)]
    have fin : wpAny (model X.prog X.w) X.A (setFlight (.ref a) X.env.frame) (fun _ s4 => wpAny (model X.prog X.w) X.A (throw (.ref a) : Sem Flow) (SQ X cfg.hot pins mu vh H Z) X.xe s4) X.xe { s' with heap := hp } := by
      rw [xs.hf]
      refine HandSPX.setFlight_upZ fl fun h4 hh4 up4 => wpAny_throw (W _ _ ?_)
      exact ⟨a, B, sI, pins, σ', H', cls, d, rfl, J, nb, up.trans up4, .inr (.inr (by rw [xs.hs]; exact hh4)), na, os, ag, cn, fs, rho', mu', vh', R, ex, N, rx, q⟩
    first
      | exact wpAny_bind (wpAny_pure (wpAny_bind fin))
      | exact wpAny_bind fin
  | @cons eh d' es ds he ht ih =>
    intro hp fl up q
    have LT : ∀ {hq : Heap}, HandSPX.FlyingZ B (X.env :: X.outer) a (L2N.Zn cls d) hq → PySem.W.Looks (model X.prog X.w) hq (typeOf (.ref a)) cls := fun {hq} fl => by
      obtain ⟨oe3, vs3, he3, hz3, hd3⟩ := fl.there
      exact fun A Q E s k q => wpAny_typeOf_ref (k _ _ he3) (by rw [hz3.1]; exact q)
    have glo : ∀ {hq : Heap} {x : Str} {np : Pos} {Q : Value → Shared → Prop} {E : Value → Shared → Prop}, HandSPX.FlyingZ B (X.env :: X.outer) a (L2N.Zn cls d) hq → sI.heap.UpToSlots hq → gloB c x = true → Y.mg x = some (.ref (He.ga Y.K x)) → Q (.ref (He.ga Y.K x)) { s' with heap := hq } →
        wpAny (model X.prog X.w) (X.A.mark (some (.ref a))) (eval (.Name x np) X.env) Q E { s' with heap := hq } := by
      intro hq x np Q E fl up hg hm q
      obtain ⟨oe3, vs3, he3, hz3, hd3⟩ := fl.there
      have S3 := (landed fl up).suite he3 hd3 na (apart fl).1 (apart fl).2
      obtain ⟨h1, h2⟩ := gloB_ok hg
      exact ld_glob (X := X.suite a ((a, oe3) :: (X.pn ++ pins))) S3 (by show X.env.scope.names.lookup x = _; rw [xi.sc]; exact h1) (by rw [show (X.suite a ((a, oe3) :: (X.pn ++ pins))).mg = X.mg from rfl, g.mg]; exact hm) q h2
    have kin : ∀ {hq : Heap}, HandSPX.FlyingZ B (X.env :: X.outer) a (L2N.Zn cls d) hq → sI.heap.UpToSlots hq → Y.K.In hq := fun {hq} fl up => by rw [← K1]; exact (landed fl up).kIn
    cases he with
    | @as1 x n i b₀ suite m np pos hg hm hN hl hs =>
      have q1 : (match (match clB xn cn [x] with
        | some true => some (some (⟨[x], some i, m⟩ : Hd))
        | some false => findH xn cn ds
        | none => none : Option (Option Hd)) with
        | some (some d) => unhot d.slot (noEr (d.suite { cfg with hot := some vh'.length } (putO d.slot (.ref vh'.length) rho') (vh' ++ [.exo cn fs])))
        | some none => .er cn fs rho' vh'
        | none => .bad : SO).W Z := q
      cases eb : clB xn cn [x] with
      | none => rw [eb] at q1; exact q1.elim
      | some b =>
        rw [eb] at q1
        have hx := em.exm cn x b (clB1 eb)
        rw [← ec] at hx
        refine wpAny_handleBy_cons (codeAny_handlers_test ?_) (by intro q; cases q)
        have LM := PySem.W.exm_one (M := model X.prog X.w) (kin fl up) (LT fl) hx
        refine glo fl up hg hm (LM.here ?_)
        cases b with
        | true =>
          refine codeAny_handlers_suite_as ?_
          refine HandSPX.lands_againZ fl fun h4 fl4 up4 => ?_
          exact wpAny_mono (asRun (rest := es) fl up hN hl hs (suZ_W q1) h4 fl4 up4) (fun _ s₂ h₂ => wpAny_mono h₂ (fun f s₃ h₃ => h₃) fun _ _ z => False.elim z) fun _ _ z => False.elim z
        | false =>
          show wpAny _ X.A (handleBy (.ref a) X.env es) _ _ _
          exact ih hp fl up q1
    | @only1 x b₀ suite m np pos hg hm hs =>
      have q1 : (match (match clB xn cn [x] with
        | some true => some (some (⟨[x], none, m⟩ : Hd))
        | some false => findH xn cn ds
        | none => none : Option (Option Hd)) with
        | some (some d) => unhot d.slot (noEr (d.suite { cfg with hot := some vh'.length } (putO d.slot (.ref vh'.length) rho') (vh' ++ [.exo cn fs])))
        | some none => .er cn fs rho' vh'
        | none => .bad : SO).W Z := q
      cases eb : clB xn cn [x] with
      | none => rw [eb] at q1; exact q1.elim
      | some b =>
        rw [eb] at q1
        have hx := em.exm cn x b (clB1 eb)
        rw [← ec] at hx
        refine wpAny_handleBy_cons (codeAny_handlers_test ?_) (by intro q; cases q)
        have LM := PySem.W.exm_one (M := model X.prog X.w) (kin fl up) (LT fl) hx
        refine glo fl up hg hm (LM.here ?_)
        cases b with
        | true =>
          refine codeAny_handlers_suite ?_
          refine HandSPX.lands_againZ fl fun h4 fl4 up4 => ?_
          exact wpAny_mono (onlyRun fl up hs (suZ_W q1) h4 fl4 up4) (fun f s₂ h₂ => h₂) fun _ _ z => False.elim z
        | false =>
          show wpAny _ X.A (handleBy (.ref a) X.env es) _ _ _
          exact ih hp fl up q1
    | @as2 x y n i b₀ suite m np np2 tp pos kk hg hm hg2 hm2 hN hl hs =>
      have q1 : (match (match clB xn cn [x, y] with
        | some true => some (some (⟨[x, y], some i, m⟩ : Hd))
        | some false => findH xn cn ds
        | none => none : Option (Option Hd)) with
        | some (some d) => unhot d.slot (noEr (d.suite { cfg with hot := some vh'.length } (putO d.slot (.ref vh'.length) rho') (vh' ++ [.exo cn fs])))
        | some none => .er cn fs rho' vh'
        | none => .bad : SO).W Z := q
      cases eb : clB xn cn [x, y] with
      | none => rw [eb] at q1; exact q1.elim
      | some b =>
        rw [eb] at q1
        obtain ⟨b1, b2, e1, e2, e3⟩ := clB2 eb
        have hx1 := em.exm cn x b1 e1
        have hx2 := em.exm cn y b2 e2
        rw [← ec] at hx1 hx2
        have hxA : PySem.W.exmAny Y.K cls [.ref (He.ga Y.K x), .ref (He.ga Y.K y)] = some b := by
          unfold PySem.W.exmAny
          unfold PySem.W.exmAny
          unfold PySem.W.exmAny
          rw [hx1, hx2, e3]
          simp
        refine wpAny_handleBy_cons (codeAny_handlers_test ?_) (by intro q; cases q)
        have fl5 : HandSPX.FlyingZ B (X.env :: X.outer) a (L2N.Zn cls d) (hp.push { cls := .type "tuple", data := .seq [Value.ref (He.ga Y.K x), Value.ref (He.ga Y.K y)].toArray }) := flyingZ_push fl
        have up5 : sI.heap.UpToSlots (hp.push { cls := .type "tuple", data := .seq [Value.ref (He.ga Y.K x), Value.ref (He.ga Y.K y)].toArray }) := up.trans (Heap.UpToSlots.of_keeps fun b o e => Heap.get?_push_of_some _ e)
        have LM := PySem.W.exm_tup2 (M := model X.prog X.w) (tp := hp.objs.size) (h := hp.push { cls := .type "tuple", data := .seq [Value.ref (He.ga Y.K x), Value.ref (He.ga Y.K y)].toArray }) (kin fl5 up5) (LT fl5) (Heap.get?_push_size _ rfl) hxA
        refine wpAny_Tuple_spliced ?_
        refine Calls.spliced_cons (glo fl up hg hm ?_)
        refine Calls.spliced_cons (glo fl up hg2 hm2 ?_)
        refine Calls.spliced_nil ⟨small_line (by show (2 : Nat) ≤ 1000; omega), ?_⟩
        refine LM.here (s := { s' with heap := hp.push { cls := .type "tuple", data := .seq [Value.ref (He.ga Y.K x), Value.ref (He.ga Y.K y)].toArray } }) ?_
        cases b with
        | true =>
          refine codeAny_handlers_suite_as ?_
          refine HandSPX.lands_againZ fl5 fun h4 fl4 up4 => ?_
          exact wpAny_mono (asRun (rest := es) fl5 up5 hN hl hs (suZ_W q1) h4 fl4 up4) (fun _ s₂ h₂ => wpAny_mono h₂ (fun f s₃ h₃ => h₃) fun _ _ z => False.elim z) fun _ _ z => False.elim z
        | false =>
          show wpAny _ X.A (handleBy (.ref a) X.env es) _ _ _
          exact ih _ fl5 up5 q1
end
end Pv
end
/-! PvTry4 -/
section
set_option Elab.async false
set_option linter.all false
set_option maxRecDepth 100000
set_option autoImplicit false
/-! Pv: the statement try. -/
namespace Pv
open PySem PySem.Spec PyProof.Rows L2
theorem simS_try {xn : List Str} {Y : Sys} {c : Sc} {body : List Stmt} {m : Ts} {h₀ : ExceptHandler} {hds : List ExceptHandler} {ds : List Hd} {pos : Pos} (w : Wd Y.G) (em : ExMat Y xn) (hb : SimB Y.G c body m) (hh : HdsS Y c (h₀ :: hds) ds) : SimS Y.G c (.Try body (h₀ :: hds) [] [] pos) (sTry xn m ds) := .mk <| by
  intro cfg X g xi xs pins rho mu vh sg H s Z S W q
  unfold sTry at q
  split at q
  · exact q.elim
  rename_i hh'
  have hot := hot_none hh'
  have q1 : (m cfg rho vh).W (tryZ xn ds cfg Z) := by
    cases e : m cfg rho vh <;> rw [e] at q <;> exact q
  have ok := S.inv.ok
  have hfr : X.A.frames = some (X.env :: X.outer) := by rw [ok.frames, xs.hs]
  refine wpAny_Try_except ?_
  let xe' : Value → Shared → Prop := fun e s₁ => wpAny (model X.prog X.w) X.A (noteFrame e X.env) (fun _ s₂ => wpAny (model X.prog X.w) X.A (setFlight e none) (fun _ s₃ =>
    wpAny (model X.prog X.w) X.A (handleBy e X.env (h₀ :: hds)) (SQ X cfg.hot pins mu vh H Z) X.xe s₃) X.xe s₂) X.xe s₁
  have HN : ∀ {X' : Cx} {mu' : List Addr} {vh' : VH} {H' : Hp}, HotR X' cfg.hot mu' vh' H' := fun {_ _ _ _} => by rw [hot]; trivial
  have W1 : WishS (X.tr (X.pn ++ pins) xe') mu vh H (tryZ xn ds cfg Z) := by
    intro u s' xx
    obtain ⟨a, B, sI, pins', σ', H', cls, d, rfl, J', nb, up, sky, na, os, ag, cn, fs, rho', mu', vh', R, ex, N, rx, z⟩ := xx
    have J : Inv X pins σ' H' sI := J'.ofTry ok
    have sky' : Sky B (X.env :: X.outer) a (L2N.Zn cls d) X.env.locals s'.heap := by rw [← xs.hs]; exact sky
    show wpAny (model X.prog X.w) X.A (noteFrame (.ref a) X.env) _ _ _
    refine L2N.Sky.land L2N.Zn.steady hfr xs.hf sky' fun h3 fl3 up3 => ?_
    exact catch_run w em g hot xi xs ok W J nb os ag na R ex N rx hh h3 fl3 (up.trans up3) z
  have S1 : Sm (X.tr (X.pn ++ pins) xe') cfg.hot [] rho mu vh sg H s := ⟨S.inv.toTry xe', S.rel, S.env, HN⟩
  have run := hb cfg (X.tr (X.pn ++ pins) xe') (w.tr cfg X _ _ g) ⟨xi.N, xi.sc, xi.nd, xi.st⟩ ⟨xs.hs, xs.hf, PassesOwn.looking⟩ [] rho mu vh sg H s (tryZ xn ds cfg Z) S1 W1 q1
  refine wpAny_mono run (fun f s1 h => ?_) fun e s1 he => he
  cases f with
  | next =>
    obtain ⟨rho1, vh1, mu1, sg1, H1, z, S', g'⟩ := h
    exact wpAny_execs_nil ⟨rho1, vh1, mu1, sg1, H1, z, ⟨S'.inv.ofTry ok, S'.rel, S'.env, HN⟩, g'⟩
  | brk =>
    obtain ⟨rho1, vh1, mu1, sg1, H1, z, S', g'⟩ := h
    exact ⟨rho1, vh1, mu1, sg1, H1, z, ⟨S'.inv.ofTry ok, S'.rel, S'.env, HN⟩, g'⟩
  | cont =>
    obtain ⟨rho1, vh1, mu1, sg1, H1, z, S', g'⟩ := h
    exact ⟨rho1, vh1, mu1, sg1, H1, z, ⟨S'.inv.ofTry ok, S'.rel, S'.env, HN⟩, g'⟩
  | ret u =>
    obtain ⟨v1, vh1, x1, mu1, rho1, sg1, H1, z, S', g', rv, r⟩ := h
    exact ⟨v1, vh1, x1, mu1, rho1, sg1, H1, z, ⟨S'.inv.ofTry ok, S'.rel, S'.env, HN⟩, g', rv, r⟩
end Pv
end
/-! PvRepr -/
section
set_option Elab.async false
set_option linter.all false
set_option maxRecDepth 100000
set_option autoImplicit false
/-! Pv: repr(a) == repr(b). -/
namespace Pv
open PySem PySem.Spec PyProof.Rows L2
/-- what may be shown -/
def shOk (d : PyData) : Bool := d.showable && decide (d.shown.length ≤ LIM)
def eRepr2 (ne : Bool) (a b : Tm) : Tm := fun c rho h => (a c rho h).bind fun v h => match toD DEEP h v with
  | some d => if shOk d then ((b c rho h).bind fun w h => match toD DEEP h w with
    | some e => if shOk e then .ok (.bl (if ne then !decide (d.shown = e.shown) else decide (d.shown = e.shown))) h else .bad
    | none => .bad) else .bad
  | none => .bad
section
variable {Y : Sys} {c : Sc} {a b : Expr} {ma mb : Tm} {pos p1 p2 q1 q2 : Pos}
theorem run_repr {cfg : Cfg} {X : Cx} (g : Y.G cfg X) {pins : List (Addr × Obj)} {rho : Env} {mu : List Addr} {vh : VH} {sg : Sl} {H : Hp} {s : Shared} {v : Val} {x : V} {u : Value} {d : PyData} {Q : Value → Shared → Prop} (S : Sm X cfg.hot pins rho mu vh sg H s) (rv : RV X.K mu H v x) (r : RelV x u) (e : toD DEEP vh v = some d) (hs : shOk d = true)
    (h : ∀ t s', Inv X pins sg H s' → Q (.str d.shown t) s') : wpAny (model X.prog X.w) X.A (call (.builtin "repr") [u]) Q X.xe s := by
  obtain ⟨hd, hcl, hdp⟩ := RV.dp S DEEP v d x e rv
  unfold shOk at hs
  rw [Bool.and_eq_true] at hs
  obtain ⟨hsh, hl⟩ := hs
  have hl := LIM_le (of_decide_eq_true hl)
  obtain ⟨k, _, rm, _⟩ := g.lv
  have hu := rm.un
  have I := S.inv
  cases hd with
  | non => cases r; exact P.repr_of_none (h _ _ (I.tok _))
  | bl b => cases r; exact P.repr_of_bool (h _ _ (I.tok _))
  | int i =>
    obtain ⟨t, rfl⟩ := r
    exact P.repr_of_int (of_decide_eq_true hsh) (h _ _ (I.tok _))
  | str z =>
    obtain ⟨t, rfl⟩ := r
    exact P.repr_of_str (h _ _ (I.tok _)) hl
  | lst h1 h2 =>
    cases r
    obtain ⟨as, rd⟩ := Dp.reads I _ _ _ (.lst h1 h2) rfl
    exact repr_of_reads' rd hsh (PyData.noDict_hsm (PyData.hasDict_of_canLay _ hcl)) g.gd (by have : DEEP = 40 := rfl; omega) (fun b o e => e) (fun h' u tk k => h _ _ (I.kept k)) hl
  | tup h1 h2 =>
    cases r
    obtain ⟨as, rd⟩ := Dp.reads I _ _ _ (.tup h1 h2) rfl
    exact repr_of_reads' rd hsh (PyData.noDict_hsm (PyData.hasDict_of_canLay _ hcl)) g.gd (by have : DEEP = 40 := rfl; omega) (fun b o e => e) (fun h' u tk k => h _ _ (I.kept k)) hl
/-- repr(a), a value told -/
theorem repr_then (w : Wd Y.G) (hg : c.sc.names.lookup ("repr" : Str) = some .globalImplicit) (ha : SimE Y.G c a ma) (hn : noStar a = true) {cfg : Cfg} {X : Cx} (g : Y.G cfg X) (xi : XIn c X) {pins : List (Addr × Obj)} {rho : Env} {mu : List Addr} {vh : VH} {sg : Sl} {H : Hp} {s : Shared} {E : Str → Flds → VH → Prop} {β : Type} {k : PyData → VH → Out β} {Q : β → VH → Prop} {R : Value → Shared → Prop}
    (S : Sm X cfg.hot pins rho mu vh sg H s) (W : Wish X rho mu vh H E) (q : ((ma cfg rho vh).bind fun v h => match toD DEEP h v with
      | some d => if shOk d then k d h else .bad
      | none => .bad).W Q E)
    (h : ∀ d vh1 mu1 H1 t s1, Sm X cfg.hot pins rho mu1 vh1 sg H1 s1 → Ex mu vh H mu1 vh1 H1 → (k d vh1).W Q E → R (.str d.shown t) s1) :
    wpAny (model X.prog X.w) X.A (eval (.Call (.Name "repr" p1) [a] [] pos) X.env) R X.xe s := by
  refine wpAny_Call_Name_kw (ld_blt S.inv (by show X.env.scope.names.lookup _ = _; rw [xi.sc]; exact hg) (w.bl cfg X g "repr" (by decide +kernel)) PyProof.Rows.Boot.repr ?_ (by decide) (by decide))
  refine PyProof.Rows.callWith_builtin1 ?_ (starEach_cons hn) rfl
  rw [starEach_cons hn]
  refine Calls.spliced_cons (ha.then g xi S W q fun v vh1 x mu1 H1 u s1 S1 g1 rv r q1 => Calls.spliced_nil ?_)
  split at q1
  · rename_i d e
    split at q1
    · rename_i hs
      exact run_repr g S1 rv r e hs fun t s2 I2 => h d vh1 mu1 H1 t s2 (S1.same I2) g1 q1
    · exact q1.elim
  · exact q1.elim
theorem repr2 (w : Wd Y.G) (ne : Bool) (hg : c.sc.names.lookup ("repr" : Str) = some .globalImplicit) (ha : SimE Y.G c a ma) (hb : SimE Y.G c b mb) (hna : noStar a = true) (hnb : noStar b = true) {cfg : Cfg} {X : Cx} (g : Y.G cfg X) (xi : XIn c X) {pins : List (Addr × Obj)} {rho : Env} {mu : List Addr} {vh : VH} {sg : Sl} {H : Hp} {s : Shared} {E : Str → Flds → VH → Prop} {Q : Val → VH → Prop} {R : Value → Shared → Prop}
    (S : Sm X cfg.hot pins rho mu vh sg H s) (W : Wish X rho mu vh H E) (q : (eRepr2 ne ma mb cfg rho vh).W Q E) (f : CmpOp) (hf : f = if ne then .NotEq else .Eq)
    (h : ∀ k vh1 mu1 H1 s1, Sm X cfg.hot pins rho mu1 vh1 sg H1 s1 → Ex mu vh H mu1 vh1 H1 → Q (.bl k) vh1 → R (.bool k) s1) :
    wpAny (model X.prog X.w) X.A (eval (.Call (.Name "repr" p1) [a] [] q1) X.env) (fun v s₁ => wpAny (model X.prog X.w) X.A (eval (.Call (.Name "repr" p2) [b] [] q2) X.env) (fun u s₂ => wpAny (model X.prog X.w) X.A (compareOp f v u) R X.xe s₂) X.xe s₁) X.xe s := by
  unfold eRepr2 at q
  refine repr_then (p1 := p1) (pos := q1) w hg ha hna g xi S W q fun d vh1 mu1 H1 t s1 S1 g1 q1' => ?_
  refine repr_then (p1 := p2) (pos := q2) w hg hb hnb g xi S1 (W.from g1) q1' fun e vh2 mu2 H2 t2 s2 S2 g2 q2' => ?_
  subst hf
  have key : ∀ (x y : Str), (x == y) = decide (x = y) := fun x y => by
    rw [Bool.eq_iff_iff]; simp
  cases ne with
  | true =>
    refine ne_str ?_
    refine h _ vh2 mu2 H2 s2 S2 (g1.trans g2) ?_
    have : (d.shown != e.shown) = !decide (d.shown = e.shown) := by
      show (!(d.shown == e.shown)) = _
      rw [key]
    first
    | exact q2'
    | (rw [this]; exact q2')
  | false =>
    refine eq_str ?_
    refine h _ vh2 mu2 H2 s2 S2 (g1.trans g2) ?_
    first
    | exact q2'
    | (rw [key]; exact q2')
theorem simE_repr2 (w : Wd Y.G) (ne : Bool) (hg : c.sc.names.lookup ("repr" : Str) = some .globalImplicit) (ha : SimE Y.G c a ma) (hb : SimE Y.G c b mb) (hna : noStar a = true) (hnb : noStar b = true) {f : CmpOp} (hf : f = if ne then .NotEq else .Eq)
    (hm : behindInMarks f (.Call (.Name "repr" p2) [b] [] q2) = false) : SimE Y.G c (.Compare (.Call (.Name "repr" p1) [a] [] q1) [f] [.Call (.Name "repr" p2) [b] [] q2] pos) (eRepr2 ne ma mb) := .mk <| by
  intro cfg X g xi pins rho mu vh sg H s Q E S W q
  refine wpAny_Compare1 (repr2 w ne hg ha hb hna hnb g xi S W q f hf fun k vh1 mu1 H1 s1 S1 g1 q1 => ?_) hm
  exact EQ.from g1 (EQ.pure S1 (v := .bl k) q1 (.bl k) rfl S1.inv)
theorem simT_repr2 (w : Wd Y.G) (ne : Bool) (hg : c.sc.names.lookup ("repr" : Str) = some .globalImplicit) (ha : SimE Y.G c a ma) (hb : SimE Y.G c b mb) (hna : noStar a = true) (hnb : noStar b = true) {f : CmpOp} (hf : f = if ne then .NotEq else .Eq)
    (hm : behindInMarks f (.Call (.Name "repr" p2) [b] [] q2) = false) : SimT Y.G c (.Compare (.Call (.Name "repr" p1) [a] [] q1) [f] [.Call (.Name "repr" p2) [b] [] q2] pos) (tVal (eRepr2 ne ma mb)) := .mk <| by
  intro cfg X g xi pins rho mu vh sg H s Q E S W q
  unfold tVal at q
  rw [Out.W_bind] at q
  refine wpAny_isTrue_Compare1 (repr2 (R := fun z s3 => wpAny (model X.prog X.w) X.A (truthy z) (TQ X cfg.hot pins rho mu vh sg H Q) X.xe s3) w ne hg ha hb hna hnb g xi S W q f hf fun k vh1 mu1 H1 s1 S1 g1 q1 => ?_) hm
  exact wpAny_truthy_bool ⟨vh1, mu1, H1, q1, S1, g1⟩
end
end Pv
end
/-! PvMore -/
section
set_option Elab.async false
set_option linter.all false
set_option maxRecDepth 100000
set_option autoImplicit false
/-! Pv: stores into lists, op=, pairs of names, chains. -/
namespace Pv
open PySem PySem.Spec PyProof.Rows L2
/-! ### o[i] = v -/
def opSet (o j v : Val) (h : VH) : Out Unit := match o, j with
  | .ref l, .int k => match h[l]? with
    | some (.lst vs) => match ixN vs.length k with
      | some n => .ok () (h.set l (.lst (vs.set n v)))
      | none => .bad
    | _ => .bad
  | _, _ => .bad
def gIx (a i : Tm) : Tg := fun v c rho h => (a c rho h).bn fun o h => (i c rho h).bn fun j h => (opSet o j v h).bind fun _ h => .ok rho h
section
variable {G : World'} {c : Sc} {a b e tg : Expr} {ma mb : Tm} {es : List Expr} {mt : Ta} {pos : Pos}
theorem simG_ix (ha : SimE G c a ma) (hb : SimE G c b mb)
    (has : ∀ (env : PySem.Env) v, assign (.Subscript a b pos) env v = (do
      let ov ← holding [v] (eval a env)
      let iv ← holding [v, ov] (eval b env)
      standAt pos
      holding [v, ov, iv] (setItem ov iv v)
      release [v, ov, iv] [])) : SimG G c (.Subscript a b pos) (gIx ma mb) [] := .mk <| by
  intro cfg X g xi pins rho mu vh sg H s v x u Q S rv r q
  rw [has]
  unfold gIx at q
  have q0 := Out.bn_W q
  refine wpAny_bind (wpAny_holding (thn (ha cfg X g xi pins rho mu vh sg H s _ _ S (Wish.none rho) q0) fun ov s1 h1 => ?_))
  obtain ⟨o, vh1, ox, mu1, H1, q1, S1, g1, rv1, r1⟩ := h1
  refine wpAny_bind (wpAny_holding (thn (hb cfg X g xi pins rho mu1 vh1 sg H1 s1 _ _ S1 (Wish.none rho) (Out.bn_W q1)) fun iv s2 h2 => ?_))
  obtain ⟨j, vh2, jx, mu2, H2, q2, S2, g2, rv2, r2⟩ := h2
  have rvo := rv1.gro g2.gro
  have rvv := rv.gro (g1.gro.trans g2.gro)
  rw [Out.W_bind] at q2
  cases rvo with
  | ref hl =>
    rename_i l p
    cases rv2 with
    | int k =>
      have q3 : (match vh2[l]? with
        | some (.lst vs) => match ixN vs.length k with
          | some n => .ok () (vh2.set l (.lst (vs.set n v)))
          | none => .bad
        | _ => .bad : Out Unit).W (fun _ h => Q rho h) (fun _ _ _ => False) := q2
      split at q3
      · rename_i vs ho
        split at q3
        · rename_i n hn
          obtain ⟨xs, e1, rr⟩ := S2.rel.obj l p _ hl ho
          have gw : Gro mu2 H2 mu2 (upd H2 p (.lst (xs.set n x))) := Gro.write e1 trivial
          refine wpAny_bind (wpAny_standAt (wpAny_bind (wpAny_holding (thn (set_list pins s2 sg H2 _ _ x ov iv u (fun H3 => H3 = upd H2 p (.lst (xs.set n x))) S2.inv r1 r2 r ⟨p, xs, k, n, rfl, rfl, e1, by rw [← rr.length]; exact hn, rfl⟩) fun _ s3 h3 => ?_))))
          obtain ⟨H3, I3, e3⟩ := h3
          subst e3
          exact wpAny_release ⟨rho, _, mu2, sg, _, q3, S2.step I3 (S2.rel.write hl ho rfl (o' := .lst (vs.set n v)) ⟨xs.set n x, upd_same, (RVs.set rvv n rr).gro gw⟩ rfl) (Ex.write e1 trivial hl ho rfl), (g1.trans g2).trans (Ex.write e1 trivial hl ho rfl), fun _ _ => rfl⟩
        · exact q3.elim
      · exact q3.elim
    | _ => exact q2.elim
  | _ => cases rv2 <;> exact q2.elim

/-! ### name op= e -/
def opIadd (a b : Val) (h : VH) : Out Val := match a, b with
  | .int i, .int j => .ok (.int (i + j)) h
  | .tup x, .tup y => if x.length + y.length ≤ LIM then .ok (.tup (x ++ y)) h else .bad
  | _, _ => .bad
/-! a += b of tuples: the library's + of tuples, in place -/
theorem iconcat_meets {prog : Program} {w : World} {A : Around} {E : Value → Shared → Prop} {s : Shared} {T id : String} {B : Builtin} {a b : Value} {S : PySem.Spec} {Q : Value → Shared → Prop} (ha : s.TypeIs a T) (hb : s.TypeIs b T) (hno : typeLookup (.type T) (dunderI "add") = pure none)
    (hfill : fillsNumberSlot (.type T) "add" = pure false) (hseq : seqSlot? (.type T) "__add__" = pure (some (.builtin id))) (slot : Slot T "__add__" id)
    (entry : entryFor table id = some B) (args : argsOk id ⟨[a, b], []⟩) (g : Meets (B ⟨[a, b], []⟩) S) (h : S A (wants Q E) s) : wpAny (model prog w) A (inplaceOp .Add a b) Q E s :=
  wpAny_inplaceOp_concat ha hb hno hfill hseq (call_meets slot ha entry args g h)
open HT in
theorem icat_tup {prog : Program} {w : World} {A : Around} {E : Value → Shared → Prop} {s : Shared} {t b : Addr} {vs ws : List Value} {Q : Value → Shared → Prop} (ht : IsTup s.heap t vs.toArray) (hb : IsTup s.heap b ws.toArray)
    (h0 : vs = [] → Q (.ref b) s) (h1 : vs ≠ [] → ws = [] → Q (.ref t) s) (h2 : vs ≠ [] → ws ≠ [] → Q (.ref s.heap.objs.size) { s with heap := s.heap.push { cls := .type "tuple", data := .seq (vs ++ ws).toArray } })
    (hsz : vs.length + ws.length ≤ sizeLine) : wpAny (model prog w) A (inplaceOp .Add (.ref t) (.ref b)) Q E s := by
  obtain ⟨⟨cls, dd, data, sl⟩, ho, hc, n, hd⟩ := id ht
  obtain ⟨⟨cls2, dd2, data2, sl2⟩, ho2, hc2, n2, hd2⟩ := id hb
  simp only at hc hd hc2 hd2
  subst hc hd hc2 hd2
  have e : vs.toArray ++ ws.toArray = (vs ++ ws).toArray := by simp
  by_cases hv : vs = []
  · exact iconcat_meets ⟨_, ho, rfl⟩ ⟨_, ho2, rfl⟩ rfl noFill_tuple_add seq_tuple_add PySem.F.slot_tuple_add PySem.F.entry_tuple_add (PySem.F.args_tuple_add_2 _ _)
      (tuple_addW0 t b vs.toArray ws.toArray n n2 dd dd2 sl sl2 (by simp [hv])) ⟨ho, ho2, h0 hv⟩
  · by_cases hw : ws = []
    · exact iconcat_meets ⟨_, ho, rfl⟩ ⟨_, ho2, rfl⟩ rfl noFill_tuple_add seq_tuple_add PySem.F.slot_tuple_add PySem.F.entry_tuple_add (PySem.F.args_tuple_add_2 _ _)
        (tuple_addW1 t b vs.toArray ws.toArray n n2 dd dd2 sl sl2 (by simpa using hv) (by simp [hw])) ⟨ho, ho2, h1 hv hw⟩
    · refine iconcat_meets ⟨_, ho, rfl⟩ ⟨_, ho2, rfl⟩ rfl noFill_tuple_add seq_tuple_add PySem.F.slot_tuple_add PySem.F.entry_tuple_add (PySem.F.args_tuple_add_2 _ _)
        (tuple_addW2 t b vs.toArray ws.toArray n n2 dd dd2 sl sl2 (by simpa using hv) (by simpa using hw) (by rw [List.size_toArray, List.size_toArray]; exact hsz)) ⟨ho, ho2, ?_⟩
      rw [e]
      exact h2 hv hw
theorem sim_iadd : SimV2 (fun _ => inplaceOp .Add) Rm opIadd := by
  intro cfg X k pins rho mu vh sg H s v w x y u t Q E S rv rw' ru rt q
  cases rv with
  | int i =>
    cases rw' with
    | int j =>
      obtain ⟨t1, rfl⟩ := ru
      obtain ⟨t2, rfl⟩ := rt
      exact iadd_int (EQ.pure (v := .int (i + j)) S q (.int _) ⟨_, rfl⟩ (S.inv.tok _))
    | _ => exact q.elim
  | tup ha ra =>
    cases rw' with
    | tup hb rb =>
      rename_i a vs xs b ws ys
      have q' : (if vs.length + ws.length ≤ LIM then Out.ok (.tup (vs ++ ws)) vh else .bad : Out Val).W Q E := q
      by_cases hl : vs.length + ws.length ≤ LIM
      · rw [if_pos hl] at q'
        cases ru
        cases rt
        have I := S.inv
        obtain ⟨its, r1, p1, _⟩ := I.tuple ha
        obtain ⟨its2, r2, p2, _⟩ := I.tuple hb
        have l1 : its.length = vs.length := by rw [← r1.length, ← ra.length]
        have l2 : its2.length = ws.length := by rw [← r2.length, ← rb.length]
        refine icat_tup p1 p2 (fun z => ?_) (fun _ z => ?_) (fun _ z => ?_) (by rw [l1, l2]; exact LIM_le hl)
        · have e1 : vs = [] := List.length_eq_zero_iff.mp (by rw [← l1, z]; rfl)
          subst e1
          exact EQ.pure (v := .tup ws) (x := .ref b) S q' (.tup hb rb) rfl I
        · have e1 : ws = [] := List.length_eq_zero_iff.mp (by rw [← l2, z]; rfl)
          subst e1
          rw [List.append_nil] at q'
          exact EQ.pure (v := .tup vs) (x := .ref a) S q' (.tup ha ra) rfl I
        · have hn : H s.heap.objs.size = none := I.hok.fresh (Nat.le_refl _)
          have I2 : Inv X pins sg (upd H s.heap.objs.size (.tup (xs ++ ys))) { s with heap := s.heap.push { cls := .type "tuple", data := .seq (its ++ its2).toArray } } :=
            I.laid (t' := s.toks) (o := .tup (xs ++ ys)) (fun b ob q => Heap.get?_push_of_some _ q) (Nat.le_refl _) ⟨by rw [List.length_append, ← ra.length, ← rb.length]; exact LIM_le hl, _, r1.append r2, IsTup.new _ _⟩
          have rr := (ra.app rb).gro (Gro.new0 (mu := mu) (u := .tup (xs ++ ys)) hn)
          have g : Ex mu vh H mu vh (upd H s.heap.objs.size (.tup (xs ++ ys))) := Ex.laid hn
          exact ⟨.tup (vs ++ ws), vh, .ref s.heap.objs.size, mu, _, q', S.step I2 (S.rel.laid hn) g, g, .tup (SqT.of upd_same) rr, rfl⟩
      · rw [if_neg hl] at q'; exact q'.elim
    | _ => exact q.elim
  | _ => cases rw' <;> exact q.elim
def sAug (i : Nat) (op : Val → Val → VH → Out Val) (e : Tm) : Ts := fun c rho h => match rho[i]? with
  | some (some v) => (e c rho h).to rho fun w h => (op v w h).to0 fun z h => .nx (rho.set i (some z)) h
  | _ => .bad
theorem simS_aug {i : Nat} {x : Str} {p : Pos} (hN : c.N[i]? = some x) (hx : stB c x = true) (hr : ∀ cfg X, G cfg X → Rm cfg X) (hb : SimE G c b mb) : SimS G c (.AugAssign (.Name x p) .Add b pos) (sAug i opIadd mb) := .mk <| by
  intro cfg X g xi xs pins rho mu vh sg H s Z S W q
  unfold sAug at q
  split at q
  · rename_i v ev
    rw [Out.to_W] at q
    obtain ⟨vx, e1, rv⟩ := S.env.get i v ev
    obtain ⟨hloc, hfn⟩ := xi.st x (stB_ok hx)
    have hi : X.N[i]? = some x := by rw [xi.N]; exact hN
    obtain ⟨m, hn, hl⟩ := S.inv.loc
    have vis : Vis X.env.scope x := by rcases hloc with k | k; exact .inl k; exact .inr (.inl k)
    obtain ⟨u, r, l⟩ := hl i x vx hi e1 vis
    refine wpAny_AugAssign_Name ?_
    have go : wpAny (model X.prog X.w) X.A (eval b X.env) (fun w s₂ => wpAny (model X.prog X.w) X.A (inplaceOp .Add u w) (fun r s₃ => wpAny (model X.prog X.w) X.A (storeName X.env x r) (fun _ => SQ X cfg.hot pins mu vh H Z .next) X.xe s₃) X.xe s₂) X.xe s := by
      refine thn (hb cfg X g xi pins rho mu vh sg H s _ _ S (W.ex rho) q) fun w s1 h1 => ?_
      obtain ⟨wv, vh1, wx, mu1, H1, q1, S1, g1, rv1, r1⟩ := h1
      have q2 := Out.to0_W q1
      refine thn (sim_iadd cfg X (hr cfg X g) pins rho mu1 vh1 sg H1 s1 v wv vx wx u w _ _ S1 (rv.gro g1.gro) rv1 r r1 q2) fun z s2 h2 => ?_
      obtain ⟨zv, vh2, zx, mu2, H2, q3, S2, g2, rv2, r2⟩ := h2
      exact store_ok S2.inv xi.nd hi hloc r2 (fun s' I' => ⟨_, vh2, mu2, _, H2, q3, S2.put rv2 I', g1.trans g2⟩) hfn
    rcases l with ⟨hk, hm⟩ | ⟨hk, c', hc, hcell⟩
    · exact wpAny_loadName_local S.inv.ok.kind hk hn hm go
    · rcases hk with hk | hk
      · exact wpAny_loadName_cell S.inv.ok.kind hk hc hcell go
      · rcases hloc with k | k
        · have : X.env.scope.names.lookup x = some .free := hk
          rw [k] at this; cases this
        · have : X.env.scope.names.lookup x = some .free := hk
          rw [k] at this; cases this
  · exact q.elim

/-! ### a, b = x, y: names from the right -/
def tA (X : Cx) (cfg : Cfg) (m : Ta) : TA := fun σ H Q => ∃ rho mu vh E, Rel X.prog X.w X.K mu vh H ∧ REnv X.K mu H rho σ ∧ HotR X cfg.hot mu vh H ∧ Wish X rho mu vh H E ∧ (m cfg rho vh).W (fun vs vh' => ∀ xs mu' H', Rel X.prog X.w X.K mu' vh' H' → Ex mu vh H mu' vh' H' → RVs X.K mu' H' vs xs → Q xs H') E
theorem pa_of {X : Cx} (h : SimA G c es mt) {cfg : Cfg} (g : G cfg X) (xi : XIn c X) : PA X es (tA X cfg mt) := by
  refine ⟨fun pos pins s σ H Q I ⟨rho, mu, vh, E, R, N, hx, W, q⟩ => ?_⟩
  refine thn (h cfg X g xi pos pins rho mu vh σ H s _ _ ⟨I, R, N, hx⟩ W q) fun us s1 hq => ?_
  obtain ⟨vs, vh', xs, mu', H', q1, S1, g1, rv, r, hl⟩ := hq
  exact ⟨xs, H', S1.inv, r, q1 xs mu' H' S1.rel g1 rv⟩
def sPar2 (i j : Nat) (t : Ta) : Ts := fun c rho h => if c.hot.isSome then .bad else (t c rho h).to rho fun vs h => match vs with
  | [v, w] => .nx ((rho.set i (some v)).set j (some w)) h
  | _ => .bad
def sPar3 (i j l : Nat) (t : Ta) : Ts := fun c rho h => if c.hot.isSome then .bad else (t c rho h).to rho fun vs h => match vs with
  | [u, v, w] => .nx (((rho.set i (some u)).set j (some v)).set l (some w)) h
  | _ => .bad
theorem sps_next {X : Cx} {cfg : Cfg} {st : Stmt} {t : TS} {pins : List (Addr × Obj)} {rho : Env} {mu : List Addr} {vh : VH} {sg : Sl} {H : Hp} {s : Shared} {Z : SO → Prop} (hot : cfg.hot = none) (P : PS X st t) (S : Sm X cfg.hot pins rho mu vh sg H s)
    (h : t { nx := fun σ' H' => ∃ rho' vh' mu', Z (.nx rho' vh') ∧ Rel X.prog X.w X.K mu' vh' H' ∧ Ex mu vh H mu' vh' H' ∧ REnv X.K mu' H' rho' σ', rt := fun _ _ => False } sg H) : wpAny (model X.prog X.w) X.A (exec st X.env) (SQ X cfg.hot pins mu vh H Z) X.xe s := by
  refine thn (P.run pins s sg H _ S.inv h) fun f s1 h1 => ?_
  cases f with
  | next =>
    obtain ⟨σ', H', I', rho', vh', mu', z, R', ex, N'⟩ := h1
    exact ⟨rho', vh', mu', σ', H', z, ⟨I', R', N', by rw [hot]; trivial⟩, ex⟩
  | brk => obtain ⟨_, _, _, z⟩ := h1; exact z.elim
  | cont => obtain ⟨_, _, _, z⟩ := h1; exact z.elim
  | ret u => obtain ⟨_, _, _, _, _, z⟩ := h1; exact z.elim
theorem simS_par2 {i j : Nat} {x y : Str} {px py pt : Pos} {kt k2 pt2} (w : Wd G) (hi : c.N[i]? = some x) (hj : c.N[j]? = some y) (hij : i ≠ j) (hx : c.sc.names.lookup x = some .local) (hy : c.sc.names.lookup y = some .local) (ht : SimA G c [a, b] mt)
    (hw : ∀ env : PySem.Env, env.scope = c.sc → swappedStores [.Tuple [.Name x px, .Name y py] kt pt] (.Tuple [a, b] k2 pt2) env = pure (some [x, y])) (hs : ∀ env : PySem.Env, swapsWithSole [.Tuple [.Name x px, .Name y py] kt pt] (.Tuple [a, b] k2 pt2) pos.line env = pure false) :
    SimS G c (.Assign [.Tuple [.Name x px, .Name y py] kt pt] (.Tuple [a, b] k2 pt2) pos) (sPar2 i j mt) := .mk <| by
  intro cfg X g xi xs pins rho mu vh sg H s Z S W q
  unfold sPar2 at q
  split at q
  · exact q.elim
  rename_i hh
  have hot := hot_none hh
  rw [Out.to_W] at q
  refine sps_next hot (ps_par ((w.rm cfg X g).calm hot) xi.nd (by rw [xi.N]; exact hi) (by rw [xi.N]; exact hj) hij (by rw [xi.sc]; exact hx) (by rw [xi.sc]; exact hy) (pa_of ht g xi) (hw _ xi.sc) (hs _)) S ?_
  refine ⟨rho, mu, vh, _, S.rel, S.env, S.hot, W.ex rho, q.mono (fun vs vh' q1 => ?_) fun _ _ _ z => z⟩
  intro ys mu' H' R ex rv
  split at q1
  · rename_i v w'
    cases rv with
    | cons r1 rv =>
      cases rv with
      | cons r2 rv =>
        cases rv
        exact ⟨_, _, rfl, _, vh', mu', q1, R, ex, ((S.env.gro ex.gro).put r1 i).put r2 j⟩
  · exact q1.elim
theorem simS_par3 {i j l : Nat} {x y z : Str} {e3 : Expr} {px py pz pt : Pos} {kt k2 pt2} (w : Wd G) (hi : c.N[i]? = some x) (hj : c.N[j]? = some y) (hl : c.N[l]? = some z) (hij : i ≠ j) (hil : i ≠ l) (hjl : j ≠ l) (hx : c.sc.names.lookup x = some .local) (hy : c.sc.names.lookup y = some .local) (hz : c.sc.names.lookup z = some .local) (ht : SimA G c [a, b, e3] mt)
    (hw : ∀ env : PySem.Env, env.scope = c.sc → swappedStores [.Tuple [.Name x px, .Name y py, .Name z pz] kt pt] (.Tuple [a, b, e3] k2 pt2) env = pure (some [x, y, z])) (hs : ∀ env : PySem.Env, swapsWithSole [.Tuple [.Name x px, .Name y py, .Name z pz] kt pt] (.Tuple [a, b, e3] k2 pt2) pos.line env = pure false) :
    SimS G c (.Assign [.Tuple [.Name x px, .Name y py, .Name z pz] kt pt] (.Tuple [a, b, e3] k2 pt2) pos) (sPar3 i j l mt) := .mk <| by
  intro cfg X g xi xs pins rho mu vh sg H s Z S W q
  unfold sPar3 at q
  split at q
  · exact q.elim
  rename_i hh
  have hot := hot_none hh
  rw [Out.to_W] at q
  refine sps_next hot (ps_par3 ((w.rm cfg X g).calm hot) xi.nd (by rw [xi.N]; exact hi) (by rw [xi.N]; exact hj) (by rw [xi.N]; exact hl) hij hil hjl (by rw [xi.sc]; exact hx) (by rw [xi.sc]; exact hy) (by rw [xi.sc]; exact hz) (pa_of ht g xi) (hw _ xi.sc) (hs _)) S ?_
  refine ⟨rho, mu, vh, _, S.rel, S.env, S.hot, W.ex rho, q.mono (fun vs vh' q1 => ?_) fun _ _ _ z => z⟩
  intro ys mu' H' R ex rv
  split at q1
  · rename_i u v w'
    cases rv with
    | cons r1 rv =>
      cases rv with
      | cons r2 rv =>
        cases rv with
        | cons r3 rv =>
          cases rv
          exact ⟨_, _, _, rfl, _, vh', mu', q1, R, ex, (((S.env.gro ex.gro).put r1 i).put r2 j).put r3 l⟩
  · exact q1.elim

/-! ### a op b op c -/
def eChain (op op' : Val → Val → VH → Out Val) (a b d : Tm) : Tm := fun c rho h => (a c rho h).bind fun x h => (b c rho h).bind fun y h => (op x y h).bind fun z h => match z with
  | .bl true => (d c rho h).bind fun w h => op' y w h
  | .bl false => .ok (.bl false) h
  | _ => .bad
variable {d : Expr} {md : Tm} {f f' : CmpOp} {op op' : Val → Val → VH → Out Val}
theorem simE_chain (ho : SimV2 (fun _ => compareOp f) G op) (ho' : SimV2 (fun _ => compareOp f') G op') (ha : SimE G c a ma) (hb : SimE G c b mb) (hd : SimE G c d md) (hm : lastMarks [f, f'] [b, d] = false) : SimE G c (.Compare a [f, f'] [b, d] pos) (eChain op op' ma mb md) := .mk <| by
  intro cfg X g xi pins rho mu vh sg H s Q E S W q
  refine Compare_chain (ha.then g xi S W q fun v vh1 x mu1 H1 u s1 S1 g1 rv1 r1 q1 => chain_link (hb.then g xi S1 (W.from g1) q1 fun v2 vh2 y mu2 H2 u2 s2 S2 g2 rv2 r2 q2 => ?_)) hm
  rw [Out.W_bind] at q2
  refine thn (ho cfg X g pins rho mu2 vh2 sg H2 s2 v v2 x y u u2 _ E S2 (rv1.gro g2.gro) rv2 r1 r2 q2) fun z s3 h3 => ?_
  obtain ⟨vz, vh3, zx, mu3, H3, q3, S3, g3, rv3, r3⟩ := h3
  cases rv3 with
  | bl k =>
    cases r3
    refine wpAny_truthy_bool ?_
    cases k with
    | false => exact ite_ff (EQ.from ((g1.trans g2).trans g3) (EQ.pure S3 (v := .bl false) q3 (.bl _) rfl S3.inv))
    | true =>
      refine ite_tt (chain_last (hd.then g xi S3 (W.from ((g1.trans g2).trans g3)) q3 fun v4 vh4 w mu4 H4 u4 s4 S4 g4 rv4 r4 q4 => ?_))
      exact thn (ho' cfg X g pins rho mu4 vh4 sg H4 s4 v2 v4 y w u2 u4 Q E S4 (rv2.gro (g3.gro.trans g4.gro)) rv4 r2 r4 q4) fun z5 s5 h5 => h5.from (((g1.trans g2).trans g3).trans g4)
  | _ => exact q3.elim
theorem simT_chain (ho : SimV2 (fun _ => compareOp f) G op) (ho' : SimV2 (fun _ => compareOp f') G op') (ha : SimE G c a ma) (hb : SimE G c b mb) (hd : SimE G c d md) (hm : lastMarks [f, f'] [b, d] = false) : SimT G c (.Compare a [f, f'] [b, d] pos) (tVal (eChain op op' ma mb md)) := .mk <| by
  intro cfg X g xi pins rho mu vh sg H s Q E S W q
  unfold tVal eChain at q
  simp only [Out.bind_assoc] at q
  refine isTrue_chain (ha.then g xi S W q fun v vh1 x mu1 H1 u s1 S1 g1 rv1 r1 q1 => test_link (hb.then g xi S1 (W.from g1) q1 fun v2 vh2 y mu2 H2 u2 s2 S2 g2 rv2 r2 q2 => ?_)) hm
  rw [Out.W_bind] at q2
  refine thn (ho cfg X g pins rho mu2 vh2 sg H2 s2 v v2 x y u u2 _ E S2 (rv1.gro g2.gro) rv2 r1 r2 q2) fun z s3 h3 => ?_
  obtain ⟨vz, vh3, zx, mu3, H3, q3, S3, g3, rv3, r3⟩ := h3
  cases rv3 with
  | bl k =>
    cases r3
    refine wpAny_truthy_bool ?_
    cases k with
    | false => exact ite_ff ⟨vh3, mu3, H3, q3, S3, (g1.trans g2).trans g3⟩
    | true =>
      have q3' : ((md cfg rho vh3).bind fun w h => (op' v2 w h).bind fun v h => got (truth v h) h).W Q E := by
        have := q3
        simp only [Out.bind_assoc] at this
        exact this
      refine ite_tt (test_last (hd.then g xi S3 (W.from ((g1.trans g2).trans g3)) q3' fun v4 vh4 w mu4 H4 u4 s4 S4 g4 rv4 r4 q4 => ?_))
      rw [Out.W_bind] at q4
      refine thn (ho' cfg X g pins rho mu4 vh4 sg H4 s4 v2 v4 y w u2 u4 _ E S4 (rv2.gro (g3.gro.trans g4.gro)) rv4 r2 r4 q4) fun z5 s5 h5 => ?_
      obtain ⟨v5, vh5, x5, mu5, H5, q5, S5, g5, rv5, r5⟩ := h5
      obtain ⟨k5, e5, q6⟩ := got_W q5
      exact sim_truth S5 rv5 r5 e5 fun s6 I6 => ⟨vh5, mu5, H5, q6, S5.same I6, (((g1.trans g2).trans g3).trans g4).trans g5⟩
  | _ => exact q3.elim
end
end Pv
end
/-! PvMeth -/
section
set_option Elab.async false
set_option linter.all false
set_option maxRecDepth 100000
set_option autoImplicit false
/-! Pv: methods of lists and texts. -/
namespace Pv
open PySem PySem.Spec PyProof.Rows L2
/-- of which built-in type -/
def tyIs (T : String) (v : Val) (h : VH) : Bool := match v with
  | .str _ => T == "str"
  | .ref l => match h[l]? with
    | some (.lst _) => T == "list"
    | some (.frz _) => T == "list"
    | _ => false
  | _ => false
theorem tyIs_ok {X : Cx} {hot : Option Nat} {pins : List (Addr × Obj)} {rho : Env} {mu : List Addr} {vh : VH} {sg : Sl} {H : Hp} {s : Shared} (S : Sm X hot pins rho mu vh sg H s) {T : String} {v : Val} {x : V} (rv : RV X.K mu H v x) (h : tyIs T v vh = true) : tyV X.K T x H := by
  cases rv with
  | str _ => exact eq_of_beq h
  | ref hl =>
    rename_i l p
    have h' : (match vh[l]? with
      | some (.lst _) => T == "list"
      | some (.frz _) => T == "list"
      | _ => false) = true := h
    split at h'
    · rename_i vs ho
      obtain ⟨xs, e, _⟩ := S.rel.obj l p _ hl ho
      exact .inl ⟨eq_of_beq h', xs, SqL.of e⟩
    · rename_i vs ho
      obtain ⟨xs, e, _⟩ := S.rel.obj l p _ hl ho
      exact .inl ⟨eq_of_beq h', xs, e.sq⟩
    · cases h'
  | _ => cases h
/-- a method, by values -/
def SimMt (id : String) (ok : Cfg → Cx → Prop) (op : Val → List Val → VH → Out Val) : Prop :=
  ∀ (cfg : Cfg) (X : Cx), ok cfg X → ∀ (pins : List (Addr × Obj)) (rho : Env) (mu : List Addr) (vh : VH) (sg : Sl) (H : Hp) (s : Shared) (v : Val) (x : V) (u : Value) (vs : List Val) (xs : List V) (us : List Value) (Q : Val → VH → Prop) (E : Str → Flds → VH → Prop),
    Sm X cfg.hot pins rho mu vh sg H s → RV X.K mu H v x → RelV x u → RVs X.K mu H vs xs → Vals xs us → (op v vs vh).W Q E → wpAny (model X.prog X.w) X.A (call (.builtin id) (u :: us)) (EQ X cfg.hot pins rho mu vh sg H Q) X.xe s
theorem simMt_of {id : String} {ok : Cfg → Cx → Prop} {op : Val → List Val → VH → Out Val} {r : Cx → V → List V → Hp → VK → Prop} (hr : ∀ cfg X, ok cfg X → MtR X id (r X))
    (h : ∀ (cfg : Cfg) (X : Cx), ok cfg X → ∀ (pins : List (Addr × Obj)) (rho : Env) (mu : List Addr) (vh : VH) (sg : Sl) (H : Hp) (s : Shared) (v : Val) (x : V) (vs : List Val) (xs : List V) (Q : Val → VH → Prop) (E : Str → Flds → VH → Prop),
      Sm X cfg.hot pins rho mu vh sg H s → RV X.K mu H v x → RVs X.K mu H vs xs → (op v vs vh).W Q E → r X x xs H (PQ X mu vh H Q)) : SimMt id ok op := by
  intro cfg X k pins rho mu vh sg H s v x u vs xs us Q E S rv ru rvs rus q
  exact thn (hr cfg X k pins s sg H x xs u us (PQ X mu vh H Q) S.inv ru rus (h cfg X k pins rho mu vh sg H s v x vs xs Q E S rv rvs q)) fun z s1 hz => EQ.of S hz
def eMeth (T : String) (op : Val → List Val → VH → Out Val) (o : Tm) (t : Ta) : Tm := fun c rho h => (o c rho h).bind fun v h => if tyIs T v h then (t c rho h).bind fun vs h => op v vs h else .bad
section
variable {G : World'} {c : Sc} {o e : Expr} {es : List Expr} {mo : Tm} {mt : Ta} {apos cpos : Pos} {name : Str} {T id : String} {op : Val → List Val → VH → Out Val}
theorem kw_nil : ([] : List Keyword).length = 0 := rfl
theorem stars_all {es : List Expr} {env : PySem.Env} {pos : Pos} (h : es.all noStar = true) : (backTo pos (starEach es env)).all (fun x => !x.1) = true := by
  induction es with
  | nil => rfl
  | cons e es ih =>
    rw [List.all_cons, Bool.and_eq_true] at h
    rw [starEach_cons h.1]
    show (!false && (backTo pos (starEach es env)).all (fun x => !x.1)) = true
    rw [ih h.2]; rfl
theorem simE_meth (w : Wd G) (pa : PlainAttrs T) (slot : Slot T name id) (hty : typeOf (.builtin id) = pure (.type "method_descriptor")) (hm : SimMt id Rm op) (ho : SimE G c o mo) (ht : SimA G c (e :: es) mt) (hs : (e :: es).all noStar = true) (hfew : decide ((e :: es).length < 30) = true)
    (hbase : ∀ env : PySem.Env, attributeBase o name env (eval o env) = eval o env) (hline : (apos.endLine == cpos.line) = true) : SimE G c (.Call (.Attribute o name apos) (e :: es) [] cpos) (eMeth T op mo mt) := .mk <| by
  intro cfg X g xi pins rho mu vh sg H s Q E S W q
  rw [List.all_cons, Bool.and_eq_true] at hs
  have hst := starEach_cons (e := e) (es := es) (env := X.env) hs.1
  have hall : (e :: es).all noStar = true := by rw [List.all_cons, hs.1, hs.2]; rfl
  refine wpAny_Call_method_late (hbase _) (by
    rw [stars_all hall]
    have := of_decide_eq_true hfew
    show (true && true && decide ((e :: es).length + 0 + 0 < 30)) = true
    rw [decide_eq_true (by omega)]; rfl) hline rfl (ho.then g xi S W q fun v vh1 x mu1 H1 u s1 S1 g1 rv r q1 => ?_)
  split at q1
  · rename_i hT
    obtain ⟨h1, h2⟩ := tyV_is S1.inv r (tyIs_ok S1 rv hT)
    refine ⟨T, id, pa, slot, hty, h1, h2, ?_⟩
    have key := ht.then (pos := cpos) (R := fun us s2 => wpAny (model X.prog X.w) X.A (call (.builtin id) (u :: us)) (EQ X cfg.hot pins rho mu vh sg H Q) X.xe s2) g xi S1 (W.from g1) q1 fun vs vh2 xs mu2 H2 us s2 S2 g2 rvs rs hl q2 =>
      thn (hm cfg X (w.rm cfg X g) pins rho mu2 vh2 sg H2 s2 v x u vs xs us Q E S2 (rv.gro g2.gro) r rvs rs q2) fun z s3 hz => hz.from (g1.trans g2)
    rw [hst] at key ⊢
    exact Calls.callWith_builtin (by show (false || (backTo cpos (starEach es X.env)).any (·.1)) = false; rw [noStars hs.2]; rfl) (Calls.evalArgs_plain key)
  · exact q1.elim
theorem simE_meth0 (w : Wd G) (pa : PlainAttrs T) (slot : Slot T name id) (hty : typeOf (.builtin id) = pure (.type "method_descriptor")) (hm : SimMt id Rm op) (ho : SimE G c o mo)
    (hbase : ∀ env : PySem.Env, attributeBase o name env (eval o env) = eval o env) (hline : (apos.endLine == cpos.line) = true) : SimE G c (.Call (.Attribute o name apos) [] [] cpos) (eMeth T op mo aNil) := .mk <| by
  intro cfg X g xi pins rho mu vh sg H s Q E S W q
  refine wpAny_Call_method0_late (hbase _) hline (ho.then g xi S W q fun v vh1 x mu1 H1 u s1 S1 g1 rv r q1 => ?_)
  split at q1
  · rename_i hT
    obtain ⟨h1, h2⟩ := tyV_is S1.inv r (tyIs_ok S1 rv hT)
    refine ⟨T, id, pa, slot, hty, h1, h2, Calls.callWith_builtin rfl (PySem.evalArgs_none ?_)⟩
    exact thn (hm cfg X (w.rm cfg X g) pins rho mu1 vh1 sg H1 s1 v x u [] [] [] Q E S1 rv r .nil .nil q1) fun z s3 hz => hz.from g1
  · exact q1.elim
end
/-! ### lists -/
def mAppend (o : Val) (vs : List Val) (h : VH) : Out Val := match o, vs with
  | .ref l, [y] => match h[l]? with
    | some (.lst ws) => if ws.length < LIM then .ok .non (h.set l (.lst (ws ++ [y]))) else .bad
    | _ => .bad
  | _, _ => .bad
theorem sim_append : SimMt "list.append" Rm mAppend := simMt_of (fun _ _ _ => mt_append) fun cfg X k pins rho mu vh sg H s v x vs xs Q E S rv rvs q => by
  cases rv with
  | ref hl =>
    rename_i l p
    cases rvs with
    | nil => exact q.elim
    | cons r1 rvs =>
      cases rvs with
      | cons _ _ => exact q.elim
      | nil =>
        rename_i y yx
        have q1 : (match vh[l]? with
          | some (.lst ws) => if ws.length < LIM then .ok .non (vh.set l (.lst (ws ++ [y]))) else .bad
          | _ => .bad : Out Val).W Q E := q
        split at q1
        · rename_i ws ho
          split at q1
          · rename_i hz
            obtain ⟨xs, e1, rr⟩ := S.rel.obj l p _ hl ho
            refine ⟨p, xs, yx, rfl, rfl, e1, ?_, ?_⟩
            · have h1 := rr.length
              have h2 : LIM ≤ sizeLine := LIM_le (Nat.le_refl _)
              omega
            · have gw : Gro mu H mu (upd H p (.lst (xs ++ [yx]))) := Gro.write e1 trivial
              exact ⟨.non, _, mu, q1, S.rel.write hl ho rfl (o' := .lst (ws ++ [y])) ⟨xs ++ [yx], upd_same, (rr.app (.cons r1 .nil)).gro gw⟩ rfl, Ex.write e1 trivial hl ho rfl, .non⟩
          · exact q1.elim
        · exact q1.elim
  | _ => exact q.elim
/-- the first place of an equal one -/
def idxOf (d : PyData) : List PyData → Option Nat
  | [] => none
  | z :: r => if PyData.eqv z d then some 0 else (idxOf d r).map (· + 1)
theorem idxOf_ok {d : PyData} : ∀ {ds : List PyData} {j : Nat}, idxOf d ds = some j → ∃ z, ds[j]? = some z ∧ PyData.eqv z d = true ∧ ∀ (m : Nat) (z' : PyData), m < j → ds[m]? = some z' → PyData.eqv z' d = false
  | [], j, h => by cases h
  | z :: r, j, h => by
    unfold idxOf at h
    split at h
    · rename_i hz
      cases h
      exact ⟨z, rfl, hz, fun m _ hm => absurd hm (Nat.not_lt_zero m)⟩
    · rename_i hz
      obtain ⟨i, hi, rfl⟩ := Option.map_eq_some_iff.mp h
      obtain ⟨z1, h1, h2, h3⟩ := idxOf_ok hi
      refine ⟨z1, h1, h2, fun m z' hm hz' => ?_⟩
      cases m with
      | zero =>
        cases hz'
        simpa using hz
      | succ m => exact h3 m z' (by omega) hz'
def mIndex (o : Val) (vs : List Val) (h : VH) : Out Val := match vs with
  | [y] => match toD DEEP h o, toD DEEP h y with
    | some (.list ds), some d => (got (idxOf d ds) h).bind fun j h => .ok (.int (j : Nat)) h
    | _, _ => .bad
  | _ => .bad
def mCount (o : Val) (vs : List Val) (h : VH) : Out Val := match vs with
  | [y] => match toD DEEP h o, toD DEEP h y with
    | some (.list ds), some d => .ok (.int (ds.countP fun z => PyData.eqv z d : Nat)) h
    | _, _ => .bad
  | _ => .bad
theorem sim_index : SimMt "list.index" Rm mIndex := by
  intro cfg X k pins rho mu vh sg H s v x u vs xs us Q E S rv ru rvs rus q
  cases rvs with
  | nil => exact q.elim
  | cons r1 rvs =>
    cases rvs with
    | cons _ _ => exact q.elim
    | nil =>
      cases rus with
      | cons ry rt =>
        cases rt
        rename_i y yx uy
        have q1 : (match toD DEEP vh v, toD DEEP vh y with
          | some (.list ds), some d => (got (idxOf d ds) vh).bind fun j h => .ok (.int (j : Nat)) h
          | _, _ => .bad : Out Val).W Q E := q
        split at q1
        · rename_i ds d e1 e2
          rw [Out.W_bind] at q1
          obtain ⟨j, ej, q2⟩ := got_W q1
          obtain ⟨z, hz, hzj, hno⟩ := idxOf_ok ej
          obtain ⟨hl, hcl, hdl⟩ := RV.dp S DEEP v _ x e1 rv
          obtain ⟨hy, hcy, hdy⟩ := RV.dp S DEEP y d yx e2 r1
          obtain ⟨bs, r2⟩ := Dp.reads S.inv d yx uy hy ry
          have hu := k.un
          have hxs : PyData.canLayAll0 ds = true := hcl
          have hroom : X.A.units + 1 + min (PyData.depthAll ds) d.depth < cLine := by
            have h1 := Nat.min_le_right (PyData.depthAll ds) d.depth
            have h2 : DEEP = 40 := rfl
            omega
          cases hl with
          | lst hs ha =>
            cases ru
            rename_i a xs
            obtain ⟨its, rv', ⟨⟨cls, dd, data, sls⟩, n, ho, hc, hdn, hdt⟩, hlen⟩ := S.inv.list hs
            simp only at hc hdt
            subst hc hdt
            obtain ⟨as, h4⟩ := Dp.readsAll S.inv ds _ its ha rv'
            have hn : its.length = ds.length := SeqAt.ReadsAll.length ds its as h4
            have hmap : its.map (SeqAt.readOf s.heap) = ds := SeqAt.readsAll_map ds its as hxs h4
            have hvl := rv'.length
            have hsl := sizeLine_eq
            obtain ⟨hjd, _⟩ := List.getElem?_eq_some_iff.mp hz
            have hjl : j < its.length := by omega
            have hj : j < its.toArray.size := by simpa using hjl
            have at_ : ∀ (m : Nat) (hm : m < its.toArray.size) (z' : PyData), ds[m]? = some z' → SeqAt.readOf s.heap its.toArray[m] = z' := by
              intro m hm z' hz'
              have hml : m < its.length := by simpa using hm
              rw [← hmap, List.getElem?_map, List.getElem?_eq_getElem hml] at hz'
              have e1 : SeqAt.readOf s.heap its[m] = z' := Option.some.inj (show some (SeqAt.readOf s.heap its[m]) = some z' from hz')
              simpa using e1
            refine call_meets PySem.F.slot_list_index ⟨_, ho, rfl⟩ PySem.F.entry_list_index (PySem.F.args_list_index_2 _ _)
              (SeqAt.list_indexAt a its.toArray n dd sls uy (fun u => PyData.eqv (SeqAt.readOf s.heap u) d) j hj (by omega) ?_ ?_) ⟨ho, SeqAt.items_eqAt (vs := its.toArray) (show ReadsAll s.heap its.toArray.toList ds as from h4) r2 hxs hcy hroom, ?_⟩
            · show PyData.eqv (SeqAt.readOf s.heap its.toArray[j]) d = true
              rw [at_ j hj z hz]
              exact hzj
            · intro m hm hmj
              have hmd : m < ds.length := by omega
              have hz' : ds[m]? = some ds[m] := List.getElem?_eq_getElem hmd
              show PyData.eqv (SeqAt.readOf s.heap its.toArray[m]) d = false
              rw [at_ m hm _ hz']
              exact hno m _ hmj hz'
            · exact EQ.pure S (v := .int (j : Nat)) q2 (.int _) ⟨_, rfl⟩ (S.inv.tok _)
        · exact q1.elim
theorem sim_count : SimMt "list.count" Rm mCount := by
  intro cfg X k pins rho mu vh sg H s v x u vs xs us Q E S rv ru rvs rus q
  cases rvs with
  | nil => exact q.elim
  | cons r1 rvs =>
    cases rvs with
    | cons _ _ => exact q.elim
    | nil =>
      cases rus with
      | cons ry rt =>
        cases rt
        rename_i y yx uy
        have q1 : (match toD DEEP vh v, toD DEEP vh y with
          | some (.list ds), some d => .ok (.int (ds.countP fun z => PyData.eqv z d : Nat)) vh
          | _, _ => .bad : Out Val).W Q E := q
        split at q1
        · rename_i ds d e1 e2
          obtain ⟨hl, hcl, hdl⟩ := RV.dp S DEEP v _ x e1 rv
          obtain ⟨hy, hcy, hdy⟩ := RV.dp S DEEP y d yx e2 r1
          obtain ⟨bs, r2⟩ := Dp.reads S.inv d yx uy hy ry
          have hu := k.un
          have hxs : PyData.canLayAll0 ds = true := hcl
          have hroom : X.A.units + 1 + min (PyData.depthAll ds) d.depth < cLine := by
            have h1 := Nat.min_le_right (PyData.depthAll ds) d.depth
            have h2 : DEEP = 40 := rfl
            omega
          cases hl with
          | lst hs ha =>
            cases ru
            rename_i a xs
            obtain ⟨its, rv', ⟨⟨cls, dd, data, sls⟩, n, ho, hc, hdn, hdt⟩, hlen⟩ := S.inv.list hs
            simp only at hc hdt
            subst hc hdt
            obtain ⟨as, h4⟩ := Dp.readsAll S.inv ds _ its ha rv'
            have hmap : its.map (SeqAt.readOf s.heap) = ds := SeqAt.readsAll_map ds its as hxs h4
            refine call_meets PySem.F.slot_list_count ⟨_, ho, rfl⟩ PySem.F.entry_list_count (PySem.F.args_list_count_2 _ _)
              (SeqAt.list_countAt a its.toArray n dd sls uy (fun u => PyData.eqv (SeqAt.readOf s.heap u) d)) ⟨ho, SeqAt.items_eqAt (vs := its.toArray) (show ReadsAll s.heap its.toArray.toList ds as from h4) r2 hxs hcy hroom, ?_⟩
            refine EQ.pure S (v := .int ((ds.countP fun z => PyData.eqv z d : Nat))) q1 (.int _) ⟨s.toks, ?_⟩ (S.inv.tok _)
            have e : its.toArray.toList.countP (fun u => PyData.eqv (SeqAt.readOf s.heap u) d) = ds.countP fun z => PyData.eqv z d := by
              rw [← hmap, List.countP_map]
              rfl
            rw [e]
        · exact q1.elim
end Pv
end
/-! PvExcIs -/
section
set_option Elab.async false
set_option linter.all false
set_option maxRecDepth 100000
set_option maxHeartbeats 4000000
/-! Pv: isinstance of the exception that is handled, its fields. -/
namespace PySem.W
open PySem PySem.Spec PySem.Calls PyProof.Rows
section
variable {prog : Program} {w : World} {A : Around} {E : Value → Shared → Prop} {s : Shared} {K : Frag} {x D : Addr} {ox : Obj}
theorem pvFindObj {od : Option Obj} {C : Addr} {name : Str} {a g : Value} (hc : (clsIn K C).isSome = true) (ha : findIn K (.ref C) name = some (some a)) (hg : specialIn K a "__get__" = some (some g)) (ht : takesIn K a = some true) : findObj K C od name = some (.bind g a) := by
  obtain ⟨cd, hc⟩ := Option.isSome_iff_exists.mp hc
  unfold findObj
  rw [hc, Option.bind_some, ha, Option.bind_some]
  simp [hg, ht]
theorem pvClassE {od : Option Obj} {Q : Option Value → Shared → Prop} (hga : findIn K (.ref D) "__getattribute__" = some (some (.builtin "BaseException.__getattribute__"))) (hgt : findIn K (.ref D) "__getattr__" = some none) (hsub : subIn K (.ref D) (.type "BaseException") = some true)
    (hdct : hasDictIn K D = true) (ha : findIn K (.ref D) "__class__" = some (some (.builtin "object.__class__")))
    (hn : specialIn K (.builtin "object.__class__") "__get__" = some (some (.builtin "getset_descriptor.__get__"))) (htk : takesIn K (.builtin "object.__class__") = some true) (hm : mroIn K D (.type "object") = some true)
    (X : K.In s.heap) (I : InstAt s.heap x ox D od) (h : Q (some (.ref D)) { s with toks := s.toks + 1 }) : wpAny (model prog w) A (getAttr? (.ref x) "__class__") Q E s := by
  have hf : findObj K D od "__class__" = some (.bind (.builtin "getset_descriptor.__get__") (.builtin "object.__class__")) := pvFindObj (by obtain ⟨cd, hc, _⟩ := any_some hdct; rw [hc]; rfl) ha hn htk
  obtain ⟨hp, g, d, t, os⟩ := s
  have L0 := I.type (M := model prog w)
  have L1 := looks_findIn (M := model prog w) X hga
  have L2 := looks_findIn (M := model prog w) X hgt
  have L3 := looks_find (M := model prog w) X I hf
  have sub : Looks (model prog w) hp (isInstance (.ref x) (.type "BaseException")) true := L0.andThen (looks_subIn X hsub)
  have hx0 : (false && onTheHeap (Value.builtin "BaseException.__getattribute__")) = false := rfl
  have hx2 : (Value.builtin "BaseException.__getattribute__" == Value.builtin "object.__getattribute__") = false := by decide +kernel
  have hx1 : (onTheHeap (Value.ref D) && Value.builtin "BaseException.__getattribute__" == Value.builtin "object.__getattribute__") = false := by rw [hx2]; rfl
  unfold getAttr? getAttrBy? getAttrBy
  refine wpAny_bind (wpAny_mkText (wpAny_bind (wpAny_attempt (wpAny_holding (wpAny_bind (L0.at (wpAny_bind (L1.at ?_))))))))
  show wpAny _ _ (if (onTheHeap (Value.ref D) && Value.builtin "BaseException.__getattribute__" == Value.builtin "object.__getattribute__") = true then _ else _) _ _ _
  rw [hx1, if_neg Bool.false_ne_true]
  unfold getAttrByItsOwn hookBefore
  refine wpAny_bind ?_
  rw [if_pos (show onTheHeap (Value.ref D) = true from rfl)]
  refine L2.at ?_
  refine wpAny_bind (wpAny_attempt (wpAny_holding ?_))
  unfold callGetattribute
  rw [hx0, if_neg Bool.false_ne_true]
  unfold boundAndCalled
  rw [PySem.F.excAttr_ValueError.ga.bind (.ref x)]
  refine wpAny_bind (wpAny_pure ?_)
  show wpAny _ _ (call (.builtin "BaseException.__getattribute__") [.ref x, .str "__class__" t]) _ _ _
  refine wpAny_call (codeAny_call_builtin PySem.F.excAttr_ValueError.ga.plain PySem.F.entry_bexc_ga ?_)
  refine @check_slot (model prog w) _ _ ⟨hp, g, d, t + 1, os⟩ "BaseException.__getattribute__" "BaseException" "__getattribute__" (.ref x) [.str "__class__" t] [] _ (by decide +kernel) (by decide +kernel) sub (PySem.F.args_bexc_ga (.ref x) (.str "__class__" t)) ?_
  unfold Builtin.«object.__getattribute__»
  refine wpAny_bind (wpAny_of_eq (a := ((Value.ref x : Value), [Value.str "__class__" t])) (by first | rfl | (simp only [slotArgs]; rfl)) ?_)
  refine wpAny_bind (wpAny_pure (wpAny_bind (L0.at (wpAny_bind (L3.at ?_)))))
  show wpAny _ _ (holding [Value.builtin "object.__class__"] (call (.builtin "getset_descriptor.__get__") [.builtin "object.__class__", .ref x, .ref D]) >>= ret) _ _ _
  refine wpAny_bind (wpAny_holding (wpAny_call (class_get (s := ⟨hp, g, d, t + 1, os⟩) (ox := ox) (od := od) X I hm ?_)))
  refine wpAny_pure ?_
  show wpAny _ _ (handedOut (.ref D)) _ _ _
  rw [handedOut_of (v := .ref D) rfl]
  first
    | exact wpAny_pure (wpAny_pure h)
    | exact wpAny_pure h
    | exact wpAny_pure (wpAny_bind (wpAny_pure (wpAny_pure h)))
theorem pvKitx {od : Option Obj} (hga : findIn K (.ref D) "__getattribute__" = some (some (.builtin "BaseException.__getattribute__"))) (hgt : findIn K (.ref D) "__getattr__" = some none) (hsub : subIn K (.ref D) (.type "BaseException") = some true) (hdct : hasDictIn K D = true) (ha : findIn K (.ref D) "__class__" = some (some (.builtin "object.__class__")))
    (hn : specialIn K (.builtin "object.__class__") "__get__" = some (some (.builtin "getset_descriptor.__get__"))) (htk : takesIn K (.builtin "object.__class__") = some true) (hm : mroIn K D (.type "object") = some true) :
    KitX K (.ref x) (.ref D) (fun h => InstAt h x ox D od) where
  ty := fun _ _ _ I => I.type
  it := fun _ _ X _ => by
    obtain ⟨cdD, hcD, _⟩ := any_some hdct
    unfold clsIn at hcD
    split at hcD
    · rename_i c' d' cd' sl' ho
      intro A' Q' E' s' k q
      unfold isType loadHead
      exact wpAny_bind (wpAny_loadPart (k _ _ (X _ _ ho)) (wpAny_pure q))
    · cases hcD
  ne := fun h tp dd its n sl X htp => by
    obtain ⟨cdD, hcD, _⟩ := any_some hdct
    refine Bool.eq_false_iff.mpr fun q => ?_
    have e : D = tp := Value.ref.inj (beq_iff_eq.mp q)
    subst e
    unfold clsIn at hcD
    split at hcD
    · rename_i c' d' cd' sl' ho
      have z := (X _ _ ho).symm.trans htp
      cases z
    · cases hcD
  ca := fun X I k => pvClassE hga hgt hsub hdct ha hn htk hm X I k
end
end PySem.W
set_option autoImplicit false
namespace Pv
open PySem PySem.Spec PyProof.Rows L2
/-- the class that a name stands for, in isinstance -/
def cvOf (K : PySem.W.Frag) (x : Str) : Value := if x = ("ValueError" : Str) then .type "ValueError" else if x = ("LookupError" : Str) then .type "LookupError" else .ref (He.ga K x)
def isxOf (xn : List Str) (c x : Str) : Option Bool := if xn.contains c then (if x = ("ValueError" : Str) then some (nestNames.contains c) else if x = ("LookupError" : Str) then some (absentNames.contains c) else subOf xn c x) else none
def fieldNames : List Str := ["at", "many", "most", "row", "left", "term", "one", "other"]
structure ExIs (Y : Sys) (xn : List Str) : Prop where
  kit : ∀ c x b, isxOf xn c x = some b → PySem.W.kitOne Y.K (.ref (He.ga Y.K c)) (cvOf Y.K x) = some b
  cls : ∀ c ∈ xn, ExcC Y.K (He.ga Y.K c)
  fld : ∀ c ∈ xn, ∀ f ∈ fieldNames, PySem.W.findIn Y.K (.ref (He.ga Y.K c)) f = some none
def hotX (c : Cfg) (v : Val) (h : VH) : Option (Str × Flds) := match v with
  | .ref l => match h[l]? with
    | some (.exo n fs) => if c.hot = some l then some (n, fs) else none
    | some (.xob n fs) => some (n, fs)
    | _ => none
  | _ => none
def eIsx (xn : List Str) (x : Str) (a : Tm) : Tm := fun c rho h => (a c rho h).bind fun v h => (got ((hotX c v h).bind fun p => isxOf xn p.1 x) h).bind fun b h => .ok (.bl b) h
def eXf (xn : List Str) (f : Str) (a : Tm) : Tm := fun c rho h => (a c rho h).bind fun v h => got ((hotX c v h).bind fun p => if xn.contains p.1 && fieldNames.contains f then p.2.lookup f else none) h
section
variable {Y : Sys} {c : Sc} {a : Expr} {ma : Tm} {pos p p2 : Pos} {x f : Str} {xn : List Str}
/-- the handled exception, as it stands -/
theorem hot_at {cfg : Cfg} {X : Cx} {pins : List (Addr × Obj)} {rho : Env} {mu : List Addr} {vh : VH} {sg : Sl} {H : Hp} {s : Shared} {v : Val} {y : V} {u : Value} {q : Str × Flds} (S : Sm X cfg.hot pins rho mu vh sg H s) (rv : RV X.K mu H v y) (r : RelV y u) (e : hotX cfg v vh = some q) :
    ∃ ad od ox, u = .ref ad ∧ PySem.W.InstAt s.heap ad ox (He.ga X.K q.1) od ∧ (∀ f z, q.2.lookup f = some z → ∃ zx u, RV X.K mu H z zx ∧ RelV zx u ∧ ∃ o, od = some o ∧ PySem.W.lookIn f o = some (some u)) := by
  cases rv with
  | ref hl =>
    rename_i l ad
    have e' : (match vh[l]? with
      | some (.exo n fs) => if cfg.hot = some l then some (n, fs) else none
      | some (.xob n fs) => some (n, fs)
      | _ => none) = some q := e
    cases ho : vh[l]? with
    | none => rw [ho] at e'; cases e'
    | some o =>
      rw [ho] at e'
      cases o with
      | exo n fs =>
        dsimp only at e'
        split at e'
        · rename_i hh
          cases e'
          cases r
          have hx := S.hot
          rw [hh] at hx
          obtain ⟨⟨pa, po⟩, c', fs', hp, h2, h3, h4, h5, h6⟩ := hx
          rw [hl] at h3
          cases h3
          rw [ho] at h4
          cases h4
          obtain ⟨hget, _⟩ := S.inv.pin (pa, po) (List.mem_append_left _ hp)
          obtain ⟨_, vs, hd, _⟩ := h2
          rcases h6 with ⟨rfl, hn⟩ | ⟨dx, xs, hn, hxd, hf⟩
          · refine ⟨pa, none, po, rfl, ⟨hget, h5, by unfold PySem.W.notCls; rw [hd] <;> rfl, by rw [hn]; trivial⟩, fun f z hz => by cases hz⟩
          · have hx : ObjOk X.prog X.w H s.heap dx (.xd xs) := S.inv.hok dx _ hxd
            obtain ⟨mA, hns, hr⟩ := hx
            obtain ⟨od, ho2, hl2⟩ := lookIn_ns hns
            refine ⟨pa, some od, po, rfl, ⟨hget, h5, by unfold PySem.W.notCls; rw [hd] <;> rfl, by rw [hn]; exact ho2⟩, fun f z hz => ?_⟩
            rcases RP.lookup (R := RV X.K mu H) hf f with ⟨z1, zx, a1, a2, a3⟩ | ⟨a1, _⟩
            · rw [hz] at a1
              cases a1
              obtain ⟨u, hu, ru⟩ := RelO.some_of (v := zx) (o := mA f) (by rw [← a2]; exact hr f)
              exact ⟨zx, u, a3, ru, od, rfl, by rw [hl2, hu]⟩
            · rw [hz] at a1; cases a1
        · cases e'
      | xob n fs =>
        cases e'
        cases r
        obtain ⟨od, he, h6⟩ := S.rel.obj l ad _ hl ho
        obtain ⟨t1, hget⟩ := exo_at S.inv.hok he
        rcases h6 with ⟨rfl, rfl⟩ | ⟨dx, xs, rfl, hxd, hf⟩
        · exact ⟨ad, none, _, rfl, ⟨hget, rfl, rfl, trivial⟩, fun f z hz => by cases hz⟩
        · have hx : ObjOk X.prog X.w H s.heap dx (.xd xs) := S.inv.hok dx _ hxd
          obtain ⟨mA, hns, hr⟩ := hx
          obtain ⟨od, ho2, hl2⟩ := lookIn_ns hns
          refine ⟨ad, some od, _, rfl, ⟨hget, rfl, rfl, ho2⟩, fun f z hz => ?_⟩
          rcases RP.lookup (R := RV X.K mu H) hf f with ⟨z1, zx, a1, a2, a3⟩ | ⟨a1, _⟩
          · rw [hz] at a1
            cases a1
            obtain ⟨u, hu, ru⟩ := RelO.some_of (v := zx) (o := mA f) (by rw [← a2]; exact hr f)
            exact ⟨zx, u, a3, ru, od, rfl, by rw [hl2, hu]⟩
          · rw [hz] at a1; cases a1
      | _ => cases e'
  | _ => cases e
theorem isx_call (ex : ExIs Y xn) {cfg : Cfg} {X : Cx} (g : Y.G cfg X) {pins : List (Addr × Obj)} {rho : Env} {mu : List Addr} {vh : VH} {sg : Sl} {H : Hp} {s : Shared} {v : Val} {y : V} {u : Value} {Q : Val → VH → Prop} {E : Str → Flds → VH → Prop} (S : Sm X cfg.hot pins rho mu vh sg H s) (rv : RV X.K mu H v y) (r : RelV y u)
    (q : ((got ((hotX cfg v vh).bind fun p => isxOf xn p.1 x) vh).bind fun b h => .ok (.bl b) h : Out Val).W Q E) : wpAny (model X.prog X.w) X.A (call (.builtin "isinstance") [u, cvOf Y.K x]) (EQ X cfg.hot pins rho mu vh sg H Q) X.xe s := by
  rw [Out.W_bind] at q
  obtain ⟨b, e, q2⟩ := got_W q
  cases eh : hotX cfg v vh with
  | none => rw [eh] at e; cases e
  | some pr =>
    rw [eh] at e
    have e : isxOf xn pr.1 x = some b := e
    obtain ⟨ad, od, ox, rfl, J, _⟩ := hot_at S rv r eh
    have hm : pr.1 ∈ xn := by
      unfold isxOf at e
      split at e
      · rename_i h; simpa using h
      · cases e
    have K1 := g.K
    have C := ex.cls _ hm
    rw [K1] at J
    exact PySem.W.kia_one (PySem.W.pvKitx C.hg C.hk C.hs C.hd C.ha C.hn C.ht C.hm) (by rw [← K1]; exact S.inv.kIn) J (ex.kit _ _ _ e) (fun z => nomatch z) fun tk => EQ.pure (v := .bl b) S q2 (.bl _) rfl (S.inv.tok tk)
theorem simE_isx (w : Wd Y.G) (ex : ExIs Y xn) (ha : SimE Y.G c a ma) (hs : noStar a = true) (hg : c.sc.names.lookup ("isinstance" : Str) = some .globalImplicit) (hg2 : gloB c x = true) (hm : Y.mg x = some (.ref (He.ga Y.K x))) (hx1 : x ≠ ("ValueError" : Str)) (hx2 : x ≠ ("LookupError" : Str)) :
    SimE Y.G c (.Call (.Name "isinstance" p) [a, .Name x p2] [] pos) (eIsx xn x ma) := .mk <| by
  intro cfg X g xi pins rho mu vh sg H s Q E S W q
  have gl : ∀ y, c.sc.names.lookup y = some .globalImplicit → Gl X y := fun y hy => by show X.env.scope.names.lookup y = _; rw [xi.sc]; exact hy
  refine wpAny_Call_Name_kw (ld_blt S.inv (gl _ hg) (w.bl cfg X g _ (by decide +kernel)) (u := .builtin "isinstance") (by decide +kernel) ?_ (by decide) (by decide))
  refine PyProof.Rows.callWith_builtin1 (e := a) (rest := [.Name x p2]) ?_ (starEach_cons hs) (by rfl)
  rw [starEach_cons hs]
  refine Calls.spliced_cons (ha.then g xi S W q fun v vh1 y mu1 H1 u s1 S1 g1 rv r q1 => ?_)
  obtain ⟨h1, h2⟩ := gloB_ok hg2
  refine Calls.spliced_cons (ld_glob S1.inv (gl _ h1) (by rw [g.mg]; exact hm) (Calls.spliced_nil ?_) h2)
  have e : cvOf Y.K x = .ref (He.ga Y.K x) := by unfold cvOf; rw [if_neg hx1, if_neg hx2]
  rw [← e]
  exact thn (isx_call ex g S1 rv r q1) fun z s2 hz => hz.from g1
theorem simE_isxB {T : String} (w : Wd Y.G) (ex : ExIs Y xn) (ha : SimE Y.G c a ma) (hs : noStar a = true) (hg : c.sc.names.lookup ("isinstance" : Str) = some .globalImplicit) (hg2 : c.sc.names.lookup x = some .globalImplicit) (hm : x ∈ bnames) (hv : bootBuiltins x = some (.type T)) (hc : cvOf Y.K x = .type T) (hn : x ≠ "__name__") (hdb : (x == ("__debug__" : Str)) = false) :
    SimE Y.G c (.Call (.Name "isinstance" p) [a, .Name x p2] [] pos) (eIsx xn x ma) := .mk <| by
  intro cfg X g xi pins rho mu vh sg H s Q E S W q
  have gl : ∀ y, c.sc.names.lookup y = some .globalImplicit → Gl X y := fun y hy => by show X.env.scope.names.lookup y = _; rw [xi.sc]; exact hy
  refine wpAny_Call_Name_kw (ld_blt S.inv (gl _ hg) (w.bl cfg X g _ (by decide +kernel)) (u := .builtin "isinstance") (by decide +kernel) ?_ (by decide) (by decide))
  refine PyProof.Rows.callWith_builtin1 (e := a) (rest := [.Name x p2]) ?_ (starEach_cons hs) (by rfl)
  rw [starEach_cons hs]
  refine Calls.spliced_cons (ha.then g xi S W q fun v vh1 y mu1 H1 u s1 S1 g1 rv r q1 => ?_)
  refine Calls.spliced_cons (ld_blt S1.inv (gl _ hg2) (w.bl cfg X g x hm) hv (Calls.spliced_nil ?_) hn hdb)
  rw [← hc]
  exact thn (isx_call ex g S1 rv r q1) fun z s2 hz => hz.from g1
theorem simE_xf (ex : ExIs Y xn) (ha : SimE Y.G c a ma) (hb : ∀ env : PySem.Env, attributeBase a f env (eval a env) = eval a env) : SimE Y.G c (.Attribute a f pos) (eXf xn f ma) := .mk <| by
  intro cfg X g xi pins rho mu vh sg H s Q E S W q
  refine attr_of (hb _) (ha.then g xi S W q fun v vh1 y mu1 H1 u s1 S1 g1 rv r q1 => ?_)
  obtain ⟨z, e, q2⟩ := got_W q1
  cases eh : hotX cfg v vh1 with
  | none => rw [eh] at e; cases e
  | some pr =>
    rw [eh] at e
    have e : (if xn.contains pr.1 && fieldNames.contains f then pr.2.lookup f else none) = some z := e
    split at e
    · rename_i hc
      rw [Bool.and_eq_true] at hc
      obtain ⟨ad, od, ox, rfl, J, hf⟩ := hot_at S1 rv r eh
      obtain ⟨zx, u, rz, ru, o, rfl, hl⟩ := hf f z e
      have K1 := g.K
      have C := ex.cls pr.1 (by simpa using hc.1)
      have hno := ex.fld pr.1 (by simpa using hc.1) f (by simpa using hc.2)
      rw [K1] at J
      exact HandSPX.exc_get (by rw [← K1]; exact S1.inv.kIn) J C.hg C.hk C.hs (PySem.W.findObj_own C.hd hno rfl hl) (handed_of ru) (EQ.from g1 (EQ.pure S1 q2 rz ru (S1.inv.tok _)))
    · cases e
end
end Pv
end
/-! PvSet -/
section
set_option Elab.async false
set_option linter.all false
set_option maxRecDepth 100000
set_option maxHeartbeats 2000000
/-! Pv: set comprehensions of keys. -/
namespace PvSet
open PySem PySem.Spec PyProof.Rows L2 PpSet
theorem setK_fresh {h : Heap} (P : Program) (w : World) : (h.push { cls := .type "set", dict := none, data := .set #[] 0 (.fresh 0 0 (!w.params.followText "set-order")) }).SetOf (mixKind P w) h.objs.size (fun _ => false) 0 :=
  ⟨_, #[], 0, _, Heap.get?_push_size _ rfl, ⟨rfl, rfl, rfl⟩, rfl, (fun e he => by simp at he), (fun k => by simp), (by decide), (by rfl), rfl⟩
section
variable {X : Cx}
theorem addK_ok {pins : List (Addr × Obj)} {σ : L2.St} {H : Hp} {s : Shared} {E : Value → Shared → Prop} {D : Addr} {S : Key → Bool} {n : Nat} {y : Key} {u : Value} {Q : Value → Shared → Prop} (I : Inv X pins σ H s) (hD : H D = some (SetK X.prog X.w D S n)) (room : n + 1 < scanBound) (ry : RelV (kV y) u)
    (h : ∀ s', Inv X pins σ (upd H D (SetK X.prog X.w D (fun j => S j || decide (j = y)) (if S y = true then n else n + 1))) s' → Q .none s') : wpAny (model X.prog X.w) X.A (call (.builtin "set.add") [.ref D, u]) Q E s := by
  refine call_set_add (kV_is ry) (key_scan ry) (setK_get I hD) room fun h' sb new => ?_
  have he : ∃ u, h'.get? D = some u := by
    have ⟨o, _, _, _, ho, _⟩ := new
    exact ⟨o, ho⟩
  exact h _ (I.write (e := D) (t' := s.toks + 1) (by rw [hD]; trivial) (.inl rfl) (fun b u hb hu => (sb.2 b hb).trans hu) he (setK_new new))
def tScK (P : Program) (w : World) (wi : TI) (g : TG) (tt : TT) (te : TE) (vs : List Nat) : TE := fun σ H Q => wi σ H fun J H1 => ∀ D, H1 D = none → ∃ W : Nat → Nat → Hp → Prop, (∃ m, W 0 m (upd H1 D (SetK P w D (fun _ => false) 0))) ∧ ∀ i m H, W i m H →
  (J.stop i H ∧ Q (.ref D) H) ∨ (J.go i H ∧ ∃ Nx : Hp → Prop, (∀ H', Nx H' → ∃ m', m' < m ∧ W (i + 1) m' H') ∧ ∀ x H', J.yld i H x H' → g x (wipe σ vs) H' fun σ2 H2 => wipe σ2 vs = wipe σ vs ∧ tt σ2 H2 fun b H3 =>
    if b = true then te σ2 H3 fun y H4 => ∃ (c : Key) (S : Key → Bool) (n : Nat), y = kV c ∧ H4 D = some (SetK P w D S n) ∧ n + 1 < scanBound ∧ Nx (upd H4 D (SetK P w D (fun j => S j || decide (j = c)) (if S c = true then n else n + 1))) else Nx H3)
theorem sc_coreK {pins : List (Addr × Obj)} {s : Shared} {σ : L2.St} {H : Hp} {Q : VK} {elt tg iter : Expr} {ifs : List Expr} {scope : Scope} {own : List (PySem.Str × Nat)} {pos pos' : Pos} {wi : TI} {g : TG} {tt : TT} {te : TE} {use : Option (Value → Sem Unit)} {Qf : Value → Shared → Prop}
    (hc : X.calm = true) (hN : X.N.Nodup) (I : Inv X pins σ H s) (hi : PI X tg iter wi) (ok : BlkOk X.N X.env.scope scope own)
    (hg : ∀ (s : Shared) (H : Hp) (C : Addr) (cl : List (PySem.Str × Addr)) (fp : List Addr), PG (X.blk s H scope (compEnvC scope cl C X.env) fp) tg g) (ht : ∀ (s : Shared) (H : Hp) (C : Addr) (cl : List (PySem.Str × Addr)) (fp : List Addr), PTs (X.blk s H scope (compEnvC scope cl C X.env) fp) ifs tt)
    (he : ∀ (s : Shared) (H : Hp) (C : Addr) (cl : List (PySem.Str × Addr)) (fp : List Addr), PE (X.blk s H scope (compEnvC scope cl C X.env) fp) elt te) (hs : ∀ x, foldedSetIterable iter X.env x = pure x)
    (h : tScK X.prog X.w wi g tt te (own.map (·.2)) σ H Q)
    (hRR : ∀ D C s' m H', Inv X pins σ H' s' → Q (.ref D) H' → s'.heap.Ns C m → FpOk X pins H' C → compPost (model X.prog X.w) X.A X.xe use Qf (.ref D) C (.ok .next) s') :
    wpAny (model X.prog X.w) X.A (comprehension (.SetComp elt [⟨tg, iter, ifs, 0⟩] scope pos) scope X.env pos' (newSet (.type "set")) false (eval iter X.env) use) Qf X.xe s := by
  have hfree : ∀ y ∈ scope.names, y.2 = .free → ∃ c, X.env.cells.lookup y.1 = some c := fun y hy e => by
    rcases ok.free y hy e with k | k
    · exact I.ok.has _ (.inl k)
    · exact I.ok.has _ (.inr k)
  refine wpAny_comprehension_free (use := use) rfl hs (closure_ok hfree) ok.kind (fun y hy e => by rw [ok.uniq y hy, e])
    (thn (hi.run pins s σ H _ I h) fun xv s1 hx => thn hx fun itv s2 h2 => ?_)
  obtain ⟨it, fp, tn, J, H2, e, I2, T, st2, f2, q⟩ := h2
  subst e
  refine newSet_ok (newEnv_comp ?_)
  generalize hD : s2.heap.objs.size = D
  have hDn : H2 D = none := I2.hok.fresh (Nat.le_of_eq hD)
  obtain ⟨W, ⟨m0, w0⟩, turn⟩ := q D hDn
  -- the new list
  generalize hs3 : ({ s2 with heap := s2.heap.push { cls := .type "set", dict := none, data := .set #[] 0 (.fresh 0 0 (!X.w.params.followText "set-order")) } } : Shared) = s3
  have I3 : Inv X pins σ (upd H2 D (SetK X.prog X.w D (fun _ => false) 0)) s3 := by
    rw [← hs3]
    refine I2.laid (t' := s2.toks) (fun b o e => Heap.get?_push_of_some _ e) (Nat.le_of_eq hD) ?_
    rw [← hD]
    exact setK_new (setK_fresh X.prog X.w)
  have h3 : s3.heap = s2.heap.push { cls := .type "set", dict := none, data := .set #[] 0 (.fresh 0 0 (!X.w.params.followText "set-order")) } := by rw [← hs3]
  have sz : ∀ b ∈ fp, b < s2.heap.objs.size := fun b hb => by
    obtain ⟨o, e, _⟩ := T.obj _ _ st2 b hb
    exact Heap.lt_size e
  have f3 : ∀ b ∈ fp, FpOk X pins (upd H2 D (SetK X.prog X.w D (fun _ => false) 0)) b ∧ b < s3.heap.objs.size := fun b hb => by
    have hlt := sz b hb
    refine ⟨⟨?_, (f2 b hb).2⟩, by rw [h3, Heap.size_push]; exact Nat.lt_succ_of_lt hlt⟩
    rw [upd_ne (by rw [← hD]; exact Nat.ne_of_lt hlt)]
    exact (f2 b hb).1
  have st3 : tn 0 s3.heap := T.keep _ _ _ st2 fun b _ o e => by rw [h3]; exact Heap.get?_push_of_some _ e
  have I4 := block_start I3 ok hN f3
  have pg := hg s3 (upd H2 D (SetK X.prog X.w D (fun _ => false) 0)) s3.heap.objs.size (cellsFrom (s3.heap.objs.size + 1) scope.names (cloFrom X.env.cells scope.names [])) fp
  have pt := ht s3 (upd H2 D (SetK X.prog X.w D (fun _ => false) 0)) s3.heap.objs.size (cellsFrom (s3.heap.objs.size + 1) scope.names (cloFrom X.env.cells scope.names [])) fp
  have pe := he s3 (upd H2 D (SetK X.prog X.w D (fun _ => false) 0)) s3.heap.objs.size (cellsFrom (s3.heap.objs.size + 1) scope.names (cloFrom X.env.cells scope.names [])) fp
  show codeAny _ _ (.compStart (.SetComp elt [⟨tg, iter, ifs, 0⟩] scope pos) 0 (.ref it) (.ref D) (compEnvC scope (cellsFrom (s3.heap.objs.size + 1) scope.names (cloFrom X.env.cells scope.names [])) s3.heap.objs.size X.env)) (compPost (model X.prog X.w) X.A X.xe use Qf (.ref D) s3.heap.objs.size) { s3 with heap := pushCells (s3.heap.push { cls := .type "dict", data := .dict #[] }) scope.names }
  have nfp : ∀ b ∈ fp, (upd H2 D (SetK X.prog X.w D (fun _ => false) 0)) b = none := fun b hb => (f3 b hb).1.1
  generalize hce : compEnvC scope (cellsFrom (s3.heap.objs.size + 1) scope.names (cloFrom X.env.cells scope.names [])) s3.heap.objs.size X.env = ce at I4 pg pt pe ⊢
  have cL : ce.locals = s3.heap.objs.size := by subst hce; rfl
  generalize hH3 : upd H2 D (SetK X.prog X.w D (fun _ => false) 0) = H3 at I3 I4 pg pt pe w0 nfp f3
  generalize hs4 : ({ s3 with heap := pushCells (s3.heap.push { cls := .type "dict", data := .dict #[] }) scope.names } : Shared) = s4 at I4 ⊢
  have st4 : tn 0 s4.heap := T.keep _ _ _ st3 fun b _ o e => by rw [← hs4]; exact pushCells_keeps _ _ _ _ (Heap.get?_push_of_some _ e)
  have stat : ∀ {σ' : L2.St} {H' : Hp} {s' : Shared}, Inv (X.blk s3 H3 scope ce fp) [] σ' H' s' → (∀ b ∈ fp, H' b = none) → ∀ b ∈ fp, FpOk (X.blk s3 H3 scope ce fp) [] H' b := fun {σ' H' s'} I' hn b hb =>
    ⟨hn b hb, (I'.ok.exf b hb).1, I'.ok.exfs b hb, .inl hb, fun x c e => (I'.ok.exf b hb).2 x c e, fun p hp => absurd (show p ∈ ([] : List (Addr × Obj)) ++ [] from hp) (by simp)⟩
  have loop : codeAny (model X.prog X.w) X.A (.compLoop (.SetComp elt [⟨tg, iter, ifs, 0⟩] scope pos) 0 (.ref it) (.ref D) ce) (compPost (model X.prog X.w) X.A X.xe use Qf (.ref D) s3.heap.objs.size) s4 := by
    refine compLoopS_any (fun n s' => ∃ i H', Inv (X.blk s3 H3 scope ce fp) [] (wipe σ (own.map (·.2))) H' s' ∧ tn i s'.heap ∧ (∀ b ∈ fp, H' b = none) ∧ W i n H') ?_ m0 ⟨0, H3, I4, st4, nfp, w0⟩
    rintro n s5 ⟨i, H5, I5, st5, n5, w5⟩
    rcases turn i n H5 w5 with ⟨stop, qq⟩ | ⟨go, Nx, hNx, step⟩
    · have td := T.done (X.blk s3 H3 scope ce fp) rfl rfl rfl hc i [] s5 _ H5 (fun _ _ => False) I5 (stat I5 n5) st5 stop
      refine thnF td fun r s6 ⟨hr, I6⟩ => ?_
      subst hr
      -- back in the def's context
      have I7 : Inv X pins σ H5 s6 := I3.call' (ch := fp) I6.os I6.base I6.hok I6.bare fun b hb => ⟨(f3 b hb).1.2.2.2.1, (f3 b hb).1.2.1, (f3 b hb).1.2.2.2.2.1, (f3 b hb).1.2.2.2.2.2⟩
      have nC : H5 s3.heap.objs.size = none := by
        have z : H5 ce.locals = none := I6.free
        rw [cL] at z
        exact z
      obtain ⟨m, hn, _⟩ := I6.loc
      have hn : s6.heap.Ns ce.locals m := hn
      rw [cL] at hn
      exact hRR D s3.heap.objs.size s6 m H5 I7 qq hn (I3.fpOk (Nat.le_refl _) nC)
    · have ti := T.item (X.blk s3 H3 scope ce fp) rfl rfl rfl hc i [] s5 _ H5 (fun _ _ => False) I5 (stat I5 n5) st5 go
      refine thnF ti fun r s6 ⟨u, hr, h6⟩ => ?_
      subst hr
      refine thnF h6 fun _ s7 ⟨x, H7, I7, r7, y7, st7, n7⟩ => ?_
      have I7' := I7.pinned (stat I7 n7) (T.obj _ _ st7)
      refine thnF (pg.run _ s7 _ H7 x u _ I7' r7 (step x H7 y7)) fun _ s8 ⟨σ8, H8, I8, hw8, q8⟩ => ?_
      refine thnF (pt.run _ s8 σ8 H8 _ I8 q8) fun b s9 ⟨H9, I9, q9⟩ => ?_
      -- the turn's end
      have fin : ∀ {s' : Shared} {H' : Hp}, Inv (X.blk s3 H3 scope ce fp) ([] ++ pinsAt fp s7.heap) σ8 H' s' → Nx H' → ∃ m, m < n ∧ ∃ i H', Inv (X.blk s3 H3 scope ce fp) [] (wipe σ (own.map (·.2))) H' s' ∧ tn i s'.heap ∧ (∀ b ∈ fp, H' b = none) ∧ W i m H' := fun {s' H'} I' nx => by
        obtain ⟨m', hm, w'⟩ := hNx H' nx
        have pin' : ∀ b ∈ fp, ∀ o, s7.heap.get? b = some o → s'.heap.get? b = some o ∧ H' b = none := fun b hb o e =>
          let z := I'.pin (b, o) (List.mem_append_right _ (List.mem_append_right _ (mem_pinsAt hb e)))
          ⟨z.1, z.2.1⟩
        have hl : (wipe σ (own.map (·.2))).length = σ8.length := by rw [← hw8, wipe_length]
        refine ⟨m', hm, i + 1, H', (I'.unpinned (pins := [])).weak hl (fun j v e => ?_), T.keep _ _ _ st7 fun b hb o e => (pin' b hb o e).1, fun b hb => ?_, w'⟩
        · rw [← hw8] at e
          exact (wipe_some e).1
        · obtain ⟨o, e, _⟩ := T.obj _ _ st7 b hb
          exact (pin' b hb o e).2
      cases b with
      | false =>
        simp only [Bool.false_eq_true, if_false] at q9 ⊢
        exact fin I9 q9
      | true =>
        simp only [if_true] at q9 ⊢
        refine thnF (pe.run _ s9 σ8 H9 _ I9 q9) fun z s10 ⟨yv, H10, I10, r10, cb, S0, n0, ey, hD10, hz10, nx⟩ => ?_
        subst ey
        exact addK_ok (X := X.blk s3 H3 scope ce fp) I10 hD10 hz10 r10 fun s11 I11 => fin I11 nx
  exact codeAny_compStart_set loop (T.self X.A 0 _ _ _ st4 loop)
/-- as a value -/
theorem pe_scK {elt tg iter : Expr} {ifs : List Expr} {scope : Scope} {own : List (PySem.Str × Nat)} {pos : Pos} {wi : TI} {g : TG} {tt : TT} {te : TE} (hc : X.calm = true) (hN : X.N.Nodup) (hi : PI X tg iter wi) (ok : BlkOk X.N X.env.scope scope own)
    (hg : ∀ (s : Shared) (H : Hp) (C : Addr) (cl : List (PySem.Str × Addr)) (fp : List Addr), PG (X.blk s H scope (compEnvC scope cl C X.env) fp) tg g) (ht : ∀ (s : Shared) (H : Hp) (C : Addr) (cl : List (PySem.Str × Addr)) (fp : List Addr), PTs (X.blk s H scope (compEnvC scope cl C X.env) fp) ifs tt)
    (he : ∀ (s : Shared) (H : Hp) (C : Addr) (cl : List (PySem.Str × Addr)) (fp : List Addr), PE (X.blk s H scope (compEnvC scope cl C X.env) fp) elt te) (hs : ∀ x, foldedSetIterable iter X.env x = pure x := by intro _; rfl) :
    PE X (.SetComp elt [⟨tg, iter, ifs, 0⟩] scope pos) (tScK X.prog X.w wi g tt te (own.map (·.2))) := by
  refine ⟨fun pins s σ H Q I h => ?_⟩
  rw [eval_SetComp]
  refine sc_coreK hc hN I hi ok hg ht he hs h fun D C s' m H' I' q hn f => ⟨m, hn, fun h'' sb => ?_⟩
  obtain ⟨f0, f1, f2, f3, f4, f5⟩ := f
  exact ⟨.ref D, H', I'.turned (t' := s'.toks) (fun b o hb e => (sb.2 b hb).trans e) f0 f1 f3 f4 f5, rfl, q⟩
end
end PvSet
end
/-! PvLenSet -/
section
set_option Elab.async false
set_option linter.all false
set_option maxRecDepth 100000
set_option autoImplicit false
/-! Pv: len of a set comprehension of keys. -/
namespace Pv
open PySem PySem.Spec PyProof.Rows L2 PvSet PpSet
instance keyMem (k : Key) (acc : List Key) : Decidable (k ∈ acc) := match h : acc.any fun j => decide (j = k) with
  | true => .isTrue (by
    obtain ⟨j, hj, e⟩ := List.any_eq_true.mp h
    rw [← of_decide_eq_true e]; exact hj)
  | false => .isFalse fun hm => by
    have : (acc.any fun j => decide (j = k)) = true := List.any_eq_true.mpr ⟨k, hm, decide_eq_true rfl⟩
    rw [h] at this; cases this
def addsK (acc : List Key) : List Key → List Key
  | [] => acc
  | k :: r => addsK (if k ∈ acc then acc else acc ++ [k]) r
def keysL : List Val → Option (List Key)
  | [] => some []
  | v :: r => match leafKey v, keysL r with
    | some k, some ks => some (k :: ks)
    | _, _ => none
def eLenSc (src : Ti) (own : List Nat) (g : Tg) (t : Tt) (e : Tm) : Tm := fun c rho h => if c.hot.isSome then .bad else
  (src c rho h).bind fun p h => if p.2.length ≤ 4000 then (lcL p.1 g t e c (wipeE rho own) p.2 h).bn fun ys h => match keysL ys with
    | some ks => .ok (.int ((addsK [] ks).length : Nat)) h
    | none => .bad else .bad
theorem addsK_le : ∀ (ks acc : List Key), acc.length ≤ (addsK acc ks).length
  | [], acc => Nat.le_refl _
  | k :: r, acc => by
    unfold addsK
    split
    · exact addsK_le r acc
    · refine Nat.le_trans ?_ (addsK_le r (acc ++ [k]))
      rw [List.length_append]; omega
section
variable {G : World'} {c : Sc}
theorem keyV {K : PySem.W.Frag} {mu : List Addr} {H : Hp} {v : Val} {x : V} {k : Key} (r : RV K mu H v x) (e : leafKey v = some k) : x = kV k := by
  cases r with
  | int i => cases e; rfl
  | str h => cases e; rfl
  | _ => cases e
theorem upd_ext_gro {mu : List Addr} {H : Hp} {D : Addr} {u : HO} {φ : Heap → Prop} (hD : H D = some (.ext φ)) : Gro mu H mu (upd H D u) := Gro.write hD trivial
theorem Rel.asideX {P : Program} {w : World} {K : PySem.W.Frag} {mu : List Addr} {vh : VH} {H : Hp} (R : Rel P w K mu vh H) {D : Addr} {φ : Heap → Prop} {u : HO} (hD : H D = some (.ext φ)) (ap : Apt mu vh D) : Rel P w K mu vh (upd H D u) :=
  ⟨R.len, R.inj, fun i a o h1 h2 => RO.gro (upd_ext_gro hD) (R.obj i a o h1 h2) fun m => upd_ne fun z => by
    subst z
    have := ap i o h1 h2
    rw [this] at m; cases m⟩
theorem Ex.asideX {m1 mu : List Addr} {v1 vh : VH} {H1 H : Hp} {D : Addr} {φ : Heap → Prop} {u : HO} (e : Ex m1 v1 H1 mu vh H) (h1 : H1 D = none) (hD : H D = some (.ext φ)) : Ex m1 v1 H1 mu vh (upd H D u) :=
  ⟨e.gro.trans (upd_ext_gro hD), e.exo, e.fresh, fun _ h => e.dom _ (upd_none h), fun a u h k => let ⟨h2, k2⟩ := e.rest a u h k; ⟨(upd_ne (ne_of_none h h1)).trans h2, k2⟩⟩
theorem keysL_cons {v : Val} {r : List Val} {ks : List Key} (h : keysL (v :: r) = some ks) : ∃ k kr, leafKey v = some k ∧ keysL r = some kr ∧ ks = k :: kr := by
  unfold keysL at h
  split at h
  · rename_i k kr h1 h2
    cases h
    exact ⟨k, kr, h1, h2, rfl⟩
  · cases h
/-- what is wanted at the end -/
def scQ (acc : List Key) (Q : Val → VH → Prop) (ys : List Val) (h : VH) : Prop := ∃ ks, keysL ys = some ks ∧ Q (.int ((addsK acc ks).length : Nat)) h
theorem sc_step {X : Cx} {cfg : Cfg} {g : Tg} {t : Tt} {e : Tm} {vs : List Nat} {rho : Env} {sg : Sl} {its : List Val} {w : Wat} {mu1 : List Addr} {vh1 : VH} {H1 : Hp} {J : It} {D : Addr} {QQ : VK} {Q : Val → VH → Prop} (hD : H1 D = none) (hl : its.length ≤ 4000)
    (R1 : Rel X.prog X.w X.K mu1 vh1 H1) (N1 : REnv X.K mu1 H1 rho sg) (wk : Walk X J w its mu1 vh1 H1)
    (q : (lcL w g t e cfg (wipeE rho vs) its vh1).W (scQ [] Q) (fun _ _ _ => False))
    (hQ : ∀ vh' mu' H' (n : Nat) (S : Key → Bool), Q (.int (n : Nat)) vh' → Rel X.prog X.w X.K mu' vh' H' → Ex mu1 vh1 H1 mu' vh' H' → H' D = some (SetK X.prog X.w D S n) → QQ (.ref D) H') :
    ∃ W : Nat → Nat → Hp → Prop, (∃ m, W 0 m (upd H1 D (SetK X.prog X.w D (fun _ => false) 0))) ∧ ∀ i m H, W i m H →
      (J.stop i H ∧ QQ (.ref D) H) ∨ (J.go i H ∧ ∃ Nx : Hp → Prop, (∀ H', Nx H' → ∃ m', m' < m ∧ W (i + 1) m' H') ∧ ∀ x H', J.yld i H x H' → tG X cfg g vs x (wipe sg vs) H' fun σ2 H2 => wipe σ2 vs = wipe sg vs ∧ tT X cfg t σ2 H2 fun b H3 =>
        if b = true then tE X cfg e σ2 H3 fun y H4 => ∃ (c : Key) (S : Key → Bool) (n : Nat), y = kV c ∧ H4 D = some (SetK X.prog X.w D S n) ∧ n + 1 < scanBound ∧ Nx (upd H4 D (SetK X.prog X.w D (fun j => S j || decide (j = c)) (if S c = true then n else n + 1))) else Nx H3) := by
  have ap1 : Apt mu1 vh1 D := fun i o h1 h2 => by
    cases hm : mutO o with
    | false => rfl
    | true =>
      obtain ⟨u, e, _⟩ := RO.some (R1.obj i D o h1 h2) hm
      rw [hD] at e; cases e
  let W : Nat → List Val → Hp → Prop := fun i r Hc => ∃ (mu' : List Addr) (vh' : VH) (acc : List Key) (S : Key → Bool), its.drop i = r ∧ i ≤ its.length ∧ acc.length ≤ i ∧ (∀ k, S k = decide (k ∈ acc)) ∧ Rel X.prog X.w X.K mu' vh' Hc ∧ Ex mu1 vh1 H1 mu' vh' Hc ∧ Apt mu' vh' D ∧ Hc D = some (SetK X.prog X.w D S acc.length) ∧
    (lcL w g t e cfg (wipeE rho vs) r vh').W (scQ acc Q) (fun _ _ _ => False)
  refine ⟨fun i m Hc => ∃ r, r.length = m ∧ W i r Hc, ⟨its.length, its, rfl, mu1, vh1, [], _, rfl, Nat.zero_le _, Nat.le_refl _, fun k => by simp, R1.laid hD, Ex.laid hD, ap1, upd_same, q⟩, ?_⟩
  rintro i m Hc ⟨r, rfl, mu', vh', acc, S, er, hi, ha, hS, R, ex, ap, hc, q⟩
  cases r with
  | nil =>
    have q1 : (if alive w vh' then Out.ok ([] : List Val) vh' else .bad).W (scQ acc Q) (fun _ _ _ => False) := q
    split at q1
    · rename_i al
      have el : i = its.length := by
        have := List.drop_eq_nil_iff.mp er
        omega
      have st := wk.stop mu' vh' Hc R ex al
      rw [← el] at st
      obtain ⟨ks, e1, q2⟩ := (show scQ acc Q [] vh' from q1)
      cases e1
      exact .inl ⟨st, hQ vh' mu' Hc acc.length S q2 R ex hc⟩
    · exact q1.elim
  | cons v r =>
    have q1 : (if alive w vh' then (g v cfg (wipeE rho vs) vh').bn fun rho2 h => (t cfg rho2 h).bn fun k h => if k then (e cfg rho2 h).bn fun y h => (lcL w g t e cfg (wipeE rho vs) r h).bn fun ys h => .ok (y :: ys) h else lcL w g t e cfg (wipeE rho vs) r h else .bad).W (scQ acc Q) (fun _ _ _ => False) := q
    split at q1
    · rename_i al
      have hv : its[i]? = some v := by
        have := congrArg (fun l => l[0]?) er
        simpa using this
      have hlt : i < its.length := (List.getElem?_eq_some_iff.mp hv).1
      have hr' : its.drop (i + 1) = r := by
        rw [← List.drop_drop, er]; rfl
      obtain ⟨go, yl⟩ := wk.go i v mu' vh' Hc R ex al hv
      refine .inr ⟨go, fun H' => W (i + 1) r H', fun H' hw => ⟨r.length, Nat.lt_succ_self _, r, rfl, hw⟩, fun x H5 y5 => ?_⟩
      obtain ⟨R5, g5, rv5⟩ := yl x H5 y5
      obtain ⟨hc5, ap5⟩ := g5.rest D _ hc ap
      refine ⟨v, wipeE rho vs, mu', vh', R5, ((N1.gro ex.gro).gro g5.gro).wipe vs, rv5, (Out.bn_W q1).mono (fun rho2 vh2 q2 => ?_) fun _ _ _ z => z⟩
      intro mu2 σ2 H2 R2 g2 N2 hw
      obtain ⟨hc2, ap2⟩ := g2.rest D _ hc5 ap5
      have hw' : wipe σ2 vs = wipe sg vs := by
        rw [hw]
        refine List.ext_getElem? fun j => ?_
        by_cases hj : j ∈ vs
        · by_cases hb : j < sg.length
          · rw [wipe_get hj (by rw [wipe_length]; exact hb), wipe_get hj hb]
          · rw [List.getElem?_eq_none (by rw [wipe_length, wipe_length]; omega), List.getElem?_eq_none (by rw [wipe_length]; omega)]
        · rw [wipe_out hj]
      refine ⟨hw', rho2, mu2, vh2, R2, N2, (Out.bn_W q2).mono (fun k vh3 q3 => ?_) fun _ _ _ z => z⟩
      intro mu3 H3 R3 g3
      obtain ⟨hc3, ap3⟩ := g3.rest D _ hc2 ap2
      have ex3 : Ex mu1 vh1 H1 mu3 vh3 H3 := ((ex.trans g5).trans g2).trans g3
      cases k with
      | false =>
        rw [if_neg Bool.false_ne_true] at q3
        rw [if_neg Bool.false_ne_true]
        exact ⟨mu3, vh3, acc, S, hr', hlt, by omega, hS, R3, ex3, ap3, hc3, q3⟩
      | true =>
        rw [if_pos rfl] at q3
        rw [if_pos rfl]
        refine ⟨rho2, mu3, vh3, R3, N2.gro g3.gro, (Out.bn_W q3).mono (fun y vh4 q4 => ?_) fun _ _ _ z => z⟩
        intro yv mu4 H4 R4 g4 rv4
        obtain ⟨hc4, ap4⟩ := g4.rest D _ hc3 ap3
        have q5 := Out.bn_W q4
        -- the item is a key: else the end would not be reached
        obtain ⟨k, hk⟩ : ∃ k, leafKey y = some k := by
          cases hrest : lcL w g t e cfg (wipeE rho vs) r vh4 with
          | ok ys h =>
            rw [hrest] at q5
            obtain ⟨ks, e1, _⟩ := (show scQ acc Q (y :: ys) h from q5)
            obtain ⟨k, kr, h1, _⟩ := keysL_cons e1
            exact ⟨k, h1⟩
          | er c fs h => rw [hrest] at q5; exact q5.elim
          | bad => rw [hrest] at q5; exact q5.elim
        refine ⟨k, S, acc.length, keyV rv4 hk, hc4, by show acc.length + 1 < 4096; omega, ?_⟩
        have hn : (if S k = true then acc.length else acc.length + 1) = (if k ∈ acc then acc else acc ++ [k]).length := by
          rw [hS]
          by_cases hm : k ∈ acc
          · simp [hm]
          · simp [hm]
        rw [hn]
        refine ⟨mu4, vh4, (if k ∈ acc then acc else acc ++ [k]), _, hr', hlt, ?_, fun j => ?_, R4.asideX hc4 ap4, (ex3.trans g4).asideX hD hc4, ap4, upd_same, ?_⟩
        · split
          · omega
          · rw [List.length_append]; simp; omega
        · rw [hS]
          by_cases hm : k ∈ acc
          · rw [if_pos hm]
            by_cases hj : j = k
            · subst hj; simp [hm]
            · simp [hj]
          · rw [if_neg hm]
            simp [List.mem_append]
        · refine q5.mono (fun ys h q6 => ?_) fun _ _ _ z => z
          obtain ⟨ks, e1, q7⟩ := (show scQ acc Q (y :: ys) h from q6)
          obtain ⟨k', kr, h1, h2, rfl⟩ := keysL_cons e1
          rw [hk] at h1
          cases h1
          exact ⟨kr, h2, q7⟩
    · exact q1.elim
variable {elt tg iter : Expr} {ifs : List Expr} {scope : Scope} {own : List (Str × Nat)} {pos p spos : Pos} {src : Ti} {g : Tg} {t : Tt} {e : Tm} {ks : List Nat}
theorem simE_lenSc (w : Wd G) (L : LcIn G c elt tg iter ifs scope own src g t e ks) (hgl : c.sc.names.lookup ("len" : Str) = some .globalImplicit) :
    SimE G c (.Call (.Name "len" p) [.SetComp elt [⟨tg, iter, ifs, 0⟩] scope spos] [] pos) (eLenSc src (own.map (·.2)) g t e) := .mk <| by
  intro cfg X gg xi pins rho mu vh sg H s Q E S W q
  have hot : cfg.hot = none := by
    unfold eLenSc at q
    split at q
    · exact q.elim
    · rename_i hh; exact hot_none hh
  unfold eLenSc at q
  rw [if_neg (by rw [hot]; exact Bool.false_ne_true)] at q
  rw [Out.W_bind] at q
  have hc : X.calm = true := (w.rm cfg X gg).calm hot
  have hk' : ∀ i ∈ ks, i ∈ own.map (·.2) := fun i hi => by
    have := List.all_eq_true.mp L.hk i hi
    simpa using this
  have okB : BlkOk X.N X.env.scope scope own := by rw [xi.N, xi.sc]; exact blkOk_by L.ok
  have P := pe_scK (pos := spos) (own := own) (g := tG X cfg g (own.map fun p : Str × Nat => p.2)) (tt := tT X cfg t) (te := tE X cfg e) hc xi.nd (pi_of L.hi hot gg xi) okB
    (fun s H C cl fp => pg_of (X := X.blk s H scope (compEnvC scope cl C X.env) fp) L.hg hk' hot (w.blk _ _ _ _ _ _ _ gg) (xi.blk s H scope cl C fp))
    (fun s H C cl fp => pts_of' (X := X.blk s H scope (compEnvC scope cl C X.env) fp) L.ht hot (w.blk _ _ _ _ _ _ _ gg) (xi.blk s H scope cl C fp))
    (fun s H C cl fp => pe_of (X := X.blk s H scope (compEnvC scope cl C X.env) fp) L.he hot (w.blk _ _ _ _ _ _ _ gg) (xi.blk s H scope cl C fp)) (L.hs _)
  refine wpAny_Call_Name_kw (ld_blt S.inv (by show X.env.scope.names.lookup _ = _; rw [xi.sc]; exact hgl) (w.bl cfg X gg "len" (by decide +kernel)) boot_len ?_ (by decide) (by decide))
  refine PyProof.Rows.callWith_builtin1 (e := .SetComp elt [⟨tg, iter, ifs, 0⟩] scope spos) (rest := []) ?_ (starEach_cons rfl) rfl
  rw [starEach_cons rfl]
  let QQ : VK := fun x H' => ∃ D vh' mu' n S, x = .ref D ∧ Q (.int (n : Nat)) vh' ∧ Rel X.prog X.w X.K mu' vh' H' ∧ Ex mu vh H mu' vh' H' ∧ H' D = some (SetK X.prog X.w D S n)
  refine Calls.spliced_cons (thn (P.run pins s sg H QQ S.inv ?_) fun z s1 hz => Calls.spliced_nil ?_)
  · refine ⟨rho, mu, vh, E, S.rel, S.env, W, q.mono (fun p vh1 q1 => ?_) fun _ _ _ z => z⟩
    intro J mu1 H1 R1 g1 N1 wk D hD
    split at q1
    · rename_i hl
      refine sc_step (QQ := QQ) (Q := Q) hD hl R1 N1 wk ((Out.bn_W q1).mono (fun ys h z => ?_) fun _ _ _ z => z) fun vh' mu' H' n S qq R' ex hc' => ⟨D, vh', mu', n, S, rfl, qq, R', g1.trans ex, hc'⟩
      cases ek : keysL ys with
      | none => rw [ek] at z; exact z.elim
      | some ks => rw [ek] at z; exact ⟨ks, ek, z⟩
    · exact q1.elim
  · obtain ⟨x, H1, I1, r, D, vh', mu', n, S', rfl, qq, R', ex, hD⟩ := hz
    cases r
    obtain ⟨o, es, ep, tb, ho, hex, hd, _, _, hsz, hf, rfl⟩ := setK_get I1 hD
    refine call_len_set ho hex hd hf (by have : scanBound = 4096 := rfl; omega) ?_
    exact EQ.from ex (EQ.pure (v := .int ((es.size : Nat) : Int)) ⟨I1, R', S.env.gro ex.gro, by rw [hot]; trivial⟩ qq (.int _) ⟨_, rfl⟩ (I1.tok _))
end
end Pv
end
/-! PvJoin -/
section
set_option Elab.async false
set_option linter.all false
set_option maxRecDepth 100000
set_option autoImplicit false
/-! Pv: join. -/
namespace Pv
open PySem PySem.Spec PyProof.Rows L2
theorem strOk_app {a b : Str} (ha : PyData.strOk a = true) (hb : PyData.strOk b = true) : PyData.strOk (a ++ b) = true := by
  refine (strOk_iff _).mpr fun c hc => ?_
  have e : (a ++ b).cps.toList = a.cps.toList ++ b.cps.toList := by
    show (a.cps ++ b.cps).toList = _
    exact Array.toList_append
  rw [e] at hc
  rcases List.mem_append.mp hc with h | h
  · exact (strOk_iff a).mp ha c h
  · exact (strOk_iff b).mp hb c h
theorem strOk_join {a : Str} (ha : PyData.strOk a = true) : ∀ {ys : List Str}, (∀ y ∈ ys, PyData.strOk y = true) → PyData.strOk (Str.join a ys) = true
  | [], _ => (strOk_iff _).mpr fun c hc => by
    have : c ∈ (Str.empty).cps.toList := hc
    simp [Str.empty] at this
  | [x], h => h x (List.mem_singleton.mpr rfl)
  | x :: y :: r, h => strOk_app (strOk_app (h x List.mem_cons_self) ha) (strOk_join ha fun z hz => h z (List.mem_cons_of_mem _ hz))
theorem RVs.strs {K : PySem.W.Frag} {mu : List Addr} {H : Hp} : ∀ {vs : List Val} {xs : List V} {ys : List Str}, RVs K mu H vs xs → strL vs = some ys → xs = ys.map V.str ∧ ∀ y ∈ ys, okS y
  | _, _, ys, .nil, h => by cases h; exact ⟨rfl, fun y hy => by cases hy⟩
  | _, _, ys, .cons r t, h => by
    cases r with
    | str hz =>
      rename_i z
      obtain ⟨yr, h1, rfl⟩ := Option.map_eq_some_iff.mp (show (strL _).map (z :: ·) = some ys from h)
      obtain ⟨e, hh⟩ := RVs.strs t h1
      refine ⟨by rw [e]; rfl, fun y hy => ?_⟩
      rcases List.mem_cons.mp hy with rfl | hy
      · exact hz
      · exact hh y hy
    | _ => cases h
def mJoin (o : Val) (vs : List Val) (h : VH) : Out Val := match o, vs with
  | .str a, [w] => match (itemsOf w h).bind strL with
    | some ys => if (ys.map (·.length)).sum + ys.length * a.length ≤ 16777216 then .ok (.str (Txt.join a ys)) h else .bad
    | none => .bad
  | _, _ => .bad
theorem sim_join : SimMt "str.join" Rm mJoin := simMt_of (fun _ _ _ => mt_join) fun cfg X k pins rho mu vh sg H s v x vs xs Q E S rv rvs q => by
  cases rv with
  | str hz =>
    rename_i a
    cases rvs with
    | nil => exact q.elim
    | cons r1 rvs =>
      cases rvs with
      | cons _ _ => exact q.elim
      | nil =>
        rename_i w wx
        have q1 : (match (itemsOf w vh).bind strL with
          | some ys => if (ys.map (·.length)).sum + ys.length * a.length ≤ 16777216 then .ok (.str (Txt.join a ys)) vh else .bad
          | none => .bad : Out Val).W Q E := q
        split at q1
        · rename_i ys e
          split at q1
          · rename_i hl
            obtain ⟨ws, e1, e2⟩ := Option.bind_eq_some_iff.mp e
            have fin : (∀ y ∈ ys, okS y) → PQ X mu vh H Q (.str (Txt.join a ys)) H := fun hy => by
              refine PQ.pure S q1 (.str ⟨?_, ?_⟩)
              · show PyData.strOk (Builtin.Str.glued a ys) = true
                rw [StrLaws.glued_eq_join]
                exact strOk_join hz.1 fun y h => (hy y h).1
              · show (Builtin.Str.glued a ys).length ≤ _
                rw [StrLaws.glued_eq_join]
                refine Nat.le_trans (StrLaws.join_length_le a ys) ?_
                rw [sizeLine_eq]; exact hl
            cases r1 with
            | tup h rr =>
              cases e1
              obtain ⟨e3, hy⟩ := rr.strs e2
              subst e3
              exact ⟨a, _, ys, rfl, rfl, .inr h, hl, fin hy⟩
            | ref hm =>
              rename_i l p
              have e1' : (match vh[l]? with
                | some (.lst vs) => some vs
                | some (.frz vs) => some vs
                | _ => none) = some ws := e1
              have key : (vh[l]? = some (.lst ws) ∨ vh[l]? = some (.frz ws)) := by
                split at e1'
                · rename_i h1; cases e1'; exact .inl h1
                · rename_i h1; cases e1'; exact .inr h1
                · cases e1'
              obtain ⟨xs, h1, h2⟩ := S.rel.lstAt hm key
              obtain ⟨e3, hy⟩ := h2.strs e2
              subst e3
              exact ⟨a, p, ys, rfl, rfl, .inl h1, hl, fin hy⟩
            | _ => cases e1
          · exact q1.elim
        · exact q1.elim
  | _ => exact q.elim
end Pv
end
/-! PvEnd -/
section
set_option Elab.async false
set_option linter.all false
set_option maxRecDepth 100000
set_option maxHeartbeats 2000000
/-! Pv: all defs keep their promises; a law's end. -/
namespace Pv
open PySem PySem.Spec PyProof.Rows L2
/-- a def of the text, as it stands, with its pure meaning -/
def FEnt (Y : Sys) (i : Nat) (d : FDef) : Prop := ∃ fd dvs kws, FAt Y d (Y.ad i) fd dvs kws ∧ ∃ name qual params body scope N, FunD Y.K name qual params body scope dvs kws (Y.ad i) fd ∧ FnScope N (d.nm ++ d.ko) scope ∧ d.n = N.length ∧ SimB Y.G ⟨N, scope, scope⟩ body d.body
theorem calls_ok {Y : Sys} (ents : ∀ i d, Y.T.lookup i = some d → FEnt Y i d) : ∀ k, CallsOk Y k
  | 0 => fun i d h => by
    obtain ⟨fd, dvs, kws, A, _⟩ := ents i d h
    exact ⟨fd, dvs, kws, A, .inl rfl⟩
  | k + 1 => fun i d h => by
    obtain ⟨fd, dvs, kws, A, name, qual, params, body, scope, N, F, S, hn, B⟩ := ents i d h
    exact ⟨fd, dvs, kws, A, .inr ⟨k, rfl, body_ok (j := 0) F S hn B (calls_ok ents k)⟩⟩
theorem law_callS {P : Program} {w : World} {K : PySem.W.Frag} {mg mb : Str → Option Value} {T : Tab} {ad : Nat → Addr} {d : FDef} {j : Nat} {fa a : Addr} {x : Str} {s₁ : Shared} {vs : List Value} {ns : List Int}
    (KX : K.In s₁.heap) (hns : s₁.heap.Ns mainGlobals mg) (hb : s₁.heap.Ns builtinsNs mb) (hbb : ∀ x : Str, x ≠ "__name__" → mb x = bootBuiltins x) (hlim : s₁.heap.NoLimit) (hg : s₁.gens = #[])
    (ha : s₁.heap.get? a = some { cls := .type "list", data := .seq vs.toArray }) (hi : IntsAre vs ns) (hl : ns.length ≤ sizeLine) (hr : L2H.RoomH (j + 1 + 2) callerA)
    (F : ∀ base : Heap, K.In base → base.Ns mainGlobals mg → ∃ fd, (∀ (s : Shared) (u : Value), K.In s.heap → BindsTo s fd ⟨[u], []⟩ [(x, u)]) ∧ FnS ⟨P, w, K, mg, base, T, ad⟩ (j + 1) fa fd [x] fun hot zs h => runF d ⟨callN T j, hot⟩ zs h)
    (hsp : (runF d ⟨callN T j, none⟩ [.ref 0] [.frz (ns.map .int)]).W (fun v _ => v = .bl true) (fun _ _ _ => False)) :
    codeAny (model P w) callerA (.call (.ref fa) ⟨[.ref a], []⟩) (fun r s' => r = .ok (.ret (.bool true)) ∧ OldK s₁.heap s'.heap ∧ s'.os = s₁.os ∧ AllBare s'.gens) s₁ := by
  have rv := vals_ints hi
  have lenV := hi.length
  -- from an abstract heap in which nothing but the script may be tracked
  have core : ∀ H : Hp, Only H → SqL K H a (ns.map V.int) → HOk P w H s₁.heap → (∀ b, H b ≠ none → b = a) → (H a ≠ none → K.lookup a = none) →
      codeAny (model P w) callerA (.call (.ref fa) ⟨[.ref a], []⟩) (fun r s' => r = .ok (.ret (.bool true)) ∧ OldK s₁.heap s'.heap ∧ s'.os = s₁.os ∧ AllBare s'.gens) s₁ := by
    intro H hO hS hok hA hK
    have base_of : ∀ {b : Addr} {o : Obj}, s₁.heap.get? b = some o → H b = none → (hidT s₁.heap H).get? b = some o := fun e n => hidT_get e n
    have noA : ∀ {b : Addr} {o : Obj} {es : Array DictEntry} {ep : Nat}, s₁.heap.get? b = some o → o.data = .dict es ep → H b = none := fun {b o es ep} e d => by
      cases q : H b with
      | none => rfl
      | some u =>
        have e' : b = a := hA b (by rw [q]; simp)
        subst e'
        rw [ha] at e; cases e
        have d' : Data.seq vs.toArray _ = Data.dict es ep := d
        cases d'
    have nsK : ∀ {b : Addr} {m : Str → Option Value}, s₁.heap.Ns b m → (hidT s₁.heap H).Ns b m := fun {b m} ⟨o, es, ep, e, d, r⟩ => ⟨o, es, ep, base_of e (noA e d), d, r⟩
    have hKb : K.In (hidT s₁.heap H) := fun b o e => base_of (KX b o e) (by
      cases q : H b with
      | none => rfl
      | some u =>
        have e' : b = a := hA b (by rw [q]; simp)
        subst e'
        rw [hK (by rw [q]; simp)] at e; cases e)
    have hM : Mod K mg (hidT s₁.heap H) := ⟨hKb, nsK hns, ⟨mb, nsK hb, hbb⟩, let ⟨mc, h1, h2⟩ := hlim; ⟨mc, nsK h1, h2⟩⟩
    have e0 : Env0 P w K mg (hidT s₁.heap H) callerA [] s₁ H := ⟨rfl, hM, fun b o e => of_hidT e, Nat.le_of_eq (hidT_size _ _), trivial, fun b hb => absurd (show b ∈ ([] : List Addr) from hb) (by simp), hok, .of_eq hg⟩
    obtain ⟨fd, hbind, FF⟩ := F _ hKb (nsK hns)
    have frz : FrzL K H a (ns.map V.int) := by
      rcases hS with (h | h) | h
      · rcases hO a with z | ⟨o, xs, z⟩ <;> rw [z] at h <;> cases h
      · exact .inl h
      · exact .inr h
    have hRel : Rel P w K [a] [.frz (ns.map .int)] H := by
      refine ⟨rfl, fun i j b o u h1 h2 h3 h4 m1 m2 => ?_, fun i b o h1 h2 => ?_⟩
      · match i, h3 with
        | 0, h3 => cases h3; cases m1
      · match i, h1, h2 with
        | 0, h1, h2 =>
          cases h1; cases h2
          exact ⟨ns.map V.int, frz, RVs.map (fun i => .int i) ns⟩
    refine codeAny_mono (FF none callerA [] s₁ H ⟨[.ref a], []⟩ [.ref a] [.ref a] [.ref 0] [a] [.frz (ns.map .int)] _ _ (.of hr) rfl rfl e0 (hbind s₁ (.ref a) KX) (.cons rfl .nil) rfl (.cons (.ref rfl) .nil) hRel hsp) fun r s' h => ?_
    cases r with
    | error e =>
      obtain ⟨_, _, _, _, _, _, _, _, _, _, _, _, _, _, _, _, _, _, _, z⟩ := h
      exact z.elim
    | ok fl =>
      cases fl with
      | next => exact False.elim h
      | brk => exact False.elim h
      | cont => exact False.elim h
      | ret u =>
        obtain ⟨v, H', os, bare, un, hok', r', q⟩ := h
        obtain ⟨v0, _, _, q', _, _, rv⟩ := q
        subst q'
        cases rv
        obtain rfl : u = Value.bool true := r'
        refine ⟨rfl, OldK.of_keep fun b o e => ?_, os, bare⟩
        cases q : H b with
        | none => exact un.keep b o e q (by intro z; exact absurd (show b ∈ ([] : List Addr) from z) (by simp)) (by simp)
        | some u =>
          rcases hO b with z | ⟨ob, xs, z⟩
          · rw [q] at z; cases z
          · have z2 := un.frzs b ob _ z
            obtain ⟨e1, _⟩ := hok b _ z
            obtain ⟨e2, _⟩ := hok' b _ z2
            rw [e] at e1; cases e1
            exact e2
  cases hk : K.lookup a with
  | some o =>
    -- the script is one of the module's own objects
    have e := KX a o hk
    rw [ha] at e
    cases e
    refine core (fun _ => none) (fun _ => .inl rfl) (.inr ⟨_, vs.toArray, _, hk, rfl, rfl, rfl, by rw [List.size_toArray, lenV]; exact hl, by simpa using rv⟩) (fun b u z => by have z' : (none : Option HO) = some u := z; cases z') (fun b z => absurd rfl z) fun z => absurd rfl z
  | none =>
    refine core (fun b => if b = a then some (.frz { cls := .type "list", data := .seq vs.toArray } (.lst (ns.map V.int))) else none) (fun b => ?_) (.inl (.inr ⟨{ cls := .type "list", data := .seq vs.toArray }, if_pos rfl⟩)) (fun b u z => ?_) (fun b z => ?_) fun _ => hk
    · by_cases hb : b = a
      · exact .inr ⟨_, _, if_pos hb⟩
      · exact .inl (if_neg hb)
    · by_cases hb : b = a
      · have z' := (if_pos hb).symm.trans z
        cases z'
        subst hb
        exact ⟨ha, by rw [List.length_map]; exact hl, vs, _, rv, ha⟩
      · have z' := (if_neg hb).symm.trans z
        cases z'
    · by_cases hb : b = a
      · exact hb
      · exact absurd (if_neg hb) z

/-- THE END of a law's head: the law's def is number i, its level j -/
theorem walk_ofS {l : PySem.W.OpenLaw} {n j i : Nat} {q : Program} {loose : List Str} {XP : (Str → Option Value) → Heap → Prop} {YP : World → Heap → Prop} {d : DefRec} {x : Str} {T : Tab} {D : FDef}
    (hn : l.most = some n) (hn2 : n ≤ sizeLine) (hdf : d.params.defaults = []) (hr : L2H.RoomH (j + 1 + 2) callerA) (hT : T.lookup i = some D) (hnm : D.nm = [x]) (hko : D.ko = []) (hdl : D.dfl = [])
    (F : ∀ (w : World) (mg : Str → Option Value) (fa : Addr) (h : Heap), YP w h → h.Ns mainGlobals mg → mg d.name = some (.ref fa) →
      ∃ (K : PySem.W.Frag) (ad : Nat → Addr), K.In h ∧ ad i = fa ∧ ∀ base : Heap, K.In base → base.Ns mainGlobals mg → ∀ a D', T.lookup a = some D' → FEnt ⟨l.prog, w, K, mg, base, T, ad⟩ a D')
    (hsp : ∀ ns : List Int, ns.length ≤ n → (∀ z ∈ ns, Builtin.Int.intBits z ≤ 1048576) → (runF D ⟨callN T j, none⟩ [.ref 0] [.frz (ns.map .int)]).W (fun v _ => v = .bl true) (fun _ _ _ => False)) :
    PySem.W.WalkO q loose XP YP l.row.toRowW d [] (fun f vs => PySem.call f vs) := by
  refine Att.attach_callB hn hdf fun w s₀ s₁ mg mb fa o pm cd doc a vs ns G Y ho hd hcd hmg hobj hints hlen hbits hg => ?_
  obtain ⟨K, ad, KX, eA, hF⟩ := F w mg fa _ Y G.T.g hmg
  refine law_callS (T := T) (ad := ad) (d := D) (j := j) (x := x) KX G.T.g G.T.b G.T.builtins G.T.nolimit hg hobj hints (Nat.le_trans hlen hn2) hr (fun base hb hm => ?_) (hsp ns hlen hbits)
  obtain ⟨fd, dvs, kws, A, hlev⟩ := calls_ok (Y := ⟨l.prog, w, K, mg, base, T, ad⟩) (hF base hb hm) (j + 1) i D hT
  rcases hlev with h0 | ⟨j', ej, FS⟩
  · cases h0
  cases ej
  refine ⟨fd, fun s u hs => ?_, ?_⟩
  · obtain ⟨name, qual, params, body, scope, FD, e1, e2, e3, e4, e5⟩ := A.ex
    obtain ⟨oc, od, dV, kV, doc, pm, an, cdv, ct, osl, rfl, lk, hcd, hD, hK⟩ := FD.ex
    have hdv : dvs = [] := by
      have := A.dfl
      rw [hdl] at this
      cases this
      rfl
    subst hdv
    have hdV : dV = .none := by
      rcases hD with ⟨_, h⟩ | ⟨h, _⟩
      · exact h
      · exact absurd rfl h
    subst hdV
    rw [hnm] at e4
    rw [hko] at e5
    have hk : params.kwonlyargs = [] := List.map_eq_nil_iff.mp e5
    have := binds_of (fd := PySem.W.fnOf name qual params body scope .none kV doc pm an cdv ct) (s := s) (us := [u]) (zs := [u]) (kw := []) (its := []) (kwd := fun _ => none) hs e1 e2 e3 (fun M => .inl (PySem.W.Looks.of_pure rfl)) (fun n v e => by cases e)
      (by show bindL (params.args.map (·.arg)) (params.kwonlyargs.map (·.arg)) [] (fun _ => none) [u] [] = some [u]; rw [e4, e5]; simp [bindL, kwIn, koIn, dfIn, getAll])
    have h2 : (PySem.W.fnOf name qual params body scope .none kV doc pm an cdv ct).params = params := rfl
    rw [h2, e4, e5] at this
    exact this
  · rw [hnm, hko, List.append_nil] at FS
    rw [← eA]
    exact FS
end Pv
end
/-! PvGen -/
section
set_option Elab.async false
set_option linter.all false
set_option maxRecDepth 100000
set_option autoImplicit false
/-! Pv: the rules in the shape that a printer uses. -/
namespace Pv
open PySem PySem.Spec PyProof.Rows L2
/-- a built-in's name, in this scope -/
def bltB (c : Sc) (x : Str) : Bool := c.sc.names.lookup x == some .globalImplicit
theorem bltB_ok {c : Sc} {x : Str} (h : bltB c x = true) : c.sc.names.lookup x = some .globalImplicit := by
  unfold bltB at h
  simpa using h
def okB (x : Str) : Bool := PyData.strOk x && decide (x.length ≤ 1000000)
theorem okB_ok {x : Str} (h : okB x = true) : okS x := by
  unfold okB at h
  rw [Bool.and_eq_true] at h
  have h2 := of_decide_eq_true h.2
  exact ⟨h.1, by rw [sizeLine_eq]; omega⟩
section
variable {G : World'} {c : Sc} {a b e : Expr} {ma mb : Tm} {es : List Expr} {mt : Ta} {pos p p2 : Pos} {x : Str}
theorem gS {j : Nat} (h : okB x = true) : SimE G c (.Constant (.str x) j pos) (eC (.str x)) := simE_C_str (okB_ok h)
theorem gNeg (ha : SimE G c a ma) : SimE G c (.UnaryOp .USub a pos) (eUn opNeg ma) := .mk <| by
  intro cfg X g xi pins rho mu vh sg H s Q E S W q
  refine UnaryOp_ (ha.then g xi S W q fun v vh1 x mu1 H1 u s1 S1 g1 rv r q1 => ?_)
  cases rv with
  | int i =>
    obtain ⟨t, rfl⟩ := r
    exact neg_int (EQ.from g1 (EQ.pure (v := .int (-i)) S1 q1 (.int _) ⟨_, rfl⟩ (S1.inv.tok _)))
  | _ => exact q1.elim
variable (w : Wd G)
include w
theorem gAdd (ha : SimE G c a ma) (hb : SimE G c b mb) : SimE G c (.BinOp a .Add b pos) (eOp opAdd ma mb) := simE_bin (sim_add.imp w.rm) ha hb
theorem gSub (ha : SimE G c a ma) (hb : SimE G c b mb) : SimE G c (.BinOp a .Sub b pos) (eOp opSub ma mb) := simE_bin (sim_sub.imp w.rm) ha hb
theorem gMul (ha : SimE G c a ma) (hb : SimE G c b mb) : SimE G c (.BinOp a .Mult b pos) (eOp opMul ma mb) := simE_bin (sim_mul.imp w.rm) ha hb
theorem gMod (ha : SimE G c a ma) (hb : SimE G c b mb) : SimE G c (.BinOp a .Mod b pos) (eOp opMod ma mb) := simE_bin (sim_mod.imp w.rm) ha hb
theorem gDiv (ha : SimE G c a ma) (hb : SimE G c b mb) : SimE G c (.BinOp a .FloorDiv b pos) (eOp opDiv ma mb) := simE_bin (sim_div.imp w.rm) ha hb
theorem gPow (ha : SimE G c a ma) (hb : SimE G c b mb) : SimE G c (.BinOp a .Pow b pos) (eOp opPow ma mb) := simE_bin (sim_pow.imp w.rm) ha hb
theorem gIdx (ha : SimE G c a ma) (hb : SimE G c b mb) (hs : plainIx b = true) : SimE G c (.Subscript a b pos) (eOp opIdx ma mb) := simE_idx w.rm ha hb (plainIx_ok hs)
theorem kEq (ha : SimE G c a ma) (hb : SimE G c b mb) (hm : behindInMarks .Eq b = false) : SimE G c (.Compare a [.Eq] [b] pos) (eOp opEq ma mb) := simE_cmp (sim_eq.imp w.rm) ha hb hm
theorem kNe (ha : SimE G c a ma) (hb : SimE G c b mb) (hm : behindInMarks .NotEq b = false) : SimE G c (.Compare a [.NotEq] [b] pos) (eOp opNe ma mb) := simE_cmp (sim_ne.imp w.rm) ha hb hm
theorem kLt (ha : SimE G c a ma) (hb : SimE G c b mb) (hm : behindInMarks .Lt b = false) : SimE G c (.Compare a [.Lt] [b] pos) (eOp opLt ma mb) := simE_cmp (sim_lt.imp w.rm) ha hb hm
theorem kLe (ha : SimE G c a ma) (hb : SimE G c b mb) (hm : behindInMarks .LtE b = false) : SimE G c (.Compare a [.LtE] [b] pos) (eOp opLe ma mb) := simE_cmp (sim_le.imp w.rm) ha hb hm
theorem kGt (ha : SimE G c a ma) (hb : SimE G c b mb) (hm : behindInMarks .Gt b = false) : SimE G c (.Compare a [.Gt] [b] pos) (eOp opGt ma mb) := simE_cmp (sim_gt.imp w.rm) ha hb hm
theorem kGe (ha : SimE G c a ma) (hb : SimE G c b mb) (hm : behindInMarks .GtE b = false) : SimE G c (.Compare a [.GtE] [b] pos) (eOp opGe ma mb) := simE_cmp (sim_ge.imp w.rm) ha hb hm
theorem kIs (ha : SimE G c a ma) (hb : SimE G c b mb) (hm : behindInMarks .Is b = false) : SimE G c (.Compare a [.Is] [b] pos) (eOp opIs ma mb) := simE_cmp (sim_is.imp w.rm) ha hb hm
theorem kIsNot (ha : SimE G c a ma) (hb : SimE G c b mb) (hm : behindInMarks .IsNot b = false) : SimE G c (.Compare a [.IsNot] [b] pos) (eOp opIsNot ma mb) := simE_cmp (sim_isnot.imp w.rm) ha hb hm
theorem kIn (ha : SimE G c a ma) (hb : SimE G c b mb) (hm : behindInMarks .In b = false) : SimE G c (.Compare a [.In] [b] pos) (eOp opIn ma mb) := simE_cmp (sim_in.imp w.rm) ha hb hm
theorem kNotIn (ha : SimE G c a ma) (hb : SimE G c b mb) (hm : behindInMarks .NotIn b = false) : SimE G c (.Compare a [.NotIn] [b] pos) (eOp opNotIn ma mb) := simE_cmp (sim_notin.imp w.rm) ha hb hm
theorem tEq (ha : SimE G c a ma) (hb : SimE G c b mb) (hm : behindInMarks .Eq b = false) : SimT G c (.Compare a [.Eq] [b] pos) (tVal (eOp opEq ma mb)) := simT_cmp (sim_eq.imp w.rm) ha hb hm
theorem tNe (ha : SimE G c a ma) (hb : SimE G c b mb) (hm : behindInMarks .NotEq b = false) : SimT G c (.Compare a [.NotEq] [b] pos) (tVal (eOp opNe ma mb)) := simT_cmp (sim_ne.imp w.rm) ha hb hm
theorem tLt (ha : SimE G c a ma) (hb : SimE G c b mb) (hm : behindInMarks .Lt b = false) : SimT G c (.Compare a [.Lt] [b] pos) (tVal (eOp opLt ma mb)) := simT_cmp (sim_lt.imp w.rm) ha hb hm
theorem tLe (ha : SimE G c a ma) (hb : SimE G c b mb) (hm : behindInMarks .LtE b = false) : SimT G c (.Compare a [.LtE] [b] pos) (tVal (eOp opLe ma mb)) := simT_cmp (sim_le.imp w.rm) ha hb hm
theorem tGt (ha : SimE G c a ma) (hb : SimE G c b mb) (hm : behindInMarks .Gt b = false) : SimT G c (.Compare a [.Gt] [b] pos) (tVal (eOp opGt ma mb)) := simT_cmp (sim_gt.imp w.rm) ha hb hm
theorem tGe (ha : SimE G c a ma) (hb : SimE G c b mb) (hm : behindInMarks .GtE b = false) : SimT G c (.Compare a [.GtE] [b] pos) (tVal (eOp opGe ma mb)) := simT_cmp (sim_ge.imp w.rm) ha hb hm
theorem tIs (ha : SimE G c a ma) (hb : SimE G c b mb) (hm : behindInMarks .Is b = false) : SimT G c (.Compare a [.Is] [b] pos) (tVal (eOp opIs ma mb)) := simT_cmp (sim_is.imp w.rm) ha hb hm
theorem tIsNot (ha : SimE G c a ma) (hb : SimE G c b mb) (hm : behindInMarks .IsNot b = false) : SimT G c (.Compare a [.IsNot] [b] pos) (tVal (eOp opIsNot ma mb)) := simT_cmp (sim_isnot.imp w.rm) ha hb hm
theorem tIn (ha : SimE G c a ma) (hb : SimE G c b mb) (hm : behindInMarks .In b = false) : SimT G c (.Compare a [.In] [b] pos) (tVal (eOp opIn ma mb)) := simT_cmp (sim_in.imp w.rm) ha hb hm
theorem tNotIn (ha : SimE G c a ma) (hb : SimE G c b mb) (hm : behindInMarks .NotIn b = false) : SimT G c (.Compare a [.NotIn] [b] pos) (tVal (eOp opNotIn ma mb)) := simT_cmp (sim_notin.imp w.rm) ha hb hm
variable {d : Expr} {md : Tm}
theorem kLeLe (ha : SimE G c a ma) (hb : SimE G c b mb) (hd : SimE G c d md) (hm : lastMarks [.LtE, .LtE] [b, d] = false) : SimE G c (.Compare a [.LtE, .LtE] [b, d] pos) (eChain opLe opLe ma mb md) := simE_chain (sim_le.imp w.rm) (sim_le.imp w.rm) ha hb hd hm
theorem kLeLt (ha : SimE G c a ma) (hb : SimE G c b mb) (hd : SimE G c d md) (hm : lastMarks [.LtE, .Lt] [b, d] = false) : SimE G c (.Compare a [.LtE, .Lt] [b, d] pos) (eChain opLe opLt ma mb md) := simE_chain (sim_le.imp w.rm) (sim_lt.imp w.rm) ha hb hd hm
theorem tLeLe (ha : SimE G c a ma) (hb : SimE G c b mb) (hd : SimE G c d md) (hm : lastMarks [.LtE, .LtE] [b, d] = false) : SimT G c (.Compare a [.LtE, .LtE] [b, d] pos) (tVal (eChain opLe opLe ma mb md)) := simT_chain (sim_le.imp w.rm) (sim_le.imp w.rm) ha hb hd hm
theorem tLeLt (ha : SimE G c a ma) (hb : SimE G c b mb) (hd : SimE G c d md) (hm : lastMarks [.LtE, .Lt] [b, d] = false) : SimT G c (.Compare a [.LtE, .Lt] [b, d] pos) (tVal (eChain opLe opLt ma mb md)) := simT_chain (sim_le.imp w.rm) (sim_lt.imp w.rm) ha hb hd hm
/-! ### built-ins -/
theorem bLenG (hg : bltB c "len" = true) (ht : SimA G c (e :: es) mt) (hs : (e :: es).all noStar = true) : SimE G c (.Call (.Name "len" p) (e :: es) [] pos) (eCallB bLen mt) := simE_callB w sim_len (bltB_ok hg) (by decide +kernel) boot_len ht hs (by decide) (by decide)
theorem bListG (hg : bltB c "list" = true) (ht : SimA G c (e :: es) mt) (hs : (e :: es).all noStar = true) : SimE G c (.Call (.Name "list" p) (e :: es) [] pos) (eCallB bList mt) := simE_callTy w sim_list (bltB_ok hg) (by decide +kernel) Boot.list ht hs (by decide) (by decide)
theorem bTupleG (hg : bltB c "tuple" = true) (ht : SimA G c (e :: es) mt) (hs : (e :: es).all noStar = true) : SimE G c (.Call (.Name "tuple" p) (e :: es) [] pos) (eCallB bTuple mt) := simE_callTy w sim_tuple (bltB_ok hg) (by decide +kernel) Boot.tuple ht hs (by decide) (by decide)
theorem bAllG (hg : bltB c "all" = true) (ht : SimA G c (e :: es) mt) (hs : (e :: es).all noStar = true) : SimE G c (.Call (.Name "all" p) (e :: es) [] pos) (eCallC bAll mt) := simE_callC w sim_all (bltB_ok hg) (by decide +kernel) Boot.all ht hs (by decide) (by decide)
theorem bAnyG (hg : bltB c "any" = true) (ht : SimA G c (e :: es) mt) (hs : (e :: es).all noStar = true) : SimE G c (.Call (.Name "any" p) (e :: es) [] pos) (eCallC bAny mt) := simE_callC w sim_any (bltB_ok hg) (by decide +kernel) Boot.any ht hs (by decide) (by decide)
theorem bSumG (hg : bltB c "sum" = true) (ht : SimA G c (e :: es) mt) (hs : (e :: es).all noStar = true) : SimE G c (.Call (.Name "sum" p) (e :: es) [] pos) (eCallC bSum mt) := simE_callC w sim_sum (bltB_ok hg) (by decide +kernel) Boot.sum ht hs (by decide) (by decide)
theorem bMaxG (hg : bltB c "max" = true) (ht : SimA G c (e :: es) mt) (hs : (e :: es).all noStar = true) : SimE G c (.Call (.Name "max" p) (e :: es) [] pos) (eCallC bMax mt) := simE_callC w sim_max (bltB_ok hg) (by decide +kernel) Boot.max ht hs (by decide) (by decide)
theorem bMinG (hg : bltB c "min" = true) (ht : SimA G c (e :: es) mt) (hs : (e :: es).all noStar = true) : SimE G c (.Call (.Name "min" p) (e :: es) [] pos) (eCallC bMin mt) := simE_callC w sim_min (bltB_ok hg) (by decide +kernel) Boot.min ht hs (by decide) (by decide)
theorem iInt (hg : bltB c "isinstance" = true) (hg2 : bltB c "int" = true) (ha : SimE G c a ma) (hs : noStar a = true) : SimE G c (.Call (.Name "isinstance" p) [a, .Name "int" p2] [] pos) (eIsi "int" ma) :=
  simE_isi w ha hs (bltB_ok hg) (bltB_ok hg2) (by decide) (fun cfg X g => w.bl cfg X g _ (by decide +kernel)) Boot.int (by decide) (by decide)
theorem iBool (hg : bltB c "isinstance" = true) (hg2 : bltB c "bool" = true) (ha : SimE G c a ma) (hs : noStar a = true) : SimE G c (.Call (.Name "isinstance" p) [a, .Name "bool" p2] [] pos) (eIsi "bool" ma) :=
  simE_isi w ha hs (bltB_ok hg) (bltB_ok hg2) (by decide) (fun cfg X g => w.bl cfg X g _ (by decide +kernel)) Boot.bool (by decide) (by decide)
theorem iStr (hg : bltB c "isinstance" = true) (hg2 : bltB c "str" = true) (ha : SimE G c a ma) (hs : noStar a = true) : SimE G c (.Call (.Name "isinstance" p) [a, .Name "str" p2] [] pos) (eIsi "str" ma) :=
  simE_isi w ha hs (bltB_ok hg) (bltB_ok hg2) (by decide) (fun cfg X g => w.bl cfg X g _ (by decide +kernel)) Boot.str (by decide) (by decide)
theorem iTuple (hg : bltB c "isinstance" = true) (hg2 : bltB c "tuple" = true) (ha : SimE G c a ma) (hs : noStar a = true) : SimE G c (.Call (.Name "isinstance" p) [a, .Name "tuple" p2] [] pos) (eIsi "tuple" ma) :=
  simE_isi w ha hs (bltB_ok hg) (bltB_ok hg2) (by decide) (fun cfg X g => w.bl cfg X g _ (by decide +kernel)) Boot.tuple (by decide) (by decide)
theorem iList (hg : bltB c "isinstance" = true) (hg2 : bltB c "list" = true) (ha : SimE G c a ma) (hs : noStar a = true) : SimE G c (.Call (.Name "isinstance" p) [a, .Name "list" p2] [] pos) (eIsi "list" ma) :=
  simE_isi w ha hs (bltB_ok hg) (bltB_ok hg2) (by decide) (fun cfg X g => w.bl cfg X g _ (by decide +kernel)) Boot.list (by decide) (by decide)
theorem mAppendG {o : Expr} {mo : Tm} {apos : Pos} (ho : SimE G c o mo) (ht : SimA G c (e :: es) mt) (hs : (e :: es).all noStar = true) (hf : decide ((e :: es).length < 30) = true) (hb : ∀ env : PySem.Env, attributeBase o "append" env (eval o env) = eval o env) (hl : (apos.endLine == pos.line) = true) :
    SimE G c (.Call (.Attribute o "append" apos) (e :: es) [] pos) (eMeth "list" mAppend mo mt) := simE_meth w F.plainAttrs_list F.slot_list_append F.type_list_append sim_append ho ht hs hf hb hl
theorem mCountG {o : Expr} {mo : Tm} {apos : Pos} (ho : SimE G c o mo) (ht : SimA G c (e :: es) mt) (hs : (e :: es).all noStar = true) (hf : decide ((e :: es).length < 30) = true) (hb : ∀ env : PySem.Env, attributeBase o "count" env (eval o env) = eval o env) (hl : (apos.endLine == pos.line) = true) :
    SimE G c (.Call (.Attribute o "count" apos) (e :: es) [] pos) (eMeth "list" mCount mo mt) := simE_meth w F.plainAttrs_list F.slot_list_count F.type_list_count sim_count ho ht hs hf hb hl
theorem mIndexG {o : Expr} {mo : Tm} {apos : Pos} (ho : SimE G c o mo) (ht : SimA G c (e :: es) mt) (hs : (e :: es).all noStar = true) (hf : decide ((e :: es).length < 30) = true) (hb : ∀ env : PySem.Env, attributeBase o "index" env (eval o env) = eval o env) (hl : (apos.endLine == pos.line) = true) :
    SimE G c (.Call (.Attribute o "index" apos) (e :: es) [] pos) (eMeth "list" mIndex mo mt) := simE_meth w F.plainAttrs_list F.slot_list_index F.type_list_index sim_index ho ht hs hf hb hl
theorem mJoinG {o : Expr} {mo : Tm} {apos : Pos} (ho : SimE G c o mo) (ht : SimA G c (e :: es) mt) (hs : (e :: es).all noStar = true) (hf : decide ((e :: es).length < 30) = true) (hb : ∀ env : PySem.Env, attributeBase o "join" env (eval o env) = eval o env) (hl : (apos.endLine == pos.line) = true) :
    SimE G c (.Call (.Attribute o "join" apos) (e :: es) [] pos) (eMeth "str" mJoin mo mt) := simE_meth w F.plainAttrs_str F.slot_str_join F.type_str_join sim_join ho ht hs hf hb hl
end
end Pv
end
/-! PvHead -/
section
set_option Elab.async false
set_option linter.all false
set_option maxRecDepth 100000
set_option autoImplicit false
/-! Pv: what a law's head tells. -/
namespace Pv
open PySem PySem.Spec PyProof.Rows L2
open PySem.W (Frag nsIn findIn keepIn subIn typeIn lookIn)
/-! ### checks -/
def glB (K : Frag) (x : Str) (a : Addr) : Bool := decide (nsIn K mainGlobals x = some (some (.ref a)))
def frB (K : Frag) (x : Str) : Bool := decide (nsIn K mainGlobals x = some none)
def conB (K : Frag) (x : Str) (v : Val) : Bool := match v with
  | .int i => (match nsIn K mainGlobals x with
    | some (some (.int j _)) => decide (j = i)
    | _ => false)
  | .str z => (match nsIn K mainGlobals x with
    | some (some (.str y _)) => decide (y = z) && okB z
    | _ => false)
  | _ => false
def leBase : List Value := [.type "LookupError", .type "Exception", .type "BaseException", .type "object"]
def exc0B (K : Frag) (c : Str) : Bool := glB K c (He.ga K c) && keepIn K (.ref (He.ga K c)) && (PySem.W.excIn K (He.ga K c) He.veBase "ValueError.__new__" || PySem.W.excIn K (He.ga K c) leBase "LookupError.__new__") &&
  decide (subIn K (.ref (He.ga K c)) (.type "BaseException") = some true) && decide (typeIn K (.ref (He.ga K c)) = some (.type "type"))
def oexB (K : Frag) (C : Addr) : Bool := (match K.lookup C with
    | some ⟨.type "type", _, .cls cd, sl⟩ => (match cd.mro, sl.toList with
      | .ref C' :: bm, [_, _, _, _, some (.builtin n), _] => decide (C' = C) && (((decide (n = "ValueError.__new__") && PySem.HandSPX.refsVE bm) || (decide (n = "LookupError.__new__") && PySem.PvX.refsLE bm)) && (!cd.hasDel && cd.hasDict))
      | _, _ => false)
    | _ => false) && decide (findIn K (.ref C) "__setattr__" = some (some (.builtin "object.__setattr__"))) && decide (subIn K (.ref C) (.type "BaseException") = some true) && decide (typeIn K (.ref C) = some (.type "type")) && keepIn K (.ref C)
def excCB (K : Frag) (D : Addr) : Bool := decide (findIn K (.ref D) "__getattribute__" = some (some (.builtin "BaseException.__getattribute__"))) && decide (findIn K (.ref D) "__getattr__" = some none) && decide (subIn K (.ref D) (.type "BaseException") = some true) &&
  PySem.W.hasDictIn K D && decide (findIn K (.ref D) "__class__" = some (some (.builtin "object.__class__"))) && decide (PySem.W.specialIn K (.builtin "object.__class__") "__get__" = some (some (.builtin "getset_descriptor.__get__"))) &&
  decide (PySem.W.takesIn K (.builtin "object.__class__") = some true) && decide (PySem.W.mroIn K D (.type "object") = some true)
def matB (K : Frag) (xn : List Str) : Bool := xn.all fun c => excCB K (He.ga K c) && (fieldNames.all fun f => decide (findIn K (.ref (He.ga K c)) f = some none)) &&
  (xn.all fun x => match subOf xn c x with
    | some b => decide (PySem.W.exmOne K (.ref (He.ga K c)) (.ref (He.ga K x)) = some b)
    | none => true) &&
  ((("ValueError" : Str) :: ("LookupError" : Str) :: xn).all fun x => match isxOf xn c x with
    | some b => decide (PySem.W.kitOne K (.ref (He.ga K c)) (cvOf K x) = some b)
    | none => true)
theorem b2 {a b : Bool} (h : (a && b) = true) : a = true ∧ b = true := Bool.and_eq_true_iff.mp h
theorem subOf_mem {xn : List Str} {c x : Str} {b : Bool} (h : subOf xn c x = some b) : c ∈ xn ∧ x ∈ xn := by
  unfold subOf at h
  split at h
  · rename_i h1
    rw [Bool.and_eq_true] at h1
    exact ⟨by simpa using h1.1, by simpa using h1.2⟩
  · cases h
section
variable {K : Frag} {h : Heap} {mg : Str → Option Value} {P : Program} {w : World} {base : Heap} {T : Tab} {ad : Nat → Addr} {xn : List Str}
theorem con_ok (X : K.In h) (G : h.Ns mainGlobals mg) {x : Str} {v : Val} (c : conB K x v = true) : ∃ u y, mg x = some u ∧ RelV y u ∧ RV K [] (fun _ => none) v y := by
  unfold conB at c
  split at c
  · rename_i i
    split at c
    · rename_i j t e
      have : j = i := of_decide_eq_true c
      subst this
      exact ⟨_, .int j, PySem.W.mg_of X G e, ⟨t, rfl⟩, .int j⟩
    · cases c
  · rename_i z
    split at c
    · rename_i y t e
      obtain ⟨c1, c2⟩ := b2 c
      have : y = z := of_decide_eq_true c1
      subst this
      exact ⟨_, .str y, PySem.W.mg_of X G e, ⟨t, rfl⟩, .str (okB_ok c2)⟩
    · cases c
  · cases c
theorem exc0_ok (X : K.In h) (G : h.Ns mainGlobals mg) {c : Str} (e : exc0B K c = true) : ExcF ⟨P, w, K, mg, base, T, ad⟩ c := by
  unfold exc0B at e
  obtain ⟨e, e5⟩ := b2 e
  obtain ⟨e, e4⟩ := b2 e
  obtain ⟨e, e3⟩ := b2 e
  obtain ⟨e1, e2⟩ := b2 e
  refine ⟨PySem.W.mg_of X G (of_decide_eq_true e1), e2, ?_, of_decide_eq_true e4, of_decide_eq_true e5⟩
  rw [Bool.or_eq_true] at e3
  rcases e3 with e3 | e3
  · exact ⟨_, _, _, _, F.excBase_ValueError, e3⟩
  · exact ⟨_, _, _, _, F.excBase_LookupError, e3⟩
theorem oex_ok {C : Addr} (e : oexB K C = true) : OexG K C := by
  unfold oexB at e
  obtain ⟨e, e5⟩ := b2 e
  obtain ⟨e, e4⟩ := b2 e
  obtain ⟨e, e3⟩ := b2 e
  obtain ⟨e1, e2⟩ := b2 e
  refine ⟨?_, of_decide_eq_true e2, of_decide_eq_true e3, of_decide_eq_true e4, e5⟩
  split at e1
  · rename_i dd cd sl ho
    split at e1
    · rename_i C' bm k0 k1 k2 k3 n k5 hm hs
      obtain ⟨h1, e1⟩ := b2 e1
      obtain ⟨h2, e1⟩ := b2 e1
      obtain ⟨h3, h4⟩ := b2 e1
      have h1 := of_decide_eq_true h1
      obtain ⟨nm, bs, mro, ns, qn, hd, sn, sub, ab, col, del⟩ := cd
      dsimp only at hm h3 h4
      rw [Bool.not_eq_true'] at h3
      subst hm h3 h4 h1
      rw [Bool.or_eq_true] at h2
      rcases h2 with h2 | h2
      · obtain ⟨h2, h5⟩ := b2 h2
        have h2 := of_decide_eq_true h2
        subst h2
        have hsl : sl = #[k0, k1, k2, k3, some (.builtin "ValueError.__new__"), k5] := by
          obtain ⟨l⟩ := sl
          simp only at hs
          rw [hs]
        subst hsl
        exact ⟨nm, qn, ns, bs, bm, sn, sub, ab, col, dd, k0, k1, k2, k3, k5, _, _, _, _, F.excBase_ValueError, fun Y => PySem.HandSPX.refsVE_contains Y bm h5, PySem.PvX.mroVE (l := .ref _ :: bm) h5, ho⟩
      · obtain ⟨h2, h5⟩ := b2 h2
        have h2 := of_decide_eq_true h2
        subst h2
        have hsl : sl = #[k0, k1, k2, k3, some (.builtin "LookupError.__new__"), k5] := by
          obtain ⟨l⟩ := sl
          simp only at hs
          rw [hs]
        subst hsl
        exact ⟨nm, qn, ns, bs, bm, sn, sub, ab, col, dd, k0, k1, k2, k3, k5, _, _, _, _, F.excBase_LookupError, fun Y => PySem.PvX.refsLE_contains Y bm h5, PySem.PvX.mroLE (l := .ref _ :: bm) h5, ho⟩
    · cases e1
  · cases e1
theorem excC_ok {D : Addr} (e : excCB K D = true) : ExcC K D := by
  unfold excCB at e
  obtain ⟨e, e8⟩ := b2 e
  obtain ⟨e, e7⟩ := b2 e
  obtain ⟨e, e6⟩ := b2 e
  obtain ⟨e, e5⟩ := b2 e
  obtain ⟨e, e4⟩ := b2 e
  obtain ⟨e, e3⟩ := b2 e
  obtain ⟨e1, e2⟩ := b2 e
  exact ⟨of_decide_eq_true e1, of_decide_eq_true e2, of_decide_eq_true e3, e4, of_decide_eq_true e5, of_decide_eq_true e6, of_decide_eq_true e7, of_decide_eq_true e8⟩
theorem mat_ok (e : matB K xn = true) : ExMat ⟨P, w, K, mg, base, T, ad⟩ xn ∧ ExIs ⟨P, w, K, mg, base, T, ad⟩ xn := by
  have one : ∀ c ∈ xn, _ := fun c hc => List.all_eq_true.mp e c hc
  refine ⟨⟨fun c x b hb => ?_⟩, ⟨fun c x b hb => ?_, fun c hc => ?_, fun c hc f hf => ?_⟩⟩
  · obtain ⟨hc, hx⟩ := subOf_mem hb
    obtain ⟨e1, _⟩ := b2 (one c hc)
    obtain ⟨_, e2⟩ := b2 e1
    have e3 := List.all_eq_true.mp e2 x hx
    rw [hb] at e3
    exact of_decide_eq_true e3
  · have hc : c ∈ xn := by
      unfold isxOf at hb
      split at hb
      · rename_i h1; simpa using h1
      · cases hb
    have hx : x ∈ ("ValueError" : Str) :: ("LookupError" : Str) :: xn := by
      unfold isxOf at hb
      split at hb
      · split at hb
        · rename_i h1; rw [h1]; exact List.mem_cons_self
        · split at hb
          · rename_i h1; rw [h1]; exact List.mem_cons_of_mem _ List.mem_cons_self
          · exact List.mem_cons_of_mem _ (List.mem_cons_of_mem _ (subOf_mem hb).2)
      · cases hb
    obtain ⟨_, e1⟩ := b2 (one c hc)
    have e3 := List.all_eq_true.mp e1 x hx
    rw [hb] at e3
    exact of_decide_eq_true e3
  · obtain ⟨e1, _⟩ := b2 (one c hc)
    obtain ⟨e1, _⟩ := b2 e1
    obtain ⟨e1, _⟩ := b2 e1
    exact excC_ok e1
  · obtain ⟨e1, _⟩ := b2 (one c hc)
    obtain ⟨e1, _⟩ := b2 e1
    obtain ⟨_, e1⟩ := b2 e1
    exact of_decide_eq_true (List.all_eq_true.mp e1 f hf)
end
/-! ### a law's data, the Hook -/
/-- defs by number (where each stands), module names that are defs, constants, objects; exception classes: all, without and with own __init__ -/
structure LawD where
  key : List (Nat × (Str × Option Str))
  fs : List (Str × Nat)
  cs : List (Str × Val)
  gs : List Str
  xn : List Str
  x0 : List Str
  xI : List (Str × XDef)
def LawD.ad (L : LawD) (K : Frag) (i : Nat) : Addr := match L.key.lookup i with
  | some k => He.fAd K k
  | none => 0
def LawD.ok (L : LawD) (K : Frag) : Bool := (L.fs.all fun p => glB K p.1 (L.ad K p.2) && keepIn K (.ref (L.ad K p.2))) && (L.cs.all fun p => conB K p.1 p.2) && (L.gs.all fun x => glB K x (He.ga K x)) && (bnames.all fun x => frB K x) && matB K L.xn && (L.x0.all fun c => exc0B K c) &&
  (L.xI.all fun p => glB K p.1 (He.ga K p.1) && oexB K (He.ga K p.1) && (p.2.fl.all fun f => decide (findIn K (.ref (He.ga K p.1)) f = some none)) && decide (findIn K (.ref (He.ga K p.1)) "__init__" = some (some (.ref (He.fAd K (p.1, some "__init__"))))) && decide (typeIn K (.ref (He.fAd K (p.1, some "__init__"))) = some (.type "function")))
abbrev AlP : Type := Bool × List He.FnW
def obsP (L : LawD) (fn : List He.DefD) (K : Frag) : AlP := (L.ok K && fn.all fun d => d.ok K, fn.map fun d => He.fnW K d.at_)
def valP (fn : List He.DefD) : AlP := (true, fn.map He.DefD.val)
def SaysP (L : LawD) (fn : List He.DefD) (K : Frag) : Prop := obsP L fn K = valP fn
def obsPG (n : Nat) (L : LawD) (fn : List He.DefD) (g : Addr → Option Obj) : AlP := obsP L fn (He.frG g (He.asD g n))
def hookP (n : Nat) (L : LawD) (fn : List He.DefD) : PySem.W.Hook where
  α := AlP
  obs := fun s => obsPG n L fn s.heap.get?
  val := fun _ => valP fn
  says := fun _ h => ∃ K : Frag, K.In h ∧ SaysP L fn K
  of := fun _ _ e => ⟨_, He.frG_in, e⟩
  keeps := fun _ _ _ ⟨K, hK, c⟩ k => ⟨K, PySem.W.Frag.In.keeps hK k, c⟩
theorem obsPG_eq {n : Nat} {L : LawD} {fn : List He.DefD} {g : Addr → Option Obj} {s : Shared} (h : ∀ a, g a = s.heap.get? a) : obsPG n L fn g = (hookP n L fn).obs s := by
  have e : g = s.heap.get? := funext h
  subst e
  rfl
section
variable {L : LawD} {fn : List He.DefD} {K : Frag}
theorem SaysP.law (c : SaysP L fn K) : L.ok K = true := (b2 (congrArg Prod.fst c)).1
theorem SaysP.def_ (c : SaysP L fn K) (i : Nat) {d : He.DefD} (h : fn[i]? = some d) : ∃ fd, FunD K d.name d.qual d.params d.body d.scope (d.dvs K) (d.kws K) (He.fAd K d.at_) fd := by
  refine He.DefD.funD ?_ ?_
  · have e := congrArg (fun l => l[i]?) (congrArg Prod.snd c)
    simp only [obsP, valP, List.getElem?_map, h, Option.map_some] at e
    exact Option.some.inj e
  · exact List.all_eq_true.mp (b2 (congrArg Prod.fst c)).2 d (List.mem_of_getElem? h)
variable {h : Heap} {mg : Str → Option Value} {P : Program} {w : World} {base : Heap} {T : Tab}
structure Facts (L : LawD) (Y : Sys) : Prop where
  kn : Kn Y L.fs L.cs L.gs
  em : ExMat Y L.xn
  is : ExIs Y L.xn
  x0 : ∀ c ∈ L.x0, ExcF Y c
  xI : ∀ p ∈ L.xI, glB Y.K p.1 (He.ga Y.K p.1) = true ∧ OexG Y.K (He.ga Y.K p.1) ∧ (∀ f ∈ p.2.fl, findIn Y.K (.ref (He.ga Y.K p.1)) f = some none) ∧ findIn Y.K (.ref (He.ga Y.K p.1)) "__init__" = some (some (.ref (He.fAd Y.K (p.1, some "__init__")))) ∧ typeIn Y.K (.ref (He.fAd Y.K (p.1, some "__init__"))) = some (.type "function") ∧ Y.mg p.1 = some (.ref (He.ga Y.K p.1))
theorem facts_of (X : K.In h) (G : h.Ns mainGlobals mg) (c : SaysP L fn K) : Facts L ⟨P, w, K, mg, base, T, L.ad K⟩ := by
  have e := c.law
  unfold LawD.ok at e
  obtain ⟨e, e7⟩ := b2 e
  obtain ⟨e, e6⟩ := b2 e
  obtain ⟨e, e5⟩ := b2 e
  obtain ⟨e, e4⟩ := b2 e
  obtain ⟨e, e3⟩ := b2 e
  obtain ⟨e1, e2⟩ := b2 e
  obtain ⟨m1, m2⟩ := mat_ok (P := P) (w := w) (mg := mg) (base := base) (T := T) (ad := L.ad K) e5
  refine ⟨⟨fun p hp => ?_, fun p hp => ?_, fun x hx => ?_, fun x hx => ?_⟩, m1, m2, fun c hc => ?_, fun p hp => ?_⟩
  · obtain ⟨a1, a2⟩ := b2 (List.all_eq_true.mp e1 p hp)
    exact ⟨PySem.W.mg_of X G (of_decide_eq_true a1), a2⟩
  · exact con_ok X G (List.all_eq_true.mp e2 p hp)
  · exact PySem.W.mg_of X G (of_decide_eq_true (List.all_eq_true.mp e3 x hx))
  · exact PySem.W.mg_none_of X G (of_decide_eq_true (List.all_eq_true.mp e4 x hx))
  · exact exc0_ok X G (List.all_eq_true.mp e6 c hc)
  · obtain ⟨a, a5⟩ := b2 (List.all_eq_true.mp e7 p hp)
    obtain ⟨a, a4⟩ := b2 a
    obtain ⟨a, a3⟩ := b2 a
    obtain ⟨a1, a2⟩ := b2 a
    exact ⟨a1, oex_ok a2, fun f hf => of_decide_eq_true (List.all_eq_true.mp a3 f hf), of_decide_eq_true a4, of_decide_eq_true a5, PySem.W.mg_of X G (of_decide_eq_true a1)⟩
end
end Pv
end
/-! PvXnew -/
section
set_option Elab.async false
set_option linter.all false
set_option maxRecDepth 100000
set_option autoImplicit false
/-! Pv: exceptions made as values. -/
namespace Pv
open PySem PySem.Spec PyProof.Rows L2
def eExc0 (c : Str) : Tm := fun cfg rho h => if cfg.hot.isSome then .bad else .ok (.ref h.length) (h ++ [.xob c []])
def eExc (c : Str) (x : XDef) (t : Ta) (ks : List Str) (u : Ta) : Tm := fun cfg rho h => if cfg.hot.isSome then .bad else (t cfg rho h).bind fun vs h => (u cfg rho h).bind fun ws h => (excK x ks vs ws h).bind fun fs h => .ok (.ref h.length) (h ++ [.xob c fs])
section
variable {Y : Sys} {c : Sc} {es : List Expr} {mt mk : Ta} {kws : List Keyword} {pos p rp : Pos} {x : Str} {xd : XDef}
theorem simE_exc0 (F : ExcF Y x) (hg : gloB c x = true) : SimE Y.G c (.Call (.Name x p) [] [] pos) (eExc0 x) := .mk <| by
  intro cfg X g xi pins rho mu vh sg H s Q E S W q
  unfold eExc0 at q
  split at q
  · exact q.elim
  obtain ⟨h1, h2⟩ := gloB_ok hg
  have K1 := g.K
  refine wpAny_Call_Name_kw (ld_glob S.inv (by show X.env.scope.names.lookup x = _; rw [xi.sc]; exact h1) (by rw [g.mg]; exact F.glo) ?_ h2)
  refine PySem.W.callWith_K0 S.inv.kIn (by rw [K1]; exact F.kp) ?_
  obtain ⟨B, newId, initId, bmB, BF, qq⟩ := F.base
  obtain ⟨bm, N, nm, qn, bs, hdct, sn, sub, ab, col, dd, k0, k1, k2, k3, k5, mN, hC, hN, hni, T⟩ := exc_obj (K := Y.K) (by rw [← K1]; exact S.inv.kIn) qq
  refine wpAny_call_exc_subT BF T hC hN hni (fun h' e hm => ?_) (by show 0 ≤ sizeLine; exact Nat.zero_le _)
  obtain ⟨t, ht, _, _⟩ := hm.there
  have hn := S.inv.hok.gone hm.new
  have J : Inv X pins sg (upd H e (exo e (He.ga Y.K x) none)) { s with heap := h', toks := s.toks } := S.inv.laidN hm.keeps hm.new hn (exo_ok ht)
  have q2 : Q (.ref vh.length) (vh ++ [.xob x []]) := q
  have R2 : Rel X.prog X.w X.K (mu ++ [e]) (vh ++ [.xob x []]) (upd H e (exo e (He.ga Y.K x) none)) := S.rel.new hn ⟨none, by rw [K1]; exact upd_same, .inl ⟨rfl, rfl⟩⟩
  have gg : Ex mu vh H (mu ++ [e]) (vh ++ [.xob x []]) (upd H e (exo e (He.ga Y.K x) none)) := Ex.new _ S.rel.len hn
  exact ⟨.ref vh.length, vh ++ [.xob x []], .ref e, mu ++ [e], upd H e (exo e (He.ga Y.K x) none), q2, S.step J R2 gg, gg, .ref (by rw [← S.rel.len]; exact List.getElem?_concat_length), rfl⟩
theorem make_obj (F : ExcI Y x xd) {cfg : Cfg} {X : Cx} (g : Y.G cfg X) (hot : cfg.hot = none) {pins : List (Addr × Obj)} {rho : Env} {mu1 : List Addr} {vh1 : VH} {sg : Sl} {H1 : Hp} {s1 : Shared} {Q : Val → VH → Prop} {E : Str → Flds → VH → Prop} {ks : List Str} {vs ws : List Val} {xs zs : List V} {us ts : List Value}
    (S1 : Sm X cfg.hot pins rho mu1 vh1 sg H1 s1) (rv : RVs X.K mu1 H1 vs xs) (ru : Vals xs us) (rk : RVs X.K mu1 H1 ws zs) (rt : Vals zs ts)
    (q : (excK xd ks vs ws vh1).W (fun fs vh' => Q (.ref vh'.length) (vh' ++ [.xob x fs])) E) :
    wpAny (model X.prog X.w) X.A (call (.ref (He.ga X.K x)) us (ks.zip ts)) (EQ X cfg.hot pins rho mu1 vh1 sg H1 Q) X.xe s1 := by
  obtain ⟨k, ec, rm, C⟩ := g.lv
  have K1 := g.K
  unfold excK at q
  split at q
  · rename_i fz eB
    split at q
    · rename_i hlen
      obtain ⟨hfl, hvs⟩ := hlen
      have I1 := S1.inv
      have hc : X.calm = true := g.calm hot
      obtain ⟨fI, fd, dvs, name, qual, params, body, scope, iC, tI, FD, e1, e2, e3, e4, e5, rdf, F1⟩ := F.ini
      have T := F.T
      obtain ⟨nm, qn, N, bs, bm, sn, sub, ab, col, dd, k0, k1, k2, k3, k5, B, newId, initId, bmB, BF, hT, hM, hC⟩ := T.cls
      obtain ⟨oc, od, dV, kV, doc, pm, an, cdv, ct, osl, rfl, lk, hcd, hD, hK⟩ := FD.ex
      -- the level is not nought: else nothing is told of room
      have hroom : Room 1 (X.A.under (.builtin "type.__call__" ⟨.ref (He.ga X.K x) :: us, ks.zip ts⟩)) := by
        have h1 := rm.dp
        have h2 := rm.un
        exact ⟨I1.ok.hd hc, by rw [make_depth]; omega, by rw [make_units]; omega⟩
      obtain ⟨hp, gn, dr, tk, os⟩ := s1
      have hsz : hp.objs.size ≤ hp.objs.size + 1 := Nat.le_succ _
      have hn : H1 (hp.objs.size + 1) = none := I1.hok.fresh hsz
      rw [← K1] at hC
      have hCh := I1.kIn _ _ hC
      have kk : ∀ b o, hp.get? b = some o → ((hp.push (PySem.W.kdv_tup us)).push (PySem.HandSPX.excO (He.ga X.K x) hp.objs.size)).get? b = some o := fun b o e => Heap.get?_push_of_some _ (Heap.get?_push_of_some _ e)
      have hget : ((hp.push (PySem.W.kdv_tup us)).push (PySem.HandSPX.excO (He.ga X.K x) hp.objs.size)).get? (hp.objs.size + 1) = some (PySem.HandSPX.excO (He.ga X.K x) hp.objs.size) := by heap_get
      have I2 : Inv X pins sg (upd H1 (hp.objs.size + 1) (exo (hp.objs.size + 1) (He.ga X.K x) none)) ⟨(hp.push (PySem.W.kdv_tup us)).push (PySem.HandSPX.excO (He.ga X.K x) hp.objs.size), gn, dr, tk, os⟩ :=
        I1.laid (t' := tk) (a := hp.objs.size + 1) (o := exo (hp.objs.size + 1) (He.ga X.K x) none) (h' := (hp.push (PySem.W.kdv_tup us)).push (PySem.HandSPX.excO (He.ga X.K x) hp.objs.size)) kk hsz (exo_ok hget)
      have KX2 : Y.K.In ((hp.push (PySem.W.kdv_tup us)).push (PySem.HandSPX.excO (He.ga X.K x) hp.objs.size)) := by rw [← K1]; exact I2.kIn
      obtain ⟨its, rI, hL⟩ := dfl_looks KX2 hD
      have rd : Paired (RO' X.K mu1 H1 (hp.objs.size + 1)) (xd.dfl.map some) its := by
        rw [K1]
        exact RO'.of (RU.of (rdf.gro (Gro.zero mu1 H1)) rI)
      -- how it binds
      have eB' : bindL xd.nm [] (xd.dfl.map some) (fun _ => none) (none :: vs.map some) ((ks.zip ws).map fun p => (p.1, some p.2)) = some (none :: fz.map some) := by
        unfold excBind at eB
        split at eB
        · rename_i zs0 e0
          rw [e0, unO_some eB]
        · cases eB
      obtain ⟨zu, eBu, pz⟩ := bindL_rel (R := RO' X.K mu1 H1 (hp.objs.size + 1)) (dfl' := its) (kwd' := fun _ => none) (pos := none :: vs.map some) (pos' := .ref (hp.objs.size + 1) :: us) (kw' := ks.zip ts) rd (fun n hn => by cases hn) (.cons (show RO' X.K mu1 H1 (hp.objs.size + 1) none (.ref (hp.objs.size + 1)) from rfl) (RO'.of (RU.of rv ru))) (RPO.of (RP.zip (RU.of rk rt))) eB'
      cases pz with
      | @cons _ u0 _ zr r0 pz =>
        obtain rfl : u0 = Value.ref (hp.objs.size + 1) := r0
        obtain ⟨zx, rz, rzu⟩ := RU.to (RO'.to pz)
        have hb : BindsTo ⟨(hp.push (PySem.W.kdv_tup us)).push (PySem.HandSPX.excO (He.ga X.K x) hp.objs.size), gn, dr, tk, os⟩ (PySem.W.fnOf name qual params body scope dV kV doc pm an cdv ct) ⟨.ref (hp.objs.size + 1) :: us, ks.zip ts⟩ (xd.nm.zip (.ref (hp.objs.size + 1) :: zr)) := by
          have := binds_of (fd := PySem.W.fnOf name qual params body scope dV kV doc pm an cdv ct) (s := ⟨(hp.push (PySem.W.kdv_tup us)).push (PySem.HandSPX.excO (He.ga X.K x) hp.objs.size), gn, dr, tk, os⟩) (us := .ref (hp.objs.size + 1) :: us) (zs := .ref (hp.objs.size + 1) :: zr) (kw := ks.zip ts) (its := its) (kwd := fun _ => none) KX2 e1 e2 e3 hL (fun n v e => by cases e)
            (by show bindL (params.args.map (·.arg)) (params.kwonlyargs.map (·.arg)) its (fun _ => none) _ (ks.zip ts) = _; rw [e4, e5]; exact eBu)
          have h2 : (PySem.W.fnOf name qual params body scope dV kV doc pm an cdv ct).params = params := rfl
          rw [h2, e4, e5] at this
          rw [List.map_nil, List.append_nil] at this
          exact this
        have hq : spI Y.K (He.ga Y.K x) xd.fl (V.ref (hp.objs.size + 1) :: zx) (upd H1 (hp.objs.size + 1) (exo (hp.objs.size + 1) (He.ga X.K x) none))
            (fun v H2 => v = .non ∧ ∃ d, d ≠ hp.objs.size + 1 ∧ H1 d = none ∧ H2 = iniH (upd H1 (hp.objs.size + 1) (exo (hp.objs.size + 1) (He.ga X.K x) none)) (hp.objs.size + 1) (He.ga X.K x) d (xd.fl.zip zx).reverse) (fun _ _ _ => False) := by
          refine ⟨_, zx, rfl, by rw [← rz.length, hfl], by rw [K1]; exact upd_same, T, F.hf, fun d hd ne => ⟨rfl, d, ne, ?_, by rw [K1]⟩⟩
          rw [upd_ne ne] at hd
          exact hd
        have hus : us.length ≤ sizeLine := by
          rw [← Paired.length ru, ← rv.length, sizeLine_eq]
          omega
        have eC := g.P
        have run := (F1 0).run (X.A.under (.builtin "type.__call__" ⟨.ref (He.ga X.K x) :: us, ks.zip ts⟩)) X.stack ⟨(hp.push (PySem.W.kdv_tup us)).push (PySem.HandSPX.excO (He.ga X.K x) hp.objs.size), gn, dr, tk, os⟩ (upd H1 (hp.objs.size + 1) (exo (hp.objs.size + 1) (He.ga X.K x) none)) ⟨Value.ref (hp.objs.size + 1) :: us, ks.zip ts⟩ (Value.ref (hp.objs.size + 1) :: zr) (V.ref (hp.objs.size + 1) :: zx) _ _ hroom
          (by have := I2.env0.make (He.ga X.K x) us (ks.zip ts); rw [g.P, g.w, g.mg, g.base] at this; rw [← K1]; exact this) hb (.cons rfl rzu) hq
        rw [← g.P, ← g.w] at run
        refine wpAny_call (PySem.PvX.callK BF hT hCh (PySem.W.looks_findIn I1.kIn (by rw [K1]; exact iC)) (fun self => PySem.W.bind_fn I1.kIn self (by rw [K1]; exact tI)) hus (codeAny_mono run fun r s' hq' => ?_))
        cases r with
        | error er =>
          obtain ⟨_, _, _, _, _, _, _, _, _, _, _, _, z⟩ := hq'
          exact z.elim
        | ok fl =>
          cases fl with
          | ret u =>
            have hq2 : CE X.stack X.prog X.w (upd H1 (hp.objs.size + 1) (exo (hp.objs.size + 1) (He.ga X.K x) none)) _ _ u s' := hq'
            obtain ⟨vx, H', I3, rvx, ev, d, ne, hd1, eH⟩ := I2.after hq2
            subst ev eH
            have ed : iniH (upd H1 (hp.objs.size + 1) (exo (hp.objs.size + 1) (He.ga X.K x) none)) (hp.objs.size + 1) (He.ga X.K x) d (xd.fl.zip zx).reverse d = some (exd d (xd.fl.zip zx).reverse) := by
              unfold iniH
              rw [upd_ne ne, upd_same]
            obtain ⟨mA, hns, rel⟩ := exd_at I3.hok ed
            have hd2 : ∃ u, s'.heap.get? d = some u := by
              obtain ⟨o, _, _, e', _⟩ := hns
              exact ⟨o, e'⟩
            have J := I3.write (t' := s'.toks) (x := d) (e := d) (o := .xd (xd.fl.zip zx).reverse) (h' := s'.heap) (by rw [ed]; exact True.intro) (.inl rfl) (fun _ _ _ h => h) hd2 ⟨mA, hns, rel⟩
            have eH2 : upd (iniH (upd H1 (hp.objs.size + 1) (exo (hp.objs.size + 1) (He.ga X.K x) none)) (hp.objs.size + 1) (He.ga X.K x) d (xd.fl.zip zx).reverse) d (.xd (xd.fl.zip zx).reverse) = upd (upd H1 d (.xd (xd.fl.zip zx).reverse)) (hp.objs.size + 1) (exo (hp.objs.size + 1) (He.ga X.K x) (some d)) := by
              funext b
              unfold iniH
              by_cases hd : b = d
              · subst hd; rw [upd_same, upd_ne ne, upd_same]
              · rw [upd_ne hd]
                by_cases hb : b = hp.objs.size + 1
                · subst hb; rw [upd_same, upd_same]
                · rw [upd_ne hb, upd_ne hb, upd_ne hd, upd_ne hb, upd_ne hd]
            rw [eH2] at J
            have n3 : upd H1 d (.xd (xd.fl.zip zx).reverse) (hp.objs.size + 1) = none := by rw [upd_ne (Ne.symm ne)]; exact hn
            have gA : Ex mu1 vh1 H1 mu1 vh1 (upd H1 d (.xd (xd.fl.zip zx).reverse)) := Ex.laid hd1
            have gB : Ex mu1 vh1 (upd H1 d (.xd (xd.fl.zip zx).reverse)) (mu1 ++ [hp.objs.size + 1]) (vh1 ++ [.xob x (xd.fl.zip fz).reverse]) (upd (upd H1 d (.xd (xd.fl.zip zx).reverse)) (hp.objs.size + 1) (exo (hp.objs.size + 1) (He.ga X.K x) (some d))) := Ex.new _ S1.rel.len n3
            have gg := gA.trans gB
            have R2 : Rel X.prog X.w X.K (mu1 ++ [hp.objs.size + 1]) (vh1 ++ [.xob x (xd.fl.zip fz).reverse]) (upd (upd H1 d (.xd (xd.fl.zip zx).reverse)) (hp.objs.size + 1) (exo (hp.objs.size + 1) (He.ga X.K x) (some d))) :=
              (S1.rel.laid hd1).new n3 ⟨some d, upd_same, .inr ⟨d, (xd.fl.zip zx).reverse, rfl, by rw [upd_ne ne, upd_same], FV.rev (FV.of (rz.gro gg.gro))⟩⟩
            exact ⟨rvx, .ref vh1.length, _, .ref (hp.objs.size + 1), _, _, q, S1.step J R2 gg, gg, .ref (by rw [← S1.rel.len]; exact List.getElem?_concat_length), rfl⟩
          | next => exact False.elim hq'
          | brk => exact False.elim hq'
          | cont => exact False.elim hq'
    · exact q.elim
  · exact q.elim
theorem simE_exc (F : ExcI Y x xd) (hg : gloB c x = true) (ht : SimA Y.G c es mt) (hk : SimK Y.G c kws mk) (hs : es.all noStar = true) (hkw : kwAll kws = true) : SimE Y.G c (.Call (.Name x p) es kws pos) (eExc x xd mt (kwsOf kws) mk) := .mk <| by
  intro cfg X g xi pins rho mu vh sg H s Q E S W q
  have hot : cfg.hot = none := by
    unfold eExc at q
    split at q
    · exact q.elim
    · rename_i hh; exact hot_none hh
  unfold eExc at q
  rw [if_neg (by rw [hot]; exact Bool.false_ne_true)] at q
  obtain ⟨h1, h2⟩ := gloB_ok hg
  have K1 := g.K
  refine wpAny_Call_Name_kw (ld_glob S.inv (by show X.env.scope.names.lookup x = _; rw [xi.sc]; exact h1) (by rw [g.mg]; exact F.glo) ?_ h2)
  refine call_args (first := []) (k := fun vs ws h => (excK xd (kwsOf kws) vs ws h).bind fun fs h => .ok (Val.ref h.length) (h ++ [.xob x fs])) g xi (by rw [K1]; exact F.T.kC) ht hk hs hkw S W q fun vs ws vh1 xs' zs mu1 H1 us ts s1 S1 g1 rv r rk rt hl q1 => ?_
  rw [← K1]
  rw [Out.W_bind] at q1
  exact thn (make_obj F g hot S1 rv r rk rt q1) fun z s2 hz => hz.from g1
end
end Pv
end
/-! PvSplit -/
section
set_option Elab.async false
set_option linter.all false
set_option maxRecDepth 100000
set_option autoImplicit false
/-! Pv: split of a text. -/
namespace Pv
open PySem PySem.Spec PyProof.Rows L2
def goodS (y : Str) : Bool := PyData.strOk y && decide (y.length ≤ 16777216)
def mSplit (o : Val) (vs : List Val) (h : VH) : Out Val := match o, vs with
  | .str a, [.str b] => if b.length ≠ 0 ∧ a.length + 2 ≤ 16777216 ∧ (Txt.split a b).all goodS = true then .ok (.ref h.length) (h ++ [.lst ((Txt.split a b).map .str)]) else .bad
  | _, _ => .bad
theorem RVs.ofStrs {K : PySem.W.Frag} {mu : List Addr} {H : Hp} : ∀ {ys : List Str}, ys.all goodS = true → RVs K mu H (ys.map .str) (ys.map V.str)
  | [], _ => .nil
  | y :: ys, h => by
    rw [List.all_cons, Bool.and_eq_true] at h
    have h1 := h.1
    unfold goodS at h1
    rw [Bool.and_eq_true] at h1
    have hs := sizeLine_eq
    have h2 := of_decide_eq_true h1.2
    exact .cons (.str ⟨h1.1, by omega⟩) (RVs.ofStrs h.2)
theorem sim_split : SimMt "str.split" Rm mSplit := simMt_of (fun _ _ _ => mt_split) fun cfg X k pins rho mu vh sg H s v x vs xs Q E S rv rvs q => by
  cases rv with
  | str hz =>
    rename_i a
    cases rvs with
    | nil => exact q.elim
    | cons r1 rvs =>
      cases rvs with
      | cons _ _ => cases r1 <;> exact q.elim
      | nil =>
        cases r1 with
        | str hb =>
          rename_i b
          have q1 : (if b.length ≠ 0 ∧ a.length + 2 ≤ 16777216 ∧ (Txt.split a b).all goodS = true then .ok (.ref vh.length) (vh ++ [.lst ((Txt.split a b).map .str)]) else .bad : Out Val).W Q E := q
          split at q1
          · rename_i hc
            obtain ⟨h1, h2, h3⟩ := hc
            have hs := sizeLine_eq
            refine ⟨a, b, rfl, rfl, by simpa using h1, by omega, fun p hp => ?_⟩
            have gw : Ex mu vh H (mu ++ [p]) (vh ++ [.lst ((Txt.split a b).map .str)]) (upd H p (.lst ((Txt.split a b).map V.str))) := Ex.new _ S.rel.len hp
            exact ⟨.ref vh.length, _, mu ++ [p], q1, S.rel.new hp ⟨_, upd_same, RVs.ofStrs h3⟩, gw, .ref (by rw [← S.rel.len]; exact List.getElem?_concat_length)⟩
          · exact q1.elim
        | _ => exact q.elim
  | _ => exact q.elim
section
variable {G : World'} {c : Sc} {o e : Expr} {es : List Expr} {mo : Tm} {mt : Ta} {apos pos : Pos}
theorem mSplitG (w : Wd G) (ho : SimE G c o mo) (ht : SimA G c (e :: es) mt) (hs : (e :: es).all noStar = true) (hf : decide ((e :: es).length < 30) = true) (hb : ∀ env : PySem.Env, attributeBase o "split" env (eval o env) = eval o env) (hl : (apos.endLine == pos.line) = true) :
    SimE G c (.Call (.Attribute o "split" apos) (e :: es) [] pos) (eMeth "str" mSplit mo mt) := simE_meth w F.plainAttrs_str F.slot_str_split F.type_str_split sim_split ho ht hs hf hb hl
end
end Pv
end
/-! PlBase -/
section
set_option Elab.async false
set_option linter.all false
set_option maxRecDepth 100000
set_option autoImplicit false
/-! Pl: to evaluate pure meanings by simp: rules. (printed by mkbase.py) -/
namespace Pv
open PySem
abbrev XN : List Str := ["NestError", "AbsentError", "NoSigns", "NoPlace", "NoGivens", "NoUnlikes", "NoLines", "NoModel", "NoPattern", "NoRules", "NoRounds", "NoCosts", "NoLine", "NoTerm", "TooMany", "NoText", "NoLevel", "NotKnown", "NotAlike"]
def X_NoTerm : XDef := ⟨["self", "at"], ["at"], [.int 0]⟩
def X_TooMany : XDef := ⟨["self", "many", "most"], ["many", "most"], []⟩
def X_NoText : XDef := ⟨["self", "row"], ["row"], [.int 0]⟩
def X_NoLevel : XDef := ⟨["self", "left"], ["left"], [.int 0]⟩
def X_NotKnown : XDef := ⟨["self", "term"], ["term"], []⟩
def X_NotAlike : XDef := ⟨["self", "one", "other"], ["one", "other"], []⟩
@[simp] theorem SO.seq_rt (v : Val) (h : VH) (k : Env → VH → SO) : (SO.rt v h).seq k = .rt v h := rfl
@[simp] theorem SO.seq_bk (r : Env) (h : VH) (k : Env → VH → SO) : (SO.bk r h).seq k = .bk r h := rfl
@[simp] theorem SO.seq_ct (r : Env) (h : VH) (k : Env → VH → SO) : (SO.ct r h).seq k = .ct r h := rfl
@[simp] theorem SO.seq_er (c : Str) (f : Flds) (r : Env) (h : VH) (k : Env → VH → SO) : (SO.er c f r h).seq k = .er c f r h := rfl
def enSrc (v : Val) (h : VH) : Option (Wat × List Val) := match v with
  | .str _ => none
  | v => srcOf v h
/-- a continuation that simp leaves alone till it is reached: the last argument's type hangs on it -/
def Tag {α : Sort _} (k : α) : Type := Nat
def tg {α : Sort _} (k : α) : Tag k := (0 : Nat)
def Out.lz {α β : Type} (o : Out α) (k : α → VH → Out β) (t : Tag k := tg k) : Out β := o.bind k
def Out.lzn {α β : Type} (o : Out α) (k : α → VH → Out β) (t : Tag k := tg k) : Out β := o.bn k
def Out.lzt {α : Type} (o : Out α) (rho : Env) (k : α → VH → SO) (t : Tag k := tg k) : SO := o.to rho k
def Out.lz0 {α : Type} (o : Out α) (k : α → VH → SO) (t : Tag k := tg k) : SO := o.to0 k
def SO.lzs (o : SO) (k : Env → VH → SO) (t : Tag k := tg k) : SO := o.seq k
def onBl (z : Val) (a b : Out Val) : Out Val := match z with
  | .bl true => a
  | .bl false => b
  | _ => .bad
theorem call_eq {T : Tab} {f : Nat} {d : FDef} {vs zs : List Val} {ws : List (Str × Val)} (hT : T.lookup f = some d) (hb : bindL d.nm d.ko d.dfl (fun n => d.kwd.lookup n) vs ws = some zs) (k : Nat) (hot : Option Nat) (h : VH) :
    callN T (k + 1) hot f vs ws h = runF d ⟨callN T k, hot⟩ zs h := by
  show (match T.lookup f with
    | some d => (match bindL d.nm d.ko d.dfl (fun n => d.kwd.lookup n) vs ws with
      | some zs => runF d ⟨callN T k, hot⟩ zs h
      | none => .bad)
    | none => .bad) = _
  rw [hT]
  show (match bindL d.nm d.ko d.dfl (fun n => d.kwd.lookup n) vs ws with
      | some zs => runF d ⟨callN T k, hot⟩ zs h
      | none => .bad) = _
  rw [hb]
theorem call_eqD {T : Tab} {f : Nat} {nm ko : List Str} {dfl : List Val} {kwd : List (Str × Val)} {n : Nat} {D : Ts} {vs zs : List Val} {ws : List (Str × Val)} {env : Env} (hT : T.lookup f = some ⟨nm, ko, dfl, kwd, n, D⟩) (hb : bindL nm ko dfl (fun n => kwd.lookup n) vs ws = some zs) (hs : startE n zs = env) (k : Nat) (hot : Option Nat) (h : VH) :
    callN T (k + 1) hot f vs ws h = (D ⟨callN T k, hot⟩ env h).out := by
  rw [call_eq hT hb, ← hs]
  rfl
def idxO : Option VObj → Int → VH → Out Val
  | some (.lst vs), i, h => got (L2.atI vs i) h
  | some (.frz vs), i, h => got (L2.atI vs i) h
  | _, _, _ => .bad
def lenO : Option VObj → Option Nat
  | some (.lst vs) => some vs.length
  | some (.frz vs) => some vs.length
  | _ => none
def itmO : Option VObj → Option (List Val)
  | some (.lst vs) => some vs
  | some (.frz vs) => some vs
  | _ => none
def catO : Option VObj → Option VObj → VH → Out Val
  | some (.lst x), some (.lst y), h => if x.length + y.length ≤ LIM then .ok (.ref h.length) (h ++ [.lst (x ++ y)]) else .bad
  | _, _, _ => .bad
def mulO : Option VObj → Int → VH → Out Val
  | some (.lst x), j, h => if x.length * j.toNat ≤ LIM ∧ j < 2 ^ 62 ∧ -(2 ^ 62) < j then .ok (.ref h.length) (h ++ [.lst (repN j.toNat x)]) else .bad
  | _, _, _ => .bad
def cutO : Option VObj → Option Int → Option Int → VH → Out Val
  | some (.lst vs), lo, hi, h => .ok (.ref h.length) (h ++ [.lst (cutL vs lo hi)])
  | _, _, _, _ => .bad
def srcO (l : Nat) : Option VObj → Option (Wat × List Val)
  | some (.lst vs) => some ([(l, .lst vs)], vs)
  | some (.frz vs) => some ([(l, .frz vs)], vs)
  | _ => none
def tyO : Option VObj → Bool
  | some (.lst _) => true
  | some (.frz _) => true
  | _ => false
def trO : Option VObj → Option Bool
  | some (.lst vs) => some (!vs.isEmpty)
  | some (.frz vs) => some (!vs.isEmpty)
  | _ => none
def appO (l : Nat) : Option VObj → Val → VH → Out Val
  | some (.lst ws), y, h => if ws.length < LIM then .ok .non (h.set l (.lst (ws ++ [y]))) else .bad
  | _, _, _ => .bad

theorem ev0 : (∀ (v : Val) (c : Cfg) (rho : Env) (h : VH), eC v c rho h = .ok v h) ∧
  (∀ (a : Val) (r : Env) (c : Cfg) (h : VH), eV 0 c (some a :: r) h = .ok a h) ∧
  (∀ (x : Option Val) (a : Val) (r : Env) (c : Cfg) (h : VH), gName 0 a c (x :: r) h = .ok (some a :: r) h) ∧
  (∀ (op : Val → Val → VH → Out Val) (e : Tm) (a : Val) (r : Env) (c : Cfg) (h : VH), sAug 0 op e c (some a :: r) h = (e c (some a :: r) h).lzt (some a :: r) fun w h => (op a w h).lz0 fun z h => .nx (some z :: r) h) ∧
  (∀ (x0 : Option Val) (a : Val) (r : Env) (c : Cfg) (h : VH), eV 1 c (x0 :: some a :: r) h = .ok a h) ∧
  (∀ (x0 : Option Val) (x : Option Val) (a : Val) (r : Env) (c : Cfg) (h : VH), gName 1 a c (x0 :: x :: r) h = .ok (x0 :: some a :: r) h) ∧
  (∀ (x0 : Option Val) (op : Val → Val → VH → Out Val) (e : Tm) (a : Val) (r : Env) (c : Cfg) (h : VH), sAug 1 op e c (x0 :: some a :: r) h = (e c (x0 :: some a :: r) h).lzt (x0 :: some a :: r) fun w h => (op a w h).lz0 fun z h => .nx (x0 :: some z :: r) h) ∧
  (∀ (x0 : Option Val) (x1 : Option Val) (a : Val) (r : Env) (c : Cfg) (h : VH), eV 2 c (x0 :: x1 :: some a :: r) h = .ok a h) ∧
  (∀ (x0 : Option Val) (x1 : Option Val) (x : Option Val) (a : Val) (r : Env) (c : Cfg) (h : VH), gName 2 a c (x0 :: x1 :: x :: r) h = .ok (x0 :: x1 :: some a :: r) h) ∧
  (∀ (x0 : Option Val) (x1 : Option Val) (op : Val → Val → VH → Out Val) (e : Tm) (a : Val) (r : Env) (c : Cfg) (h : VH), sAug 2 op e c (x0 :: x1 :: some a :: r) h = (e c (x0 :: x1 :: some a :: r) h).lzt (x0 :: x1 :: some a :: r) fun w h => (op a w h).lz0 fun z h => .nx (x0 :: x1 :: some z :: r) h) ∧
  (∀ (x0 : Option Val) (x1 : Option Val) (x2 : Option Val) (a : Val) (r : Env) (c : Cfg) (h : VH), eV 3 c (x0 :: x1 :: x2 :: some a :: r) h = .ok a h) ∧
  (∀ (x0 : Option Val) (x1 : Option Val) (x2 : Option Val) (x : Option Val) (a : Val) (r : Env) (c : Cfg) (h : VH), gName 3 a c (x0 :: x1 :: x2 :: x :: r) h = .ok (x0 :: x1 :: x2 :: some a :: r) h) :=
  ⟨by intros; first | rfl | (unfold bLen lenOf; rfl) | (unfold bTuple itemsOf; rfl) | (unfold bList itemsOf; rfl) | (rename_i p _ _; cases p <;> rfl) | (rename_i p; cases p <;> rfl), by intros; first | rfl | (unfold bLen lenOf; rfl) | (unfold bTuple itemsOf; rfl) | (unfold bList itemsOf; rfl) | (rename_i p _ _; cases p <;> rfl) | (rename_i p; cases p <;> rfl), by intros; first | rfl | (unfold bLen lenOf; rfl) | (unfold bTuple itemsOf; rfl) | (unfold bList itemsOf; rfl) | (rename_i p _ _; cases p <;> rfl) | (rename_i p; cases p <;> rfl), by intros; first | rfl | (unfold bLen lenOf; rfl) | (unfold bTuple itemsOf; rfl) | (unfold bList itemsOf; rfl) | (rename_i p _ _; cases p <;> rfl) | (rename_i p; cases p <;> rfl), by intros; first | rfl | (unfold bLen lenOf; rfl) | (unfold bTuple itemsOf; rfl) | (unfold bList itemsOf; rfl) | (rename_i p _ _; cases p <;> rfl) | (rename_i p; cases p <;> rfl), by intros; first | rfl | (unfold bLen lenOf; rfl) | (unfold bTuple itemsOf; rfl) | (unfold bList itemsOf; rfl) | (rename_i p _ _; cases p <;> rfl) | (rename_i p; cases p <;> rfl), by intros; first | rfl | (unfold bLen lenOf; rfl) | (unfold bTuple itemsOf; rfl) | (unfold bList itemsOf; rfl) | (rename_i p _ _; cases p <;> rfl) | (rename_i p; cases p <;> rfl), by intros; first | rfl | (unfold bLen lenOf; rfl) | (unfold bTuple itemsOf; rfl) | (unfold bList itemsOf; rfl) | (rename_i p _ _; cases p <;> rfl) | (rename_i p; cases p <;> rfl), by intros; first | rfl | (unfold bLen lenOf; rfl) | (unfold bTuple itemsOf; rfl) | (unfold bList itemsOf; rfl) | (rename_i p _ _; cases p <;> rfl) | (rename_i p; cases p <;> rfl), by intros; first | rfl | (unfold bLen lenOf; rfl) | (unfold bTuple itemsOf; rfl) | (unfold bList itemsOf; rfl) | (rename_i p _ _; cases p <;> rfl) | (rename_i p; cases p <;> rfl), by intros; first | rfl | (unfold bLen lenOf; rfl) | (unfold bTuple itemsOf; rfl) | (unfold bList itemsOf; rfl) | (rename_i p _ _; cases p <;> rfl) | (rename_i p; cases p <;> rfl), by intros; first | rfl | (unfold bLen lenOf; rfl) | (unfold bTuple itemsOf; rfl) | (unfold bList itemsOf; rfl) | (rename_i p _ _; cases p <;> rfl) | (rename_i p; cases p <;> rfl)⟩
theorem ev1 : (∀ (x0 : Option Val) (x1 : Option Val) (x2 : Option Val) (op : Val → Val → VH → Out Val) (e : Tm) (a : Val) (r : Env) (c : Cfg) (h : VH), sAug 3 op e c (x0 :: x1 :: x2 :: some a :: r) h = (e c (x0 :: x1 :: x2 :: some a :: r) h).lzt (x0 :: x1 :: x2 :: some a :: r) fun w h => (op a w h).lz0 fun z h => .nx (x0 :: x1 :: x2 :: some z :: r) h) ∧
  (∀ (x0 : Option Val) (x1 : Option Val) (x2 : Option Val) (x3 : Option Val) (a : Val) (r : Env) (c : Cfg) (h : VH), eV 4 c (x0 :: x1 :: x2 :: x3 :: some a :: r) h = .ok a h) ∧
  (∀ (x0 : Option Val) (x1 : Option Val) (x2 : Option Val) (x3 : Option Val) (x : Option Val) (a : Val) (r : Env) (c : Cfg) (h : VH), gName 4 a c (x0 :: x1 :: x2 :: x3 :: x :: r) h = .ok (x0 :: x1 :: x2 :: x3 :: some a :: r) h) ∧
  (∀ (x0 : Option Val) (x1 : Option Val) (x2 : Option Val) (x3 : Option Val) (op : Val → Val → VH → Out Val) (e : Tm) (a : Val) (r : Env) (c : Cfg) (h : VH), sAug 4 op e c (x0 :: x1 :: x2 :: x3 :: some a :: r) h = (e c (x0 :: x1 :: x2 :: x3 :: some a :: r) h).lzt (x0 :: x1 :: x2 :: x3 :: some a :: r) fun w h => (op a w h).lz0 fun z h => .nx (x0 :: x1 :: x2 :: x3 :: some z :: r) h) ∧
  (∀ (x0 : Option Val) (x1 : Option Val) (x2 : Option Val) (x3 : Option Val) (x4 : Option Val) (a : Val) (r : Env) (c : Cfg) (h : VH), eV 5 c (x0 :: x1 :: x2 :: x3 :: x4 :: some a :: r) h = .ok a h) ∧
  (∀ (x0 : Option Val) (x1 : Option Val) (x2 : Option Val) (x3 : Option Val) (x4 : Option Val) (x : Option Val) (a : Val) (r : Env) (c : Cfg) (h : VH), gName 5 a c (x0 :: x1 :: x2 :: x3 :: x4 :: x :: r) h = .ok (x0 :: x1 :: x2 :: x3 :: x4 :: some a :: r) h) ∧
  (∀ (x0 : Option Val) (x1 : Option Val) (x2 : Option Val) (x3 : Option Val) (x4 : Option Val) (op : Val → Val → VH → Out Val) (e : Tm) (a : Val) (r : Env) (c : Cfg) (h : VH), sAug 5 op e c (x0 :: x1 :: x2 :: x3 :: x4 :: some a :: r) h = (e c (x0 :: x1 :: x2 :: x3 :: x4 :: some a :: r) h).lzt (x0 :: x1 :: x2 :: x3 :: x4 :: some a :: r) fun w h => (op a w h).lz0 fun z h => .nx (x0 :: x1 :: x2 :: x3 :: x4 :: some z :: r) h) ∧
  (∀ (x0 : Option Val) (x1 : Option Val) (x2 : Option Val) (x3 : Option Val) (x4 : Option Val) (x5 : Option Val) (a : Val) (r : Env) (c : Cfg) (h : VH), eV 6 c (x0 :: x1 :: x2 :: x3 :: x4 :: x5 :: some a :: r) h = .ok a h) ∧
  (∀ (x0 : Option Val) (x1 : Option Val) (x2 : Option Val) (x3 : Option Val) (x4 : Option Val) (x5 : Option Val) (x : Option Val) (a : Val) (r : Env) (c : Cfg) (h : VH), gName 6 a c (x0 :: x1 :: x2 :: x3 :: x4 :: x5 :: x :: r) h = .ok (x0 :: x1 :: x2 :: x3 :: x4 :: x5 :: some a :: r) h) ∧
  (∀ (x0 : Option Val) (x1 : Option Val) (x2 : Option Val) (x3 : Option Val) (x4 : Option Val) (x5 : Option Val) (op : Val → Val → VH → Out Val) (e : Tm) (a : Val) (r : Env) (c : Cfg) (h : VH), sAug 6 op e c (x0 :: x1 :: x2 :: x3 :: x4 :: x5 :: some a :: r) h = (e c (x0 :: x1 :: x2 :: x3 :: x4 :: x5 :: some a :: r) h).lzt (x0 :: x1 :: x2 :: x3 :: x4 :: x5 :: some a :: r) fun w h => (op a w h).lz0 fun z h => .nx (x0 :: x1 :: x2 :: x3 :: x4 :: x5 :: some z :: r) h) ∧
  (∀ (x0 : Option Val) (x1 : Option Val) (x2 : Option Val) (x3 : Option Val) (x4 : Option Val) (x5 : Option Val) (x6 : Option Val) (a : Val) (r : Env) (c : Cfg) (h : VH), eV 7 c (x0 :: x1 :: x2 :: x3 :: x4 :: x5 :: x6 :: some a :: r) h = .ok a h) ∧
  (∀ (x0 : Option Val) (x1 : Option Val) (x2 : Option Val) (x3 : Option Val) (x4 : Option Val) (x5 : Option Val) (x6 : Option Val) (x : Option Val) (a : Val) (r : Env) (c : Cfg) (h : VH), gName 7 a c (x0 :: x1 :: x2 :: x3 :: x4 :: x5 :: x6 :: x :: r) h = .ok (x0 :: x1 :: x2 :: x3 :: x4 :: x5 :: x6 :: some a :: r) h) :=
  ⟨by intros; first | rfl | (unfold bLen lenOf; rfl) | (unfold bTuple itemsOf; rfl) | (unfold bList itemsOf; rfl) | (rename_i p _ _; cases p <;> rfl) | (rename_i p; cases p <;> rfl), by intros; first | rfl | (unfold bLen lenOf; rfl) | (unfold bTuple itemsOf; rfl) | (unfold bList itemsOf; rfl) | (rename_i p _ _; cases p <;> rfl) | (rename_i p; cases p <;> rfl), by intros; first | rfl | (unfold bLen lenOf; rfl) | (unfold bTuple itemsOf; rfl) | (unfold bList itemsOf; rfl) | (rename_i p _ _; cases p <;> rfl) | (rename_i p; cases p <;> rfl), by intros; first | rfl | (unfold bLen lenOf; rfl) | (unfold bTuple itemsOf; rfl) | (unfold bList itemsOf; rfl) | (rename_i p _ _; cases p <;> rfl) | (rename_i p; cases p <;> rfl), by intros; first | rfl | (unfold bLen lenOf; rfl) | (unfold bTuple itemsOf; rfl) | (unfold bList itemsOf; rfl) | (rename_i p _ _; cases p <;> rfl) | (rename_i p; cases p <;> rfl), by intros; first | rfl | (unfold bLen lenOf; rfl) | (unfold bTuple itemsOf; rfl) | (unfold bList itemsOf; rfl) | (rename_i p _ _; cases p <;> rfl) | (rename_i p; cases p <;> rfl), by intros; first | rfl | (unfold bLen lenOf; rfl) | (unfold bTuple itemsOf; rfl) | (unfold bList itemsOf; rfl) | (rename_i p _ _; cases p <;> rfl) | (rename_i p; cases p <;> rfl), by intros; first | rfl | (unfold bLen lenOf; rfl) | (unfold bTuple itemsOf; rfl) | (unfold bList itemsOf; rfl) | (rename_i p _ _; cases p <;> rfl) | (rename_i p; cases p <;> rfl), by intros; first | rfl | (unfold bLen lenOf; rfl) | (unfold bTuple itemsOf; rfl) | (unfold bList itemsOf; rfl) | (rename_i p _ _; cases p <;> rfl) | (rename_i p; cases p <;> rfl), by intros; first | rfl | (unfold bLen lenOf; rfl) | (unfold bTuple itemsOf; rfl) | (unfold bList itemsOf; rfl) | (rename_i p _ _; cases p <;> rfl) | (rename_i p; cases p <;> rfl), by intros; first | rfl | (unfold bLen lenOf; rfl) | (unfold bTuple itemsOf; rfl) | (unfold bList itemsOf; rfl) | (rename_i p _ _; cases p <;> rfl) | (rename_i p; cases p <;> rfl), by intros; first | rfl | (unfold bLen lenOf; rfl) | (unfold bTuple itemsOf; rfl) | (unfold bList itemsOf; rfl) | (rename_i p _ _; cases p <;> rfl) | (rename_i p; cases p <;> rfl)⟩
theorem ev2 : (∀ (x0 : Option Val) (x1 : Option Val) (x2 : Option Val) (x3 : Option Val) (x4 : Option Val) (x5 : Option Val) (x6 : Option Val) (op : Val → Val → VH → Out Val) (e : Tm) (a : Val) (r : Env) (c : Cfg) (h : VH), sAug 7 op e c (x0 :: x1 :: x2 :: x3 :: x4 :: x5 :: x6 :: some a :: r) h = (e c (x0 :: x1 :: x2 :: x3 :: x4 :: x5 :: x6 :: some a :: r) h).lzt (x0 :: x1 :: x2 :: x3 :: x4 :: x5 :: x6 :: some a :: r) fun w h => (op a w h).lz0 fun z h => .nx (x0 :: x1 :: x2 :: x3 :: x4 :: x5 :: x6 :: some z :: r) h) ∧
  (∀ (x0 : Option Val) (x1 : Option Val) (x2 : Option Val) (x3 : Option Val) (x4 : Option Val) (x5 : Option Val) (x6 : Option Val) (x7 : Option Val) (a : Val) (r : Env) (c : Cfg) (h : VH), eV 8 c (x0 :: x1 :: x2 :: x3 :: x4 :: x5 :: x6 :: x7 :: some a :: r) h = .ok a h) ∧
  (∀ (x0 : Option Val) (x1 : Option Val) (x2 : Option Val) (x3 : Option Val) (x4 : Option Val) (x5 : Option Val) (x6 : Option Val) (x7 : Option Val) (x : Option Val) (a : Val) (r : Env) (c : Cfg) (h : VH), gName 8 a c (x0 :: x1 :: x2 :: x3 :: x4 :: x5 :: x6 :: x7 :: x :: r) h = .ok (x0 :: x1 :: x2 :: x3 :: x4 :: x5 :: x6 :: x7 :: some a :: r) h) ∧
  (∀ (x0 : Option Val) (x1 : Option Val) (x2 : Option Val) (x3 : Option Val) (x4 : Option Val) (x5 : Option Val) (x6 : Option Val) (x7 : Option Val) (op : Val → Val → VH → Out Val) (e : Tm) (a : Val) (r : Env) (c : Cfg) (h : VH), sAug 8 op e c (x0 :: x1 :: x2 :: x3 :: x4 :: x5 :: x6 :: x7 :: some a :: r) h = (e c (x0 :: x1 :: x2 :: x3 :: x4 :: x5 :: x6 :: x7 :: some a :: r) h).lzt (x0 :: x1 :: x2 :: x3 :: x4 :: x5 :: x6 :: x7 :: some a :: r) fun w h => (op a w h).lz0 fun z h => .nx (x0 :: x1 :: x2 :: x3 :: x4 :: x5 :: x6 :: x7 :: some z :: r) h) ∧
  (∀ (x0 : Option Val) (x1 : Option Val) (x2 : Option Val) (x3 : Option Val) (x4 : Option Val) (x5 : Option Val) (x6 : Option Val) (x7 : Option Val) (x8 : Option Val) (a : Val) (r : Env) (c : Cfg) (h : VH), eV 9 c (x0 :: x1 :: x2 :: x3 :: x4 :: x5 :: x6 :: x7 :: x8 :: some a :: r) h = .ok a h) ∧
  (∀ (x0 : Option Val) (x1 : Option Val) (x2 : Option Val) (x3 : Option Val) (x4 : Option Val) (x5 : Option Val) (x6 : Option Val) (x7 : Option Val) (x8 : Option Val) (x : Option Val) (a : Val) (r : Env) (c : Cfg) (h : VH), gName 9 a c (x0 :: x1 :: x2 :: x3 :: x4 :: x5 :: x6 :: x7 :: x8 :: x :: r) h = .ok (x0 :: x1 :: x2 :: x3 :: x4 :: x5 :: x6 :: x7 :: x8 :: some a :: r) h) ∧
  (∀ (x0 : Option Val) (x1 : Option Val) (x2 : Option Val) (x3 : Option Val) (x4 : Option Val) (x5 : Option Val) (x6 : Option Val) (x7 : Option Val) (x8 : Option Val) (op : Val → Val → VH → Out Val) (e : Tm) (a : Val) (r : Env) (c : Cfg) (h : VH), sAug 9 op e c (x0 :: x1 :: x2 :: x3 :: x4 :: x5 :: x6 :: x7 :: x8 :: some a :: r) h = (e c (x0 :: x1 :: x2 :: x3 :: x4 :: x5 :: x6 :: x7 :: x8 :: some a :: r) h).lzt (x0 :: x1 :: x2 :: x3 :: x4 :: x5 :: x6 :: x7 :: x8 :: some a :: r) fun w h => (op a w h).lz0 fun z h => .nx (x0 :: x1 :: x2 :: x3 :: x4 :: x5 :: x6 :: x7 :: x8 :: some z :: r) h) ∧
  (∀ (x0 : Option Val) (x1 : Option Val) (x2 : Option Val) (x3 : Option Val) (x4 : Option Val) (x5 : Option Val) (x6 : Option Val) (x7 : Option Val) (x8 : Option Val) (x9 : Option Val) (a : Val) (r : Env) (c : Cfg) (h : VH), eV 10 c (x0 :: x1 :: x2 :: x3 :: x4 :: x5 :: x6 :: x7 :: x8 :: x9 :: some a :: r) h = .ok a h) ∧
  (∀ (x0 : Option Val) (x1 : Option Val) (x2 : Option Val) (x3 : Option Val) (x4 : Option Val) (x5 : Option Val) (x6 : Option Val) (x7 : Option Val) (x8 : Option Val) (x9 : Option Val) (x : Option Val) (a : Val) (r : Env) (c : Cfg) (h : VH), gName 10 a c (x0 :: x1 :: x2 :: x3 :: x4 :: x5 :: x6 :: x7 :: x8 :: x9 :: x :: r) h = .ok (x0 :: x1 :: x2 :: x3 :: x4 :: x5 :: x6 :: x7 :: x8 :: x9 :: some a :: r) h) ∧
  (∀ (x0 : Option Val) (x1 : Option Val) (x2 : Option Val) (x3 : Option Val) (x4 : Option Val) (x5 : Option Val) (x6 : Option Val) (x7 : Option Val) (x8 : Option Val) (x9 : Option Val) (op : Val → Val → VH → Out Val) (e : Tm) (a : Val) (r : Env) (c : Cfg) (h : VH), sAug 10 op e c (x0 :: x1 :: x2 :: x3 :: x4 :: x5 :: x6 :: x7 :: x8 :: x9 :: some a :: r) h = (e c (x0 :: x1 :: x2 :: x3 :: x4 :: x5 :: x6 :: x7 :: x8 :: x9 :: some a :: r) h).lzt (x0 :: x1 :: x2 :: x3 :: x4 :: x5 :: x6 :: x7 :: x8 :: x9 :: some a :: r) fun w h => (op a w h).lz0 fun z h => .nx (x0 :: x1 :: x2 :: x3 :: x4 :: x5 :: x6 :: x7 :: x8 :: x9 :: some z :: r) h) ∧
  (∀ (x0 : Option Val) (x1 : Option Val) (x2 : Option Val) (x3 : Option Val) (x4 : Option Val) (x5 : Option Val) (x6 : Option Val) (x7 : Option Val) (x8 : Option Val) (x9 : Option Val) (x10 : Option Val) (a : Val) (r : Env) (c : Cfg) (h : VH), eV 11 c (x0 :: x1 :: x2 :: x3 :: x4 :: x5 :: x6 :: x7 :: x8 :: x9 :: x10 :: some a :: r) h = .ok a h) ∧
  (∀ (x0 : Option Val) (x1 : Option Val) (x2 : Option Val) (x3 : Option Val) (x4 : Option Val) (x5 : Option Val) (x6 : Option Val) (x7 : Option Val) (x8 : Option Val) (x9 : Option Val) (x10 : Option Val) (x : Option Val) (a : Val) (r : Env) (c : Cfg) (h : VH), gName 11 a c (x0 :: x1 :: x2 :: x3 :: x4 :: x5 :: x6 :: x7 :: x8 :: x9 :: x10 :: x :: r) h = .ok (x0 :: x1 :: x2 :: x3 :: x4 :: x5 :: x6 :: x7 :: x8 :: x9 :: x10 :: some a :: r) h) :=
  ⟨by intros; first | rfl | (unfold bLen lenOf; rfl) | (unfold bTuple itemsOf; rfl) | (unfold bList itemsOf; rfl) | (rename_i p _ _; cases p <;> rfl) | (rename_i p; cases p <;> rfl), by intros; first | rfl | (unfold bLen lenOf; rfl) | (unfold bTuple itemsOf; rfl) | (unfold bList itemsOf; rfl) | (rename_i p _ _; cases p <;> rfl) | (rename_i p; cases p <;> rfl), by intros; first | rfl | (unfold bLen lenOf; rfl) | (unfold bTuple itemsOf; rfl) | (unfold bList itemsOf; rfl) | (rename_i p _ _; cases p <;> rfl) | (rename_i p; cases p <;> rfl), by intros; first | rfl | (unfold bLen lenOf; rfl) | (unfold bTuple itemsOf; rfl) | (unfold bList itemsOf; rfl) | (rename_i p _ _; cases p <;> rfl) | (rename_i p; cases p <;> rfl), by intros; first | rfl | (unfold bLen lenOf; rfl) | (unfold bTuple itemsOf; rfl) | (unfold bList itemsOf; rfl) | (rename_i p _ _; cases p <;> rfl) | (rename_i p; cases p <;> rfl), by intros; first | rfl | (unfold bLen lenOf; rfl) | (unfold bTuple itemsOf; rfl) | (unfold bList itemsOf; rfl) | (rename_i p _ _; cases p <;> rfl) | (rename_i p; cases p <;> rfl), by intros; first | rfl | (unfold bLen lenOf; rfl) | (unfold bTuple itemsOf; rfl) | (unfold bList itemsOf; rfl) | (rename_i p _ _; cases p <;> rfl) | (rename_i p; cases p <;> rfl), by intros; first | rfl | (unfold bLen lenOf; rfl) | (unfold bTuple itemsOf; rfl) | (unfold bList itemsOf; rfl) | (rename_i p _ _; cases p <;> rfl) | (rename_i p; cases p <;> rfl), by intros; first | rfl | (unfold bLen lenOf; rfl) | (unfold bTuple itemsOf; rfl) | (unfold bList itemsOf; rfl) | (rename_i p _ _; cases p <;> rfl) | (rename_i p; cases p <;> rfl), by intros; first | rfl | (unfold bLen lenOf; rfl) | (unfold bTuple itemsOf; rfl) | (unfold bList itemsOf; rfl) | (rename_i p _ _; cases p <;> rfl) | (rename_i p; cases p <;> rfl), by intros; first | rfl | (unfold bLen lenOf; rfl) | (unfold bTuple itemsOf; rfl) | (unfold bList itemsOf; rfl) | (rename_i p _ _; cases p <;> rfl) | (rename_i p; cases p <;> rfl), by intros; first | rfl | (unfold bLen lenOf; rfl) | (unfold bTuple itemsOf; rfl) | (unfold bList itemsOf; rfl) | (rename_i p _ _; cases p <;> rfl) | (rename_i p; cases p <;> rfl)⟩
theorem ev3 : (∀ (x0 : Option Val) (x1 : Option Val) (x2 : Option Val) (x3 : Option Val) (x4 : Option Val) (x5 : Option Val) (x6 : Option Val) (x7 : Option Val) (x8 : Option Val) (x9 : Option Val) (x10 : Option Val) (op : Val → Val → VH → Out Val) (e : Tm) (a : Val) (r : Env) (c : Cfg) (h : VH), sAug 11 op e c (x0 :: x1 :: x2 :: x3 :: x4 :: x5 :: x6 :: x7 :: x8 :: x9 :: x10 :: some a :: r) h = (e c (x0 :: x1 :: x2 :: x3 :: x4 :: x5 :: x6 :: x7 :: x8 :: x9 :: x10 :: some a :: r) h).lzt (x0 :: x1 :: x2 :: x3 :: x4 :: x5 :: x6 :: x7 :: x8 :: x9 :: x10 :: some a :: r) fun w h => (op a w h).lz0 fun z h => .nx (x0 :: x1 :: x2 :: x3 :: x4 :: x5 :: x6 :: x7 :: x8 :: x9 :: x10 :: some z :: r) h) ∧
  (∀ (x0 : Option Val) (x1 : Option Val) (x2 : Option Val) (x3 : Option Val) (x4 : Option Val) (x5 : Option Val) (x6 : Option Val) (x7 : Option Val) (x8 : Option Val) (x9 : Option Val) (x10 : Option Val) (x11 : Option Val) (a : Val) (r : Env) (c : Cfg) (h : VH), eV 12 c (x0 :: x1 :: x2 :: x3 :: x4 :: x5 :: x6 :: x7 :: x8 :: x9 :: x10 :: x11 :: some a :: r) h = .ok a h) ∧
  (∀ (x0 : Option Val) (x1 : Option Val) (x2 : Option Val) (x3 : Option Val) (x4 : Option Val) (x5 : Option Val) (x6 : Option Val) (x7 : Option Val) (x8 : Option Val) (x9 : Option Val) (x10 : Option Val) (x11 : Option Val) (x : Option Val) (a : Val) (r : Env) (c : Cfg) (h : VH), gName 12 a c (x0 :: x1 :: x2 :: x3 :: x4 :: x5 :: x6 :: x7 :: x8 :: x9 :: x10 :: x11 :: x :: r) h = .ok (x0 :: x1 :: x2 :: x3 :: x4 :: x5 :: x6 :: x7 :: x8 :: x9 :: x10 :: x11 :: some a :: r) h) ∧
  (∀ (x0 : Option Val) (x1 : Option Val) (x2 : Option Val) (x3 : Option Val) (x4 : Option Val) (x5 : Option Val) (x6 : Option Val) (x7 : Option Val) (x8 : Option Val) (x9 : Option Val) (x10 : Option Val) (x11 : Option Val) (op : Val → Val → VH → Out Val) (e : Tm) (a : Val) (r : Env) (c : Cfg) (h : VH), sAug 12 op e c (x0 :: x1 :: x2 :: x3 :: x4 :: x5 :: x6 :: x7 :: x8 :: x9 :: x10 :: x11 :: some a :: r) h = (e c (x0 :: x1 :: x2 :: x3 :: x4 :: x5 :: x6 :: x7 :: x8 :: x9 :: x10 :: x11 :: some a :: r) h).lzt (x0 :: x1 :: x2 :: x3 :: x4 :: x5 :: x6 :: x7 :: x8 :: x9 :: x10 :: x11 :: some a :: r) fun w h => (op a w h).lz0 fun z h => .nx (x0 :: x1 :: x2 :: x3 :: x4 :: x5 :: x6 :: x7 :: x8 :: x9 :: x10 :: x11 :: some z :: r) h) ∧
  (∀ (x0 : Option Val) (x1 : Option Val) (x2 : Option Val) (x3 : Option Val) (x4 : Option Val) (x5 : Option Val) (x6 : Option Val) (x7 : Option Val) (x8 : Option Val) (x9 : Option Val) (x10 : Option Val) (x11 : Option Val) (x12 : Option Val) (a : Val) (r : Env) (c : Cfg) (h : VH), eV 13 c (x0 :: x1 :: x2 :: x3 :: x4 :: x5 :: x6 :: x7 :: x8 :: x9 :: x10 :: x11 :: x12 :: some a :: r) h = .ok a h) ∧
  (∀ (x0 : Option Val) (x1 : Option Val) (x2 : Option Val) (x3 : Option Val) (x4 : Option Val) (x5 : Option Val) (x6 : Option Val) (x7 : Option Val) (x8 : Option Val) (x9 : Option Val) (x10 : Option Val) (x11 : Option Val) (x12 : Option Val) (x : Option Val) (a : Val) (r : Env) (c : Cfg) (h : VH), gName 13 a c (x0 :: x1 :: x2 :: x3 :: x4 :: x5 :: x6 :: x7 :: x8 :: x9 :: x10 :: x11 :: x12 :: x :: r) h = .ok (x0 :: x1 :: x2 :: x3 :: x4 :: x5 :: x6 :: x7 :: x8 :: x9 :: x10 :: x11 :: x12 :: some a :: r) h) ∧
  (∀ (x0 : Option Val) (x1 : Option Val) (x2 : Option Val) (x3 : Option Val) (x4 : Option Val) (x5 : Option Val) (x6 : Option Val) (x7 : Option Val) (x8 : Option Val) (x9 : Option Val) (x10 : Option Val) (x11 : Option Val) (x12 : Option Val) (op : Val → Val → VH → Out Val) (e : Tm) (a : Val) (r : Env) (c : Cfg) (h : VH), sAug 13 op e c (x0 :: x1 :: x2 :: x3 :: x4 :: x5 :: x6 :: x7 :: x8 :: x9 :: x10 :: x11 :: x12 :: some a :: r) h = (e c (x0 :: x1 :: x2 :: x3 :: x4 :: x5 :: x6 :: x7 :: x8 :: x9 :: x10 :: x11 :: x12 :: some a :: r) h).lzt (x0 :: x1 :: x2 :: x3 :: x4 :: x5 :: x6 :: x7 :: x8 :: x9 :: x10 :: x11 :: x12 :: some a :: r) fun w h => (op a w h).lz0 fun z h => .nx (x0 :: x1 :: x2 :: x3 :: x4 :: x5 :: x6 :: x7 :: x8 :: x9 :: x10 :: x11 :: x12 :: some z :: r) h) ∧
  (∀ (x0 : Option Val) (x1 : Option Val) (x2 : Option Val) (x3 : Option Val) (x4 : Option Val) (x5 : Option Val) (x6 : Option Val) (x7 : Option Val) (x8 : Option Val) (x9 : Option Val) (x10 : Option Val) (x11 : Option Val) (x12 : Option Val) (x13 : Option Val) (a : Val) (r : Env) (c : Cfg) (h : VH), eV 14 c (x0 :: x1 :: x2 :: x3 :: x4 :: x5 :: x6 :: x7 :: x8 :: x9 :: x10 :: x11 :: x12 :: x13 :: some a :: r) h = .ok a h) ∧
  (∀ (x0 : Option Val) (x1 : Option Val) (x2 : Option Val) (x3 : Option Val) (x4 : Option Val) (x5 : Option Val) (x6 : Option Val) (x7 : Option Val) (x8 : Option Val) (x9 : Option Val) (x10 : Option Val) (x11 : Option Val) (x12 : Option Val) (x13 : Option Val) (x : Option Val) (a : Val) (r : Env) (c : Cfg) (h : VH), gName 14 a c (x0 :: x1 :: x2 :: x3 :: x4 :: x5 :: x6 :: x7 :: x8 :: x9 :: x10 :: x11 :: x12 :: x13 :: x :: r) h = .ok (x0 :: x1 :: x2 :: x3 :: x4 :: x5 :: x6 :: x7 :: x8 :: x9 :: x10 :: x11 :: x12 :: x13 :: some a :: r) h) ∧
  (∀ (x0 : Option Val) (x1 : Option Val) (x2 : Option Val) (x3 : Option Val) (x4 : Option Val) (x5 : Option Val) (x6 : Option Val) (x7 : Option Val) (x8 : Option Val) (x9 : Option Val) (x10 : Option Val) (x11 : Option Val) (x12 : Option Val) (x13 : Option Val) (op : Val → Val → VH → Out Val) (e : Tm) (a : Val) (r : Env) (c : Cfg) (h : VH), sAug 14 op e c (x0 :: x1 :: x2 :: x3 :: x4 :: x5 :: x6 :: x7 :: x8 :: x9 :: x10 :: x11 :: x12 :: x13 :: some a :: r) h = (e c (x0 :: x1 :: x2 :: x3 :: x4 :: x5 :: x6 :: x7 :: x8 :: x9 :: x10 :: x11 :: x12 :: x13 :: some a :: r) h).lzt (x0 :: x1 :: x2 :: x3 :: x4 :: x5 :: x6 :: x7 :: x8 :: x9 :: x10 :: x11 :: x12 :: x13 :: some a :: r) fun w h => (op a w h).lz0 fun z h => .nx (x0 :: x1 :: x2 :: x3 :: x4 :: x5 :: x6 :: x7 :: x8 :: x9 :: x10 :: x11 :: x12 :: x13 :: some z :: r) h) ∧
  (∀ (x0 : Option Val) (x1 : Option Val) (x2 : Option Val) (x3 : Option Val) (x4 : Option Val) (x5 : Option Val) (x6 : Option Val) (x7 : Option Val) (x8 : Option Val) (x9 : Option Val) (x10 : Option Val) (x11 : Option Val) (x12 : Option Val) (x13 : Option Val) (x14 : Option Val) (a : Val) (r : Env) (c : Cfg) (h : VH), eV 15 c (x0 :: x1 :: x2 :: x3 :: x4 :: x5 :: x6 :: x7 :: x8 :: x9 :: x10 :: x11 :: x12 :: x13 :: x14 :: some a :: r) h = .ok a h) ∧
  (∀ (x0 : Option Val) (x1 : Option Val) (x2 : Option Val) (x3 : Option Val) (x4 : Option Val) (x5 : Option Val) (x6 : Option Val) (x7 : Option Val) (x8 : Option Val) (x9 : Option Val) (x10 : Option Val) (x11 : Option Val) (x12 : Option Val) (x13 : Option Val) (x14 : Option Val) (x : Option Val) (a : Val) (r : Env) (c : Cfg) (h : VH), gName 15 a c (x0 :: x1 :: x2 :: x3 :: x4 :: x5 :: x6 :: x7 :: x8 :: x9 :: x10 :: x11 :: x12 :: x13 :: x14 :: x :: r) h = .ok (x0 :: x1 :: x2 :: x3 :: x4 :: x5 :: x6 :: x7 :: x8 :: x9 :: x10 :: x11 :: x12 :: x13 :: x14 :: some a :: r) h) :=
  ⟨by intros; first | rfl | (unfold bLen lenOf; rfl) | (unfold bTuple itemsOf; rfl) | (unfold bList itemsOf; rfl) | (rename_i p _ _; cases p <;> rfl) | (rename_i p; cases p <;> rfl), by intros; first | rfl | (unfold bLen lenOf; rfl) | (unfold bTuple itemsOf; rfl) | (unfold bList itemsOf; rfl) | (rename_i p _ _; cases p <;> rfl) | (rename_i p; cases p <;> rfl), by intros; first | rfl | (unfold bLen lenOf; rfl) | (unfold bTuple itemsOf; rfl) | (unfold bList itemsOf; rfl) | (rename_i p _ _; cases p <;> rfl) | (rename_i p; cases p <;> rfl), by intros; first | rfl | (unfold bLen lenOf; rfl) | (unfold bTuple itemsOf; rfl) | (unfold bList itemsOf; rfl) | (rename_i p _ _; cases p <;> rfl) | (rename_i p; cases p <;> rfl), by intros; first | rfl | (unfold bLen lenOf; rfl) | (unfold bTuple itemsOf; rfl) | (unfold bList itemsOf; rfl) | (rename_i p _ _; cases p <;> rfl) | (rename_i p; cases p <;> rfl), by intros; first | rfl | (unfold bLen lenOf; rfl) | (unfold bTuple itemsOf; rfl) | (unfold bList itemsOf; rfl) | (rename_i p _ _; cases p <;> rfl) | (rename_i p; cases p <;> rfl), by intros; first | rfl | (unfold bLen lenOf; rfl) | (unfold bTuple itemsOf; rfl) | (unfold bList itemsOf; rfl) | (rename_i p _ _; cases p <;> rfl) | (rename_i p; cases p <;> rfl), by intros; first | rfl | (unfold bLen lenOf; rfl) | (unfold bTuple itemsOf; rfl) | (unfold bList itemsOf; rfl) | (rename_i p _ _; cases p <;> rfl) | (rename_i p; cases p <;> rfl), by intros; first | rfl | (unfold bLen lenOf; rfl) | (unfold bTuple itemsOf; rfl) | (unfold bList itemsOf; rfl) | (rename_i p _ _; cases p <;> rfl) | (rename_i p; cases p <;> rfl), by intros; first | rfl | (unfold bLen lenOf; rfl) | (unfold bTuple itemsOf; rfl) | (unfold bList itemsOf; rfl) | (rename_i p _ _; cases p <;> rfl) | (rename_i p; cases p <;> rfl), by intros; first | rfl | (unfold bLen lenOf; rfl) | (unfold bTuple itemsOf; rfl) | (unfold bList itemsOf; rfl) | (rename_i p _ _; cases p <;> rfl) | (rename_i p; cases p <;> rfl), by intros; first | rfl | (unfold bLen lenOf; rfl) | (unfold bTuple itemsOf; rfl) | (unfold bList itemsOf; rfl) | (rename_i p _ _; cases p <;> rfl) | (rename_i p; cases p <;> rfl)⟩
theorem ev4 : (∀ (x0 : Option Val) (x1 : Option Val) (x2 : Option Val) (x3 : Option Val) (x4 : Option Val) (x5 : Option Val) (x6 : Option Val) (x7 : Option Val) (x8 : Option Val) (x9 : Option Val) (x10 : Option Val) (x11 : Option Val) (x12 : Option Val) (x13 : Option Val) (x14 : Option Val) (op : Val → Val → VH → Out Val) (e : Tm) (a : Val) (r : Env) (c : Cfg) (h : VH), sAug 15 op e c (x0 :: x1 :: x2 :: x3 :: x4 :: x5 :: x6 :: x7 :: x8 :: x9 :: x10 :: x11 :: x12 :: x13 :: x14 :: some a :: r) h = (e c (x0 :: x1 :: x2 :: x3 :: x4 :: x5 :: x6 :: x7 :: x8 :: x9 :: x10 :: x11 :: x12 :: x13 :: x14 :: some a :: r) h).lzt (x0 :: x1 :: x2 :: x3 :: x4 :: x5 :: x6 :: x7 :: x8 :: x9 :: x10 :: x11 :: x12 :: x13 :: x14 :: some a :: r) fun w h => (op a w h).lz0 fun z h => .nx (x0 :: x1 :: x2 :: x3 :: x4 :: x5 :: x6 :: x7 :: x8 :: x9 :: x10 :: x11 :: x12 :: x13 :: x14 :: some z :: r) h) ∧
  (∀ (x0 : Option Val) (x1 : Option Val) (x2 : Option Val) (x3 : Option Val) (x4 : Option Val) (x5 : Option Val) (x6 : Option Val) (x7 : Option Val) (x8 : Option Val) (x9 : Option Val) (x10 : Option Val) (x11 : Option Val) (x12 : Option Val) (x13 : Option Val) (x14 : Option Val) (x15 : Option Val) (a : Val) (r : Env) (c : Cfg) (h : VH), eV 16 c (x0 :: x1 :: x2 :: x3 :: x4 :: x5 :: x6 :: x7 :: x8 :: x9 :: x10 :: x11 :: x12 :: x13 :: x14 :: x15 :: some a :: r) h = .ok a h) ∧
  (∀ (x0 : Option Val) (x1 : Option Val) (x2 : Option Val) (x3 : Option Val) (x4 : Option Val) (x5 : Option Val) (x6 : Option Val) (x7 : Option Val) (x8 : Option Val) (x9 : Option Val) (x10 : Option Val) (x11 : Option Val) (x12 : Option Val) (x13 : Option Val) (x14 : Option Val) (x15 : Option Val) (x : Option Val) (a : Val) (r : Env) (c : Cfg) (h : VH), gName 16 a c (x0 :: x1 :: x2 :: x3 :: x4 :: x5 :: x6 :: x7 :: x8 :: x9 :: x10 :: x11 :: x12 :: x13 :: x14 :: x15 :: x :: r) h = .ok (x0 :: x1 :: x2 :: x3 :: x4 :: x5 :: x6 :: x7 :: x8 :: x9 :: x10 :: x11 :: x12 :: x13 :: x14 :: x15 :: some a :: r) h) ∧
  (∀ (x0 : Option Val) (x1 : Option Val) (x2 : Option Val) (x3 : Option Val) (x4 : Option Val) (x5 : Option Val) (x6 : Option Val) (x7 : Option Val) (x8 : Option Val) (x9 : Option Val) (x10 : Option Val) (x11 : Option Val) (x12 : Option Val) (x13 : Option Val) (x14 : Option Val) (x15 : Option Val) (op : Val → Val → VH → Out Val) (e : Tm) (a : Val) (r : Env) (c : Cfg) (h : VH), sAug 16 op e c (x0 :: x1 :: x2 :: x3 :: x4 :: x5 :: x6 :: x7 :: x8 :: x9 :: x10 :: x11 :: x12 :: x13 :: x14 :: x15 :: some a :: r) h = (e c (x0 :: x1 :: x2 :: x3 :: x4 :: x5 :: x6 :: x7 :: x8 :: x9 :: x10 :: x11 :: x12 :: x13 :: x14 :: x15 :: some a :: r) h).lzt (x0 :: x1 :: x2 :: x3 :: x4 :: x5 :: x6 :: x7 :: x8 :: x9 :: x10 :: x11 :: x12 :: x13 :: x14 :: x15 :: some a :: r) fun w h => (op a w h).lz0 fun z h => .nx (x0 :: x1 :: x2 :: x3 :: x4 :: x5 :: x6 :: x7 :: x8 :: x9 :: x10 :: x11 :: x12 :: x13 :: x14 :: x15 :: some z :: r) h) ∧
  (∀ (x0 : Option Val) (x1 : Option Val) (x2 : Option Val) (x3 : Option Val) (x4 : Option Val) (x5 : Option Val) (x6 : Option Val) (x7 : Option Val) (x8 : Option Val) (x9 : Option Val) (x10 : Option Val) (x11 : Option Val) (x12 : Option Val) (x13 : Option Val) (x14 : Option Val) (x15 : Option Val) (x16 : Option Val) (a : Val) (r : Env) (c : Cfg) (h : VH), eV 17 c (x0 :: x1 :: x2 :: x3 :: x4 :: x5 :: x6 :: x7 :: x8 :: x9 :: x10 :: x11 :: x12 :: x13 :: x14 :: x15 :: x16 :: some a :: r) h = .ok a h) ∧
  (∀ (x0 : Option Val) (x1 : Option Val) (x2 : Option Val) (x3 : Option Val) (x4 : Option Val) (x5 : Option Val) (x6 : Option Val) (x7 : Option Val) (x8 : Option Val) (x9 : Option Val) (x10 : Option Val) (x11 : Option Val) (x12 : Option Val) (x13 : Option Val) (x14 : Option Val) (x15 : Option Val) (x16 : Option Val) (x : Option Val) (a : Val) (r : Env) (c : Cfg) (h : VH), gName 17 a c (x0 :: x1 :: x2 :: x3 :: x4 :: x5 :: x6 :: x7 :: x8 :: x9 :: x10 :: x11 :: x12 :: x13 :: x14 :: x15 :: x16 :: x :: r) h = .ok (x0 :: x1 :: x2 :: x3 :: x4 :: x5 :: x6 :: x7 :: x8 :: x9 :: x10 :: x11 :: x12 :: x13 :: x14 :: x15 :: x16 :: some a :: r) h) ∧
  (∀ (x0 : Option Val) (x1 : Option Val) (x2 : Option Val) (x3 : Option Val) (x4 : Option Val) (x5 : Option Val) (x6 : Option Val) (x7 : Option Val) (x8 : Option Val) (x9 : Option Val) (x10 : Option Val) (x11 : Option Val) (x12 : Option Val) (x13 : Option Val) (x14 : Option Val) (x15 : Option Val) (x16 : Option Val) (op : Val → Val → VH → Out Val) (e : Tm) (a : Val) (r : Env) (c : Cfg) (h : VH), sAug 17 op e c (x0 :: x1 :: x2 :: x3 :: x4 :: x5 :: x6 :: x7 :: x8 :: x9 :: x10 :: x11 :: x12 :: x13 :: x14 :: x15 :: x16 :: some a :: r) h = (e c (x0 :: x1 :: x2 :: x3 :: x4 :: x5 :: x6 :: x7 :: x8 :: x9 :: x10 :: x11 :: x12 :: x13 :: x14 :: x15 :: x16 :: some a :: r) h).lzt (x0 :: x1 :: x2 :: x3 :: x4 :: x5 :: x6 :: x7 :: x8 :: x9 :: x10 :: x11 :: x12 :: x13 :: x14 :: x15 :: x16 :: some a :: r) fun w h => (op a w h).lz0 fun z h => .nx (x0 :: x1 :: x2 :: x3 :: x4 :: x5 :: x6 :: x7 :: x8 :: x9 :: x10 :: x11 :: x12 :: x13 :: x14 :: x15 :: x16 :: some z :: r) h) ∧
  (∀ (x0 : Option Val) (x1 : Option Val) (x2 : Option Val) (x3 : Option Val) (x4 : Option Val) (x5 : Option Val) (x6 : Option Val) (x7 : Option Val) (x8 : Option Val) (x9 : Option Val) (x10 : Option Val) (x11 : Option Val) (x12 : Option Val) (x13 : Option Val) (x14 : Option Val) (x15 : Option Val) (x16 : Option Val) (x17 : Option Val) (a : Val) (r : Env) (c : Cfg) (h : VH), eV 18 c (x0 :: x1 :: x2 :: x3 :: x4 :: x5 :: x6 :: x7 :: x8 :: x9 :: x10 :: x11 :: x12 :: x13 :: x14 :: x15 :: x16 :: x17 :: some a :: r) h = .ok a h) ∧
  (∀ (x0 : Option Val) (x1 : Option Val) (x2 : Option Val) (x3 : Option Val) (x4 : Option Val) (x5 : Option Val) (x6 : Option Val) (x7 : Option Val) (x8 : Option Val) (x9 : Option Val) (x10 : Option Val) (x11 : Option Val) (x12 : Option Val) (x13 : Option Val) (x14 : Option Val) (x15 : Option Val) (x16 : Option Val) (x17 : Option Val) (x : Option Val) (a : Val) (r : Env) (c : Cfg) (h : VH), gName 18 a c (x0 :: x1 :: x2 :: x3 :: x4 :: x5 :: x6 :: x7 :: x8 :: x9 :: x10 :: x11 :: x12 :: x13 :: x14 :: x15 :: x16 :: x17 :: x :: r) h = .ok (x0 :: x1 :: x2 :: x3 :: x4 :: x5 :: x6 :: x7 :: x8 :: x9 :: x10 :: x11 :: x12 :: x13 :: x14 :: x15 :: x16 :: x17 :: some a :: r) h) ∧
  (∀ (x0 : Option Val) (x1 : Option Val) (x2 : Option Val) (x3 : Option Val) (x4 : Option Val) (x5 : Option Val) (x6 : Option Val) (x7 : Option Val) (x8 : Option Val) (x9 : Option Val) (x10 : Option Val) (x11 : Option Val) (x12 : Option Val) (x13 : Option Val) (x14 : Option Val) (x15 : Option Val) (x16 : Option Val) (x17 : Option Val) (op : Val → Val → VH → Out Val) (e : Tm) (a : Val) (r : Env) (c : Cfg) (h : VH), sAug 18 op e c (x0 :: x1 :: x2 :: x3 :: x4 :: x5 :: x6 :: x7 :: x8 :: x9 :: x10 :: x11 :: x12 :: x13 :: x14 :: x15 :: x16 :: x17 :: some a :: r) h = (e c (x0 :: x1 :: x2 :: x3 :: x4 :: x5 :: x6 :: x7 :: x8 :: x9 :: x10 :: x11 :: x12 :: x13 :: x14 :: x15 :: x16 :: x17 :: some a :: r) h).lzt (x0 :: x1 :: x2 :: x3 :: x4 :: x5 :: x6 :: x7 :: x8 :: x9 :: x10 :: x11 :: x12 :: x13 :: x14 :: x15 :: x16 :: x17 :: some a :: r) fun w h => (op a w h).lz0 fun z h => .nx (x0 :: x1 :: x2 :: x3 :: x4 :: x5 :: x6 :: x7 :: x8 :: x9 :: x10 :: x11 :: x12 :: x13 :: x14 :: x15 :: x16 :: x17 :: some z :: r) h) ∧
  (∀ (x0 : Option Val) (x1 : Option Val) (x2 : Option Val) (x3 : Option Val) (x4 : Option Val) (x5 : Option Val) (x6 : Option Val) (x7 : Option Val) (x8 : Option Val) (x9 : Option Val) (x10 : Option Val) (x11 : Option Val) (x12 : Option Val) (x13 : Option Val) (x14 : Option Val) (x15 : Option Val) (x16 : Option Val) (x17 : Option Val) (x18 : Option Val) (a : Val) (r : Env) (c : Cfg) (h : VH), eV 19 c (x0 :: x1 :: x2 :: x3 :: x4 :: x5 :: x6 :: x7 :: x8 :: x9 :: x10 :: x11 :: x12 :: x13 :: x14 :: x15 :: x16 :: x17 :: x18 :: some a :: r) h = .ok a h) ∧
  (∀ (x0 : Option Val) (x1 : Option Val) (x2 : Option Val) (x3 : Option Val) (x4 : Option Val) (x5 : Option Val) (x6 : Option Val) (x7 : Option Val) (x8 : Option Val) (x9 : Option Val) (x10 : Option Val) (x11 : Option Val) (x12 : Option Val) (x13 : Option Val) (x14 : Option Val) (x15 : Option Val) (x16 : Option Val) (x17 : Option Val) (x18 : Option Val) (x : Option Val) (a : Val) (r : Env) (c : Cfg) (h : VH), gName 19 a c (x0 :: x1 :: x2 :: x3 :: x4 :: x5 :: x6 :: x7 :: x8 :: x9 :: x10 :: x11 :: x12 :: x13 :: x14 :: x15 :: x16 :: x17 :: x18 :: x :: r) h = .ok (x0 :: x1 :: x2 :: x3 :: x4 :: x5 :: x6 :: x7 :: x8 :: x9 :: x10 :: x11 :: x12 :: x13 :: x14 :: x15 :: x16 :: x17 :: x18 :: some a :: r) h) :=
  ⟨by intros; first | rfl | (unfold bLen lenOf; rfl) | (unfold bTuple itemsOf; rfl) | (unfold bList itemsOf; rfl) | (rename_i p _ _; cases p <;> rfl) | (rename_i p; cases p <;> rfl), by intros; first | rfl | (unfold bLen lenOf; rfl) | (unfold bTuple itemsOf; rfl) | (unfold bList itemsOf; rfl) | (rename_i p _ _; cases p <;> rfl) | (rename_i p; cases p <;> rfl), by intros; first | rfl | (unfold bLen lenOf; rfl) | (unfold bTuple itemsOf; rfl) | (unfold bList itemsOf; rfl) | (rename_i p _ _; cases p <;> rfl) | (rename_i p; cases p <;> rfl), by intros; first | rfl | (unfold bLen lenOf; rfl) | (unfold bTuple itemsOf; rfl) | (unfold bList itemsOf; rfl) | (rename_i p _ _; cases p <;> rfl) | (rename_i p; cases p <;> rfl), by intros; first | rfl | (unfold bLen lenOf; rfl) | (unfold bTuple itemsOf; rfl) | (unfold bList itemsOf; rfl) | (rename_i p _ _; cases p <;> rfl) | (rename_i p; cases p <;> rfl), by intros; first | rfl | (unfold bLen lenOf; rfl) | (unfold bTuple itemsOf; rfl) | (unfold bList itemsOf; rfl) | (rename_i p _ _; cases p <;> rfl) | (rename_i p; cases p <;> rfl), by intros; first | rfl | (unfold bLen lenOf; rfl) | (unfold bTuple itemsOf; rfl) | (unfold bList itemsOf; rfl) | (rename_i p _ _; cases p <;> rfl) | (rename_i p; cases p <;> rfl), by intros; first | rfl | (unfold bLen lenOf; rfl) | (unfold bTuple itemsOf; rfl) | (unfold bList itemsOf; rfl) | (rename_i p _ _; cases p <;> rfl) | (rename_i p; cases p <;> rfl), by intros; first | rfl | (unfold bLen lenOf; rfl) | (unfold bTuple itemsOf; rfl) | (unfold bList itemsOf; rfl) | (rename_i p _ _; cases p <;> rfl) | (rename_i p; cases p <;> rfl), by intros; first | rfl | (unfold bLen lenOf; rfl) | (unfold bTuple itemsOf; rfl) | (unfold bList itemsOf; rfl) | (rename_i p _ _; cases p <;> rfl) | (rename_i p; cases p <;> rfl), by intros; first | rfl | (unfold bLen lenOf; rfl) | (unfold bTuple itemsOf; rfl) | (unfold bList itemsOf; rfl) | (rename_i p _ _; cases p <;> rfl) | (rename_i p; cases p <;> rfl), by intros; first | rfl | (unfold bLen lenOf; rfl) | (unfold bTuple itemsOf; rfl) | (unfold bList itemsOf; rfl) | (rename_i p _ _; cases p <;> rfl) | (rename_i p; cases p <;> rfl)⟩
theorem ev5 : (∀ (x0 : Option Val) (x1 : Option Val) (x2 : Option Val) (x3 : Option Val) (x4 : Option Val) (x5 : Option Val) (x6 : Option Val) (x7 : Option Val) (x8 : Option Val) (x9 : Option Val) (x10 : Option Val) (x11 : Option Val) (x12 : Option Val) (x13 : Option Val) (x14 : Option Val) (x15 : Option Val) (x16 : Option Val) (x17 : Option Val) (x18 : Option Val) (op : Val → Val → VH → Out Val) (e : Tm) (a : Val) (r : Env) (c : Cfg) (h : VH), sAug 19 op e c (x0 :: x1 :: x2 :: x3 :: x4 :: x5 :: x6 :: x7 :: x8 :: x9 :: x10 :: x11 :: x12 :: x13 :: x14 :: x15 :: x16 :: x17 :: x18 :: some a :: r) h = (e c (x0 :: x1 :: x2 :: x3 :: x4 :: x5 :: x6 :: x7 :: x8 :: x9 :: x10 :: x11 :: x12 :: x13 :: x14 :: x15 :: x16 :: x17 :: x18 :: some a :: r) h).lzt (x0 :: x1 :: x2 :: x3 :: x4 :: x5 :: x6 :: x7 :: x8 :: x9 :: x10 :: x11 :: x12 :: x13 :: x14 :: x15 :: x16 :: x17 :: x18 :: some a :: r) fun w h => (op a w h).lz0 fun z h => .nx (x0 :: x1 :: x2 :: x3 :: x4 :: x5 :: x6 :: x7 :: x8 :: x9 :: x10 :: x11 :: x12 :: x13 :: x14 :: x15 :: x16 :: x17 :: x18 :: some z :: r) h) ∧
  (∀ (x0 : Option Val) (x1 : Option Val) (x2 : Option Val) (x3 : Option Val) (x4 : Option Val) (x5 : Option Val) (x6 : Option Val) (x7 : Option Val) (x8 : Option Val) (x9 : Option Val) (x10 : Option Val) (x11 : Option Val) (x12 : Option Val) (x13 : Option Val) (x14 : Option Val) (x15 : Option Val) (x16 : Option Val) (x17 : Option Val) (x18 : Option Val) (x19 : Option Val) (a : Val) (r : Env) (c : Cfg) (h : VH), eV 20 c (x0 :: x1 :: x2 :: x3 :: x4 :: x5 :: x6 :: x7 :: x8 :: x9 :: x10 :: x11 :: x12 :: x13 :: x14 :: x15 :: x16 :: x17 :: x18 :: x19 :: some a :: r) h = .ok a h) ∧
  (∀ (x0 : Option Val) (x1 : Option Val) (x2 : Option Val) (x3 : Option Val) (x4 : Option Val) (x5 : Option Val) (x6 : Option Val) (x7 : Option Val) (x8 : Option Val) (x9 : Option Val) (x10 : Option Val) (x11 : Option Val) (x12 : Option Val) (x13 : Option Val) (x14 : Option Val) (x15 : Option Val) (x16 : Option Val) (x17 : Option Val) (x18 : Option Val) (x19 : Option Val) (x : Option Val) (a : Val) (r : Env) (c : Cfg) (h : VH), gName 20 a c (x0 :: x1 :: x2 :: x3 :: x4 :: x5 :: x6 :: x7 :: x8 :: x9 :: x10 :: x11 :: x12 :: x13 :: x14 :: x15 :: x16 :: x17 :: x18 :: x19 :: x :: r) h = .ok (x0 :: x1 :: x2 :: x3 :: x4 :: x5 :: x6 :: x7 :: x8 :: x9 :: x10 :: x11 :: x12 :: x13 :: x14 :: x15 :: x16 :: x17 :: x18 :: x19 :: some a :: r) h) ∧
  (∀ (x0 : Option Val) (x1 : Option Val) (x2 : Option Val) (x3 : Option Val) (x4 : Option Val) (x5 : Option Val) (x6 : Option Val) (x7 : Option Val) (x8 : Option Val) (x9 : Option Val) (x10 : Option Val) (x11 : Option Val) (x12 : Option Val) (x13 : Option Val) (x14 : Option Val) (x15 : Option Val) (x16 : Option Val) (x17 : Option Val) (x18 : Option Val) (x19 : Option Val) (op : Val → Val → VH → Out Val) (e : Tm) (a : Val) (r : Env) (c : Cfg) (h : VH), sAug 20 op e c (x0 :: x1 :: x2 :: x3 :: x4 :: x5 :: x6 :: x7 :: x8 :: x9 :: x10 :: x11 :: x12 :: x13 :: x14 :: x15 :: x16 :: x17 :: x18 :: x19 :: some a :: r) h = (e c (x0 :: x1 :: x2 :: x3 :: x4 :: x5 :: x6 :: x7 :: x8 :: x9 :: x10 :: x11 :: x12 :: x13 :: x14 :: x15 :: x16 :: x17 :: x18 :: x19 :: some a :: r) h).lzt (x0 :: x1 :: x2 :: x3 :: x4 :: x5 :: x6 :: x7 :: x8 :: x9 :: x10 :: x11 :: x12 :: x13 :: x14 :: x15 :: x16 :: x17 :: x18 :: x19 :: some a :: r) fun w h => (op a w h).lz0 fun z h => .nx (x0 :: x1 :: x2 :: x3 :: x4 :: x5 :: x6 :: x7 :: x8 :: x9 :: x10 :: x11 :: x12 :: x13 :: x14 :: x15 :: x16 :: x17 :: x18 :: x19 :: some z :: r) h) ∧
  (∀ (x0 : Option Val) (x1 : Option Val) (x2 : Option Val) (x3 : Option Val) (x4 : Option Val) (x5 : Option Val) (x6 : Option Val) (x7 : Option Val) (x8 : Option Val) (x9 : Option Val) (x10 : Option Val) (x11 : Option Val) (x12 : Option Val) (x13 : Option Val) (x14 : Option Val) (x15 : Option Val) (x16 : Option Val) (x17 : Option Val) (x18 : Option Val) (x19 : Option Val) (x20 : Option Val) (a : Val) (r : Env) (c : Cfg) (h : VH), eV 21 c (x0 :: x1 :: x2 :: x3 :: x4 :: x5 :: x6 :: x7 :: x8 :: x9 :: x10 :: x11 :: x12 :: x13 :: x14 :: x15 :: x16 :: x17 :: x18 :: x19 :: x20 :: some a :: r) h = .ok a h) ∧
  (∀ (x0 : Option Val) (x1 : Option Val) (x2 : Option Val) (x3 : Option Val) (x4 : Option Val) (x5 : Option Val) (x6 : Option Val) (x7 : Option Val) (x8 : Option Val) (x9 : Option Val) (x10 : Option Val) (x11 : Option Val) (x12 : Option Val) (x13 : Option Val) (x14 : Option Val) (x15 : Option Val) (x16 : Option Val) (x17 : Option Val) (x18 : Option Val) (x19 : Option Val) (x20 : Option Val) (x : Option Val) (a : Val) (r : Env) (c : Cfg) (h : VH), gName 21 a c (x0 :: x1 :: x2 :: x3 :: x4 :: x5 :: x6 :: x7 :: x8 :: x9 :: x10 :: x11 :: x12 :: x13 :: x14 :: x15 :: x16 :: x17 :: x18 :: x19 :: x20 :: x :: r) h = .ok (x0 :: x1 :: x2 :: x3 :: x4 :: x5 :: x6 :: x7 :: x8 :: x9 :: x10 :: x11 :: x12 :: x13 :: x14 :: x15 :: x16 :: x17 :: x18 :: x19 :: x20 :: some a :: r) h) ∧
  (∀ (x0 : Option Val) (x1 : Option Val) (x2 : Option Val) (x3 : Option Val) (x4 : Option Val) (x5 : Option Val) (x6 : Option Val) (x7 : Option Val) (x8 : Option Val) (x9 : Option Val) (x10 : Option Val) (x11 : Option Val) (x12 : Option Val) (x13 : Option Val) (x14 : Option Val) (x15 : Option Val) (x16 : Option Val) (x17 : Option Val) (x18 : Option Val) (x19 : Option Val) (x20 : Option Val) (op : Val → Val → VH → Out Val) (e : Tm) (a : Val) (r : Env) (c : Cfg) (h : VH), sAug 21 op e c (x0 :: x1 :: x2 :: x3 :: x4 :: x5 :: x6 :: x7 :: x8 :: x9 :: x10 :: x11 :: x12 :: x13 :: x14 :: x15 :: x16 :: x17 :: x18 :: x19 :: x20 :: some a :: r) h = (e c (x0 :: x1 :: x2 :: x3 :: x4 :: x5 :: x6 :: x7 :: x8 :: x9 :: x10 :: x11 :: x12 :: x13 :: x14 :: x15 :: x16 :: x17 :: x18 :: x19 :: x20 :: some a :: r) h).lzt (x0 :: x1 :: x2 :: x3 :: x4 :: x5 :: x6 :: x7 :: x8 :: x9 :: x10 :: x11 :: x12 :: x13 :: x14 :: x15 :: x16 :: x17 :: x18 :: x19 :: x20 :: some a :: r) fun w h => (op a w h).lz0 fun z h => .nx (x0 :: x1 :: x2 :: x3 :: x4 :: x5 :: x6 :: x7 :: x8 :: x9 :: x10 :: x11 :: x12 :: x13 :: x14 :: x15 :: x16 :: x17 :: x18 :: x19 :: x20 :: some z :: r) h) ∧
  (∀ (x0 : Option Val) (x1 : Option Val) (x2 : Option Val) (x3 : Option Val) (x4 : Option Val) (x5 : Option Val) (x6 : Option Val) (x7 : Option Val) (x8 : Option Val) (x9 : Option Val) (x10 : Option Val) (x11 : Option Val) (x12 : Option Val) (x13 : Option Val) (x14 : Option Val) (x15 : Option Val) (x16 : Option Val) (x17 : Option Val) (x18 : Option Val) (x19 : Option Val) (x20 : Option Val) (x21 : Option Val) (a : Val) (r : Env) (c : Cfg) (h : VH), eV 22 c (x0 :: x1 :: x2 :: x3 :: x4 :: x5 :: x6 :: x7 :: x8 :: x9 :: x10 :: x11 :: x12 :: x13 :: x14 :: x15 :: x16 :: x17 :: x18 :: x19 :: x20 :: x21 :: some a :: r) h = .ok a h) ∧
  (∀ (x0 : Option Val) (x1 : Option Val) (x2 : Option Val) (x3 : Option Val) (x4 : Option Val) (x5 : Option Val) (x6 : Option Val) (x7 : Option Val) (x8 : Option Val) (x9 : Option Val) (x10 : Option Val) (x11 : Option Val) (x12 : Option Val) (x13 : Option Val) (x14 : Option Val) (x15 : Option Val) (x16 : Option Val) (x17 : Option Val) (x18 : Option Val) (x19 : Option Val) (x20 : Option Val) (x21 : Option Val) (x : Option Val) (a : Val) (r : Env) (c : Cfg) (h : VH), gName 22 a c (x0 :: x1 :: x2 :: x3 :: x4 :: x5 :: x6 :: x7 :: x8 :: x9 :: x10 :: x11 :: x12 :: x13 :: x14 :: x15 :: x16 :: x17 :: x18 :: x19 :: x20 :: x21 :: x :: r) h = .ok (x0 :: x1 :: x2 :: x3 :: x4 :: x5 :: x6 :: x7 :: x8 :: x9 :: x10 :: x11 :: x12 :: x13 :: x14 :: x15 :: x16 :: x17 :: x18 :: x19 :: x20 :: x21 :: some a :: r) h) ∧
  (∀ (x0 : Option Val) (x1 : Option Val) (x2 : Option Val) (x3 : Option Val) (x4 : Option Val) (x5 : Option Val) (x6 : Option Val) (x7 : Option Val) (x8 : Option Val) (x9 : Option Val) (x10 : Option Val) (x11 : Option Val) (x12 : Option Val) (x13 : Option Val) (x14 : Option Val) (x15 : Option Val) (x16 : Option Val) (x17 : Option Val) (x18 : Option Val) (x19 : Option Val) (x20 : Option Val) (x21 : Option Val) (op : Val → Val → VH → Out Val) (e : Tm) (a : Val) (r : Env) (c : Cfg) (h : VH), sAug 22 op e c (x0 :: x1 :: x2 :: x3 :: x4 :: x5 :: x6 :: x7 :: x8 :: x9 :: x10 :: x11 :: x12 :: x13 :: x14 :: x15 :: x16 :: x17 :: x18 :: x19 :: x20 :: x21 :: some a :: r) h = (e c (x0 :: x1 :: x2 :: x3 :: x4 :: x5 :: x6 :: x7 :: x8 :: x9 :: x10 :: x11 :: x12 :: x13 :: x14 :: x15 :: x16 :: x17 :: x18 :: x19 :: x20 :: x21 :: some a :: r) h).lzt (x0 :: x1 :: x2 :: x3 :: x4 :: x5 :: x6 :: x7 :: x8 :: x9 :: x10 :: x11 :: x12 :: x13 :: x14 :: x15 :: x16 :: x17 :: x18 :: x19 :: x20 :: x21 :: some a :: r) fun w h => (op a w h).lz0 fun z h => .nx (x0 :: x1 :: x2 :: x3 :: x4 :: x5 :: x6 :: x7 :: x8 :: x9 :: x10 :: x11 :: x12 :: x13 :: x14 :: x15 :: x16 :: x17 :: x18 :: x19 :: x20 :: x21 :: some z :: r) h) ∧
  (∀ (x0 : Option Val) (x1 : Option Val) (x2 : Option Val) (x3 : Option Val) (x4 : Option Val) (x5 : Option Val) (x6 : Option Val) (x7 : Option Val) (x8 : Option Val) (x9 : Option Val) (x10 : Option Val) (x11 : Option Val) (x12 : Option Val) (x13 : Option Val) (x14 : Option Val) (x15 : Option Val) (x16 : Option Val) (x17 : Option Val) (x18 : Option Val) (x19 : Option Val) (x20 : Option Val) (x21 : Option Val) (x22 : Option Val) (a : Val) (r : Env) (c : Cfg) (h : VH), eV 23 c (x0 :: x1 :: x2 :: x3 :: x4 :: x5 :: x6 :: x7 :: x8 :: x9 :: x10 :: x11 :: x12 :: x13 :: x14 :: x15 :: x16 :: x17 :: x18 :: x19 :: x20 :: x21 :: x22 :: some a :: r) h = .ok a h) ∧
  (∀ (x0 : Option Val) (x1 : Option Val) (x2 : Option Val) (x3 : Option Val) (x4 : Option Val) (x5 : Option Val) (x6 : Option Val) (x7 : Option Val) (x8 : Option Val) (x9 : Option Val) (x10 : Option Val) (x11 : Option Val) (x12 : Option Val) (x13 : Option Val) (x14 : Option Val) (x15 : Option Val) (x16 : Option Val) (x17 : Option Val) (x18 : Option Val) (x19 : Option Val) (x20 : Option Val) (x21 : Option Val) (x22 : Option Val) (x : Option Val) (a : Val) (r : Env) (c : Cfg) (h : VH), gName 23 a c (x0 :: x1 :: x2 :: x3 :: x4 :: x5 :: x6 :: x7 :: x8 :: x9 :: x10 :: x11 :: x12 :: x13 :: x14 :: x15 :: x16 :: x17 :: x18 :: x19 :: x20 :: x21 :: x22 :: x :: r) h = .ok (x0 :: x1 :: x2 :: x3 :: x4 :: x5 :: x6 :: x7 :: x8 :: x9 :: x10 :: x11 :: x12 :: x13 :: x14 :: x15 :: x16 :: x17 :: x18 :: x19 :: x20 :: x21 :: x22 :: some a :: r) h) :=
  ⟨by intros; first | rfl | (unfold bLen lenOf; rfl) | (unfold bTuple itemsOf; rfl) | (unfold bList itemsOf; rfl) | (rename_i p _ _; cases p <;> rfl) | (rename_i p; cases p <;> rfl), by intros; first | rfl | (unfold bLen lenOf; rfl) | (unfold bTuple itemsOf; rfl) | (unfold bList itemsOf; rfl) | (rename_i p _ _; cases p <;> rfl) | (rename_i p; cases p <;> rfl), by intros; first | rfl | (unfold bLen lenOf; rfl) | (unfold bTuple itemsOf; rfl) | (unfold bList itemsOf; rfl) | (rename_i p _ _; cases p <;> rfl) | (rename_i p; cases p <;> rfl), by intros; first | rfl | (unfold bLen lenOf; rfl) | (unfold bTuple itemsOf; rfl) | (unfold bList itemsOf; rfl) | (rename_i p _ _; cases p <;> rfl) | (rename_i p; cases p <;> rfl), by intros; first | rfl | (unfold bLen lenOf; rfl) | (unfold bTuple itemsOf; rfl) | (unfold bList itemsOf; rfl) | (rename_i p _ _; cases p <;> rfl) | (rename_i p; cases p <;> rfl), by intros; first | rfl | (unfold bLen lenOf; rfl) | (unfold bTuple itemsOf; rfl) | (unfold bList itemsOf; rfl) | (rename_i p _ _; cases p <;> rfl) | (rename_i p; cases p <;> rfl), by intros; first | rfl | (unfold bLen lenOf; rfl) | (unfold bTuple itemsOf; rfl) | (unfold bList itemsOf; rfl) | (rename_i p _ _; cases p <;> rfl) | (rename_i p; cases p <;> rfl), by intros; first | rfl | (unfold bLen lenOf; rfl) | (unfold bTuple itemsOf; rfl) | (unfold bList itemsOf; rfl) | (rename_i p _ _; cases p <;> rfl) | (rename_i p; cases p <;> rfl), by intros; first | rfl | (unfold bLen lenOf; rfl) | (unfold bTuple itemsOf; rfl) | (unfold bList itemsOf; rfl) | (rename_i p _ _; cases p <;> rfl) | (rename_i p; cases p <;> rfl), by intros; first | rfl | (unfold bLen lenOf; rfl) | (unfold bTuple itemsOf; rfl) | (unfold bList itemsOf; rfl) | (rename_i p _ _; cases p <;> rfl) | (rename_i p; cases p <;> rfl), by intros; first | rfl | (unfold bLen lenOf; rfl) | (unfold bTuple itemsOf; rfl) | (unfold bList itemsOf; rfl) | (rename_i p _ _; cases p <;> rfl) | (rename_i p; cases p <;> rfl), by intros; first | rfl | (unfold bLen lenOf; rfl) | (unfold bTuple itemsOf; rfl) | (unfold bList itemsOf; rfl) | (rename_i p _ _; cases p <;> rfl) | (rename_i p; cases p <;> rfl)⟩
theorem ev6 : (∀ (x0 : Option Val) (x1 : Option Val) (x2 : Option Val) (x3 : Option Val) (x4 : Option Val) (x5 : Option Val) (x6 : Option Val) (x7 : Option Val) (x8 : Option Val) (x9 : Option Val) (x10 : Option Val) (x11 : Option Val) (x12 : Option Val) (x13 : Option Val) (x14 : Option Val) (x15 : Option Val) (x16 : Option Val) (x17 : Option Val) (x18 : Option Val) (x19 : Option Val) (x20 : Option Val) (x21 : Option Val) (x22 : Option Val) (op : Val → Val → VH → Out Val) (e : Tm) (a : Val) (r : Env) (c : Cfg) (h : VH), sAug 23 op e c (x0 :: x1 :: x2 :: x3 :: x4 :: x5 :: x6 :: x7 :: x8 :: x9 :: x10 :: x11 :: x12 :: x13 :: x14 :: x15 :: x16 :: x17 :: x18 :: x19 :: x20 :: x21 :: x22 :: some a :: r) h = (e c (x0 :: x1 :: x2 :: x3 :: x4 :: x5 :: x6 :: x7 :: x8 :: x9 :: x10 :: x11 :: x12 :: x13 :: x14 :: x15 :: x16 :: x17 :: x18 :: x19 :: x20 :: x21 :: x22 :: some a :: r) h).lzt (x0 :: x1 :: x2 :: x3 :: x4 :: x5 :: x6 :: x7 :: x8 :: x9 :: x10 :: x11 :: x12 :: x13 :: x14 :: x15 :: x16 :: x17 :: x18 :: x19 :: x20 :: x21 :: x22 :: some a :: r) fun w h => (op a w h).lz0 fun z h => .nx (x0 :: x1 :: x2 :: x3 :: x4 :: x5 :: x6 :: x7 :: x8 :: x9 :: x10 :: x11 :: x12 :: x13 :: x14 :: x15 :: x16 :: x17 :: x18 :: x19 :: x20 :: x21 :: x22 :: some z :: r) h) ∧
  (∀ (x0 : Option Val) (x1 : Option Val) (x2 : Option Val) (x3 : Option Val) (x4 : Option Val) (x5 : Option Val) (x6 : Option Val) (x7 : Option Val) (x8 : Option Val) (x9 : Option Val) (x10 : Option Val) (x11 : Option Val) (x12 : Option Val) (x13 : Option Val) (x14 : Option Val) (x15 : Option Val) (x16 : Option Val) (x17 : Option Val) (x18 : Option Val) (x19 : Option Val) (x20 : Option Val) (x21 : Option Val) (x22 : Option Val) (x23 : Option Val) (a : Val) (r : Env) (c : Cfg) (h : VH), eV 24 c (x0 :: x1 :: x2 :: x3 :: x4 :: x5 :: x6 :: x7 :: x8 :: x9 :: x10 :: x11 :: x12 :: x13 :: x14 :: x15 :: x16 :: x17 :: x18 :: x19 :: x20 :: x21 :: x22 :: x23 :: some a :: r) h = .ok a h) ∧
  (∀ (x0 : Option Val) (x1 : Option Val) (x2 : Option Val) (x3 : Option Val) (x4 : Option Val) (x5 : Option Val) (x6 : Option Val) (x7 : Option Val) (x8 : Option Val) (x9 : Option Val) (x10 : Option Val) (x11 : Option Val) (x12 : Option Val) (x13 : Option Val) (x14 : Option Val) (x15 : Option Val) (x16 : Option Val) (x17 : Option Val) (x18 : Option Val) (x19 : Option Val) (x20 : Option Val) (x21 : Option Val) (x22 : Option Val) (x23 : Option Val) (x : Option Val) (a : Val) (r : Env) (c : Cfg) (h : VH), gName 24 a c (x0 :: x1 :: x2 :: x3 :: x4 :: x5 :: x6 :: x7 :: x8 :: x9 :: x10 :: x11 :: x12 :: x13 :: x14 :: x15 :: x16 :: x17 :: x18 :: x19 :: x20 :: x21 :: x22 :: x23 :: x :: r) h = .ok (x0 :: x1 :: x2 :: x3 :: x4 :: x5 :: x6 :: x7 :: x8 :: x9 :: x10 :: x11 :: x12 :: x13 :: x14 :: x15 :: x16 :: x17 :: x18 :: x19 :: x20 :: x21 :: x22 :: x23 :: some a :: r) h) ∧
  (∀ (x0 : Option Val) (x1 : Option Val) (x2 : Option Val) (x3 : Option Val) (x4 : Option Val) (x5 : Option Val) (x6 : Option Val) (x7 : Option Val) (x8 : Option Val) (x9 : Option Val) (x10 : Option Val) (x11 : Option Val) (x12 : Option Val) (x13 : Option Val) (x14 : Option Val) (x15 : Option Val) (x16 : Option Val) (x17 : Option Val) (x18 : Option Val) (x19 : Option Val) (x20 : Option Val) (x21 : Option Val) (x22 : Option Val) (x23 : Option Val) (op : Val → Val → VH → Out Val) (e : Tm) (a : Val) (r : Env) (c : Cfg) (h : VH), sAug 24 op e c (x0 :: x1 :: x2 :: x3 :: x4 :: x5 :: x6 :: x7 :: x8 :: x9 :: x10 :: x11 :: x12 :: x13 :: x14 :: x15 :: x16 :: x17 :: x18 :: x19 :: x20 :: x21 :: x22 :: x23 :: some a :: r) h = (e c (x0 :: x1 :: x2 :: x3 :: x4 :: x5 :: x6 :: x7 :: x8 :: x9 :: x10 :: x11 :: x12 :: x13 :: x14 :: x15 :: x16 :: x17 :: x18 :: x19 :: x20 :: x21 :: x22 :: x23 :: some a :: r) h).lzt (x0 :: x1 :: x2 :: x3 :: x4 :: x5 :: x6 :: x7 :: x8 :: x9 :: x10 :: x11 :: x12 :: x13 :: x14 :: x15 :: x16 :: x17 :: x18 :: x19 :: x20 :: x21 :: x22 :: x23 :: some a :: r) fun w h => (op a w h).lz0 fun z h => .nx (x0 :: x1 :: x2 :: x3 :: x4 :: x5 :: x6 :: x7 :: x8 :: x9 :: x10 :: x11 :: x12 :: x13 :: x14 :: x15 :: x16 :: x17 :: x18 :: x19 :: x20 :: x21 :: x22 :: x23 :: some z :: r) h) ∧
  (∀ (x0 : Option Val) (x1 : Option Val) (x2 : Option Val) (x3 : Option Val) (x4 : Option Val) (x5 : Option Val) (x6 : Option Val) (x7 : Option Val) (x8 : Option Val) (x9 : Option Val) (x10 : Option Val) (x11 : Option Val) (x12 : Option Val) (x13 : Option Val) (x14 : Option Val) (x15 : Option Val) (x16 : Option Val) (x17 : Option Val) (x18 : Option Val) (x19 : Option Val) (x20 : Option Val) (x21 : Option Val) (x22 : Option Val) (x23 : Option Val) (x24 : Option Val) (a : Val) (r : Env) (c : Cfg) (h : VH), eV 25 c (x0 :: x1 :: x2 :: x3 :: x4 :: x5 :: x6 :: x7 :: x8 :: x9 :: x10 :: x11 :: x12 :: x13 :: x14 :: x15 :: x16 :: x17 :: x18 :: x19 :: x20 :: x21 :: x22 :: x23 :: x24 :: some a :: r) h = .ok a h) ∧
  (∀ (x0 : Option Val) (x1 : Option Val) (x2 : Option Val) (x3 : Option Val) (x4 : Option Val) (x5 : Option Val) (x6 : Option Val) (x7 : Option Val) (x8 : Option Val) (x9 : Option Val) (x10 : Option Val) (x11 : Option Val) (x12 : Option Val) (x13 : Option Val) (x14 : Option Val) (x15 : Option Val) (x16 : Option Val) (x17 : Option Val) (x18 : Option Val) (x19 : Option Val) (x20 : Option Val) (x21 : Option Val) (x22 : Option Val) (x23 : Option Val) (x24 : Option Val) (x : Option Val) (a : Val) (r : Env) (c : Cfg) (h : VH), gName 25 a c (x0 :: x1 :: x2 :: x3 :: x4 :: x5 :: x6 :: x7 :: x8 :: x9 :: x10 :: x11 :: x12 :: x13 :: x14 :: x15 :: x16 :: x17 :: x18 :: x19 :: x20 :: x21 :: x22 :: x23 :: x24 :: x :: r) h = .ok (x0 :: x1 :: x2 :: x3 :: x4 :: x5 :: x6 :: x7 :: x8 :: x9 :: x10 :: x11 :: x12 :: x13 :: x14 :: x15 :: x16 :: x17 :: x18 :: x19 :: x20 :: x21 :: x22 :: x23 :: x24 :: some a :: r) h) ∧
  (∀ (x0 : Option Val) (x1 : Option Val) (x2 : Option Val) (x3 : Option Val) (x4 : Option Val) (x5 : Option Val) (x6 : Option Val) (x7 : Option Val) (x8 : Option Val) (x9 : Option Val) (x10 : Option Val) (x11 : Option Val) (x12 : Option Val) (x13 : Option Val) (x14 : Option Val) (x15 : Option Val) (x16 : Option Val) (x17 : Option Val) (x18 : Option Val) (x19 : Option Val) (x20 : Option Val) (x21 : Option Val) (x22 : Option Val) (x23 : Option Val) (x24 : Option Val) (op : Val → Val → VH → Out Val) (e : Tm) (a : Val) (r : Env) (c : Cfg) (h : VH), sAug 25 op e c (x0 :: x1 :: x2 :: x3 :: x4 :: x5 :: x6 :: x7 :: x8 :: x9 :: x10 :: x11 :: x12 :: x13 :: x14 :: x15 :: x16 :: x17 :: x18 :: x19 :: x20 :: x21 :: x22 :: x23 :: x24 :: some a :: r) h = (e c (x0 :: x1 :: x2 :: x3 :: x4 :: x5 :: x6 :: x7 :: x8 :: x9 :: x10 :: x11 :: x12 :: x13 :: x14 :: x15 :: x16 :: x17 :: x18 :: x19 :: x20 :: x21 :: x22 :: x23 :: x24 :: some a :: r) h).lzt (x0 :: x1 :: x2 :: x3 :: x4 :: x5 :: x6 :: x7 :: x8 :: x9 :: x10 :: x11 :: x12 :: x13 :: x14 :: x15 :: x16 :: x17 :: x18 :: x19 :: x20 :: x21 :: x22 :: x23 :: x24 :: some a :: r) fun w h => (op a w h).lz0 fun z h => .nx (x0 :: x1 :: x2 :: x3 :: x4 :: x5 :: x6 :: x7 :: x8 :: x9 :: x10 :: x11 :: x12 :: x13 :: x14 :: x15 :: x16 :: x17 :: x18 :: x19 :: x20 :: x21 :: x22 :: x23 :: x24 :: some z :: r) h) ∧
  (∀ (c : Cfg) (rho : Env) (h : VH), aNil c rho h = .ok [] h) ∧
  (∀ (m : Tm) (t : Ta) (c : Cfg) (rho : Env) (h : VH), aCons m t c rho h = (m c rho h).lz fun v h => (t c rho h).lz fun vs h => .ok (v :: vs) h) ∧
  (∀ (t : Ta) (c : Cfg) (rho : Env) (h : VH), eTup t c rho h = (t c rho h).lz fun vs h => .ok (.tup vs) h) ∧
  (∀ (t : Ta) (c : Cfg) (rho : Env) (h : VH), eLst t c rho h = (t c rho h).lz fun vs h => .ok (.ref h.length) (h ++ [.lst vs])) ∧
  (∀ (op : Val → Val → VH → Out Val) (a b : Tm) (c : Cfg) (rho : Env) (h : VH), eOp op a b c rho h = (a c rho h).lz fun v h => (b c rho h).lz fun w h => op v w h) :=
  ⟨by intros; first | rfl | (unfold bLen lenOf; rfl) | (unfold bTuple itemsOf; rfl) | (unfold bList itemsOf; rfl) | (rename_i p _ _; cases p <;> rfl) | (rename_i p; cases p <;> rfl), by intros; first | rfl | (unfold bLen lenOf; rfl) | (unfold bTuple itemsOf; rfl) | (unfold bList itemsOf; rfl) | (rename_i p _ _; cases p <;> rfl) | (rename_i p; cases p <;> rfl), by intros; first | rfl | (unfold bLen lenOf; rfl) | (unfold bTuple itemsOf; rfl) | (unfold bList itemsOf; rfl) | (rename_i p _ _; cases p <;> rfl) | (rename_i p; cases p <;> rfl), by intros; first | rfl | (unfold bLen lenOf; rfl) | (unfold bTuple itemsOf; rfl) | (unfold bList itemsOf; rfl) | (rename_i p _ _; cases p <;> rfl) | (rename_i p; cases p <;> rfl), by intros; first | rfl | (unfold bLen lenOf; rfl) | (unfold bTuple itemsOf; rfl) | (unfold bList itemsOf; rfl) | (rename_i p _ _; cases p <;> rfl) | (rename_i p; cases p <;> rfl), by intros; first | rfl | (unfold bLen lenOf; rfl) | (unfold bTuple itemsOf; rfl) | (unfold bList itemsOf; rfl) | (rename_i p _ _; cases p <;> rfl) | (rename_i p; cases p <;> rfl), by intros; first | rfl | (unfold bLen lenOf; rfl) | (unfold bTuple itemsOf; rfl) | (unfold bList itemsOf; rfl) | (rename_i p _ _; cases p <;> rfl) | (rename_i p; cases p <;> rfl), by intros; first | rfl | (unfold bLen lenOf; rfl) | (unfold bTuple itemsOf; rfl) | (unfold bList itemsOf; rfl) | (rename_i p _ _; cases p <;> rfl) | (rename_i p; cases p <;> rfl), by intros; first | rfl | (unfold bLen lenOf; rfl) | (unfold bTuple itemsOf; rfl) | (unfold bList itemsOf; rfl) | (rename_i p _ _; cases p <;> rfl) | (rename_i p; cases p <;> rfl), by intros; first | rfl | (unfold bLen lenOf; rfl) | (unfold bTuple itemsOf; rfl) | (unfold bList itemsOf; rfl) | (rename_i p _ _; cases p <;> rfl) | (rename_i p; cases p <;> rfl), by intros; first | rfl | (unfold bLen lenOf; rfl) | (unfold bTuple itemsOf; rfl) | (unfold bList itemsOf; rfl) | (rename_i p _ _; cases p <;> rfl) | (rename_i p; cases p <;> rfl), by intros; first | rfl | (unfold bLen lenOf; rfl) | (unfold bTuple itemsOf; rfl) | (unfold bList itemsOf; rfl) | (rename_i p _ _; cases p <;> rfl) | (rename_i p; cases p <;> rfl)⟩
theorem ev7 : (∀ (op : Val → VH → Out Val) (a : Tm) (c : Cfg) (rho : Env) (h : VH), eUn op a c rho h = (a c rho h).lz fun v h => op v h) ∧
  (∀ (a : Tm) (c : Cfg) (rho : Env) (h : VH), tVal a c rho h = (a c rho h).lz fun v h => got (truth v h) h) ∧
  (∀ (a : Tt) (c : Cfg) (rho : Env) (h : VH), tNot a c rho h = (a c rho h).lz fun b h => .ok (!b) h) ∧
  (∀ (a b : Tt) (c : Cfg) (rho : Env) (h : VH), tAnd a b c rho h = (a c rho h).lz fun p h => if p then b c rho h else .ok false h) ∧
  (∀ (a b : Tt) (c : Cfg) (rho : Env) (h : VH), tOr a b c rho h = (a c rho h).lz fun p h => if p then .ok true h else b c rho h) ∧
  (∀ (a b : Tm) (c : Cfg) (rho : Env) (h : VH), eAnd a b c rho h = (a c rho h).lz fun v h => (got (truth v h) h).lz fun p h => if p then b c rho h else .ok v h) ∧
  (∀ (a b : Tm) (c : Cfg) (rho : Env) (h : VH), eOr a b c rho h = (a c rho h).lz fun v h => (got (truth v h) h).lz fun p h => if p then .ok v h else b c rho h) ∧
  (∀ (a : Tm) (c : Cfg) (rho : Env) (h : VH), eNot a c rho h = (a c rho h).lz fun v h => (got (truth v h) h).lz fun p h => .ok (.bl (!p)) h) ∧
  (∀ (t : Tt) (a b : Tm) (c : Cfg) (rho : Env) (h : VH), eIf t a b c rho h = (t c rho h).lz fun p h => if p then a c rho h else b c rho h) ∧
  (∀ (c : Cfg) (rho : Env) (h : VH), pNone c rho h = .ok none h) ∧
  (∀ (m : Tm) (c : Cfg) (rho : Env) (h : VH), pSome m c rho h = (m c rho h).lz fun v h => match v with
  | .int i => .ok (some i) h
  | _ => .bad) ∧
  (∀ (a : Tm) (lo hi : Tp) (c : Cfg) (rho : Env) (h : VH), eSl a lo hi c rho h = (a c rho h).lz fun v h => (lo c rho h).lz fun l h => (hi c rho h).lz fun u h => opSl v l u h) :=
  ⟨by intros; first | rfl | (unfold bLen lenOf; rfl) | (unfold bTuple itemsOf; rfl) | (unfold bList itemsOf; rfl) | (rename_i p _ _; cases p <;> rfl) | (rename_i p; cases p <;> rfl), by intros; first | rfl | (unfold bLen lenOf; rfl) | (unfold bTuple itemsOf; rfl) | (unfold bList itemsOf; rfl) | (rename_i p _ _; cases p <;> rfl) | (rename_i p; cases p <;> rfl), by intros; first | rfl | (unfold bLen lenOf; rfl) | (unfold bTuple itemsOf; rfl) | (unfold bList itemsOf; rfl) | (rename_i p _ _; cases p <;> rfl) | (rename_i p; cases p <;> rfl), by intros; first | rfl | (unfold bLen lenOf; rfl) | (unfold bTuple itemsOf; rfl) | (unfold bList itemsOf; rfl) | (rename_i p _ _; cases p <;> rfl) | (rename_i p; cases p <;> rfl), by intros; first | rfl | (unfold bLen lenOf; rfl) | (unfold bTuple itemsOf; rfl) | (unfold bList itemsOf; rfl) | (rename_i p _ _; cases p <;> rfl) | (rename_i p; cases p <;> rfl), by intros; first | rfl | (unfold bLen lenOf; rfl) | (unfold bTuple itemsOf; rfl) | (unfold bList itemsOf; rfl) | (rename_i p _ _; cases p <;> rfl) | (rename_i p; cases p <;> rfl), by intros; first | rfl | (unfold bLen lenOf; rfl) | (unfold bTuple itemsOf; rfl) | (unfold bList itemsOf; rfl) | (rename_i p _ _; cases p <;> rfl) | (rename_i p; cases p <;> rfl), by intros; first | rfl | (unfold bLen lenOf; rfl) | (unfold bTuple itemsOf; rfl) | (unfold bList itemsOf; rfl) | (rename_i p _ _; cases p <;> rfl) | (rename_i p; cases p <;> rfl), by intros; first | rfl | (unfold bLen lenOf; rfl) | (unfold bTuple itemsOf; rfl) | (unfold bList itemsOf; rfl) | (rename_i p _ _; cases p <;> rfl) | (rename_i p; cases p <;> rfl), by intros; first | rfl | (unfold bLen lenOf; rfl) | (unfold bTuple itemsOf; rfl) | (unfold bList itemsOf; rfl) | (rename_i p _ _; cases p <;> rfl) | (rename_i p; cases p <;> rfl), by intros; first | rfl | (unfold bLen lenOf; rfl) | (unfold bTuple itemsOf; rfl) | (unfold bList itemsOf; rfl) | (rename_i p _ _; cases p <;> rfl) | (rename_i p; cases p <;> rfl), by intros; first | rfl | (unfold bLen lenOf; rfl) | (unfold bTuple itemsOf; rfl) | (unfold bList itemsOf; rfl) | (rename_i p _ _; cases p <;> rfl) | (rename_i p; cases p <;> rfl)⟩
theorem ev8 : (∀ (op : List Val → VH → Out Val) (t : Ta) (c : Cfg) (rho : Env) (h : VH), eCallB op t c rho h = (t c rho h).lz fun vs h => op vs h) ∧
  (∀ (op : List Val → VH → Out Val) (t : Ta) (f : Option Nat → Nat → List Val → List (Str × Val) → VH → Out Val) (rho : Env) (h : VH), eCallC op t ⟨f, none⟩ rho h = (t ⟨f, none⟩ rho h).lz fun vs h => op vs h) ∧
  (∀ (T : String) (a : Tm) (c : Cfg) (rho : Env) (h : VH), eIsi T a c rho h = (a c rho h).lz fun v h => (got (tyN v h) h).lz fun t h => .ok (.bl (isTy t T)) h) ∧
  (∀ (f : Nat) (t : Ta) (ks : List Str) (u : Ta) (c : Cfg) (rho : Env) (h : VH), eCall f t ks u c rho h = (t c rho h).lz fun vs h => (u c rho h).lz fun ws h => c.call c.hot f vs (ks.zip ws) h) ∧
  (∀ (op op2 : Val → Val → VH → Out Val) (a b d : Tm) (c : Cfg) (rho : Env) (h : VH), eChain op op2 a b d c rho h = (a c rho h).lz fun x h => (b c rho h).lz fun y h => (op x y h).lz fun z h => onBl z ((d c rho h).lz fun t h => op2 y t h) (.ok (.bl false) h)) ∧
  (∀ (p : Bool) (a b : Out Val), onBl (.bl p) a b = if p = true then a else b) ∧
  (∀ {α β : Type} (a : α) (b : β) (xs : List α) (ys : List β), (a :: xs).zip (b :: ys) = (a, b) :: xs.zip ys) ∧
  (∀ {α β : Type} (ys : List β), ([] : List α).zip ys = []) ∧
  (∀ (T : String) (op : Val → List Val → VH → Out Val) (o : Tm) (t : Ta) (c : Cfg) (rho : Env) (h : VH), eMeth T op o t c rho h = (o c rho h).lz fun v h => if tyIs T v h then (t c rho h).lz fun vs h => op v vs h else .bad) ∧
  (∀ (c : Cfg) (rho : Env) (h : VH), sNx c rho h = .nx rho h) ∧
  (∀ (a b : Ts) (c : Cfg) (rho : Env) (h : VH), sSeq a b c rho h = (a c rho h).lzs fun rho h => b c rho h) ∧
  (∀ (c : Cfg) (rho : Env) (h : VH), sBrk c rho h = .bk rho h) :=
  ⟨by intros; first | rfl | (unfold bLen lenOf; rfl) | (unfold bTuple itemsOf; rfl) | (unfold bList itemsOf; rfl) | (rename_i p _ _; cases p <;> rfl) | (rename_i p; cases p <;> rfl), by intros; first | rfl | (unfold bLen lenOf; rfl) | (unfold bTuple itemsOf; rfl) | (unfold bList itemsOf; rfl) | (rename_i p _ _; cases p <;> rfl) | (rename_i p; cases p <;> rfl), by intros; first | rfl | (unfold bLen lenOf; rfl) | (unfold bTuple itemsOf; rfl) | (unfold bList itemsOf; rfl) | (rename_i p _ _; cases p <;> rfl) | (rename_i p; cases p <;> rfl), by intros; first | rfl | (unfold bLen lenOf; rfl) | (unfold bTuple itemsOf; rfl) | (unfold bList itemsOf; rfl) | (rename_i p _ _; cases p <;> rfl) | (rename_i p; cases p <;> rfl), by intros; first | rfl | (unfold bLen lenOf; rfl) | (unfold bTuple itemsOf; rfl) | (unfold bList itemsOf; rfl) | (rename_i p _ _; cases p <;> rfl) | (rename_i p; cases p <;> rfl), by intros; first | rfl | (unfold bLen lenOf; rfl) | (unfold bTuple itemsOf; rfl) | (unfold bList itemsOf; rfl) | (rename_i p _ _; cases p <;> rfl) | (rename_i p; cases p <;> rfl), by intros; first | rfl | (unfold bLen lenOf; rfl) | (unfold bTuple itemsOf; rfl) | (unfold bList itemsOf; rfl) | (rename_i p _ _; cases p <;> rfl) | (rename_i p; cases p <;> rfl), by intros; first | rfl | (unfold bLen lenOf; rfl) | (unfold bTuple itemsOf; rfl) | (unfold bList itemsOf; rfl) | (rename_i p _ _; cases p <;> rfl) | (rename_i p; cases p <;> rfl), by intros; first | rfl | (unfold bLen lenOf; rfl) | (unfold bTuple itemsOf; rfl) | (unfold bList itemsOf; rfl) | (rename_i p _ _; cases p <;> rfl) | (rename_i p; cases p <;> rfl), by intros; first | rfl | (unfold bLen lenOf; rfl) | (unfold bTuple itemsOf; rfl) | (unfold bList itemsOf; rfl) | (rename_i p _ _; cases p <;> rfl) | (rename_i p; cases p <;> rfl), by intros; first | rfl | (unfold bLen lenOf; rfl) | (unfold bTuple itemsOf; rfl) | (unfold bList itemsOf; rfl) | (rename_i p _ _; cases p <;> rfl) | (rename_i p; cases p <;> rfl), by intros; first | rfl | (unfold bLen lenOf; rfl) | (unfold bTuple itemsOf; rfl) | (unfold bList itemsOf; rfl) | (rename_i p _ _; cases p <;> rfl) | (rename_i p; cases p <;> rfl)⟩
theorem ev9 : (∀ (c : Cfg) (rho : Env) (h : VH), sCnt c rho h = .ct rho h) ∧
  (∀ (e : Tm) (c : Cfg) (rho : Env) (h : VH), sExp e c rho h = (e c rho h).lzt rho fun _ h => .nx rho h) ∧
  (∀ (e : Tm) (c : Cfg) (rho : Env) (h : VH), sRet e c rho h = (e c rho h).lzt rho fun v h => .rt v h) ∧
  (∀ (c : Cfg) (rho : Env) (h : VH), sRetN c rho h = .rt .non h) ∧
  (∀ (t : Tt) (a b : Ts) (c : Cfg) (rho : Env) (h : VH), sIf t a b c rho h = (t c rho h).lzt rho fun k h => if k then a c rho h else b c rho h) ∧
  (∀ (e : Tm) (g : Tg) (c : Cfg) (rho : Env) (h : VH), sAsg e g c rho h = (e c rho h).lzt rho fun v h => (g v c rho h).lz0 fun rho h => .nx rho h) ∧
  (∀ (c : Cfg) (rho : Env) (h : VH), gNil [] c rho h = .ok rho h) ∧
  (∀ (g : Tg) (t : Tgs) (v : Val) (vs : List Val) (c : Cfg) (rho : Env) (h : VH), gCons g t (v :: vs) c rho h = (g v c rho h).lz fun rho h => t vs c rho h) ∧
  (∀ (n : Nat) (t : Tgs) (vs : List Val) (f : Option Nat → Nat → List Val → List (Str × Val) → VH → Out Val) (rho : Env) (h : VH), gTup n t (.tup vs) ⟨f, none⟩ rho h = if vs.length = n then t vs ⟨f, none⟩ rho h else .bad) ∧
  (∀ (a i : Tm) (v : Val) (c : Cfg) (rho : Env) (h : VH), gIx a i v c rho h = (a c rho h).lzn fun o h => (i c rho h).lzn fun j h => (opSet o j v h).lz fun _ h => .ok rho h) ∧
  (∀ (src : Ti) (g : Tg) (b : Ts) (f : Option Nat → Nat → List Val → List (Str × Val) → VH → Out Val) (rho : Env) (h : VH), sFor src g b ⟨f, none⟩ rho h = (src ⟨f, none⟩ rho h).lzt rho fun p h => forL p.1 g b ⟨f, none⟩ p.2 rho h) ∧
  (∀ (src : Ti) (own : List Nat) (g : Tg) (t : Tt) (e : Tm) (f : Option Nat → Nat → List Val → List (Str × Val) → VH → Out Val) (rho : Env) (h : VH), eLc src own g t e ⟨f, none⟩ rho h = (src ⟨f, none⟩ rho h).lz fun p h => if p.2.length ≤ LIM then (lcL p.1 g t e ⟨f, none⟩ (wipeE rho own) p.2 h).lzn fun ys h => .ok (.ref h.length) (h ++ [.lst ys]) else .bad) :=
  ⟨by intros; first | rfl | (unfold bLen lenOf; rfl) | (unfold bTuple itemsOf; rfl) | (unfold bList itemsOf; rfl) | (rename_i p _ _; cases p <;> rfl) | (rename_i p; cases p <;> rfl), by intros; first | rfl | (unfold bLen lenOf; rfl) | (unfold bTuple itemsOf; rfl) | (unfold bList itemsOf; rfl) | (rename_i p _ _; cases p <;> rfl) | (rename_i p; cases p <;> rfl), by intros; first | rfl | (unfold bLen lenOf; rfl) | (unfold bTuple itemsOf; rfl) | (unfold bList itemsOf; rfl) | (rename_i p _ _; cases p <;> rfl) | (rename_i p; cases p <;> rfl), by intros; first | rfl | (unfold bLen lenOf; rfl) | (unfold bTuple itemsOf; rfl) | (unfold bList itemsOf; rfl) | (rename_i p _ _; cases p <;> rfl) | (rename_i p; cases p <;> rfl), by intros; first | rfl | (unfold bLen lenOf; rfl) | (unfold bTuple itemsOf; rfl) | (unfold bList itemsOf; rfl) | (rename_i p _ _; cases p <;> rfl) | (rename_i p; cases p <;> rfl), by intros; first | rfl | (unfold bLen lenOf; rfl) | (unfold bTuple itemsOf; rfl) | (unfold bList itemsOf; rfl) | (rename_i p _ _; cases p <;> rfl) | (rename_i p; cases p <;> rfl), by intros; first | rfl | (unfold bLen lenOf; rfl) | (unfold bTuple itemsOf; rfl) | (unfold bList itemsOf; rfl) | (rename_i p _ _; cases p <;> rfl) | (rename_i p; cases p <;> rfl), by intros; first | rfl | (unfold bLen lenOf; rfl) | (unfold bTuple itemsOf; rfl) | (unfold bList itemsOf; rfl) | (rename_i p _ _; cases p <;> rfl) | (rename_i p; cases p <;> rfl), by intros; first | rfl | (unfold bLen lenOf; rfl) | (unfold bTuple itemsOf; rfl) | (unfold bList itemsOf; rfl) | (rename_i p _ _; cases p <;> rfl) | (rename_i p; cases p <;> rfl), by intros; first | rfl | (unfold bLen lenOf; rfl) | (unfold bTuple itemsOf; rfl) | (unfold bList itemsOf; rfl) | (rename_i p _ _; cases p <;> rfl) | (rename_i p; cases p <;> rfl), by intros; first | rfl | (unfold bLen lenOf; rfl) | (unfold bTuple itemsOf; rfl) | (unfold bList itemsOf; rfl) | (rename_i p _ _; cases p <;> rfl) | (rename_i p; cases p <;> rfl), by intros; first | rfl | (unfold bLen lenOf; rfl) | (unfold bTuple itemsOf; rfl) | (unfold bList itemsOf; rfl) | (rename_i p _ _; cases p <;> rfl) | (rename_i p; cases p <;> rfl)⟩
theorem ev10 : (∀ (src : Ti) (own : List Nat) (g : Tg) (t : Tt) (e : Tm) (f : Option Nat → Nat → List Val → List (Str × Val) → VH → Out Val) (rho : Env) (h : VH), eLenSc src own g t e ⟨f, none⟩ rho h = (src ⟨f, none⟩ rho h).lz fun p h => if p.2.length ≤ 4000 then (lcL p.1 g t e ⟨f, none⟩ (wipeE rho own) p.2 h).lzn fun ys h => match keysL ys with
  | some ks => .ok (.int ((addsK [] ks).length : Nat)) h
  | none => .bad else .bad) ∧
  (∀ (i j : Nat) (t : Ta) (f : Option Nat → Nat → List Val → List (Str × Val) → VH → Out Val) (rho : Env) (h : VH), sPar2 i j t ⟨f, none⟩ rho h = (t ⟨f, none⟩ rho h).lzt rho fun vs h => match vs with
  | [v, w] => .nx ((rho.set i (some v)).set j (some w)) h
  | _ => .bad) ∧
  (∀ (i j l : Nat) (t : Ta) (f : Option Nat → Nat → List Val → List (Str × Val) → VH → Out Val) (rho : Env) (h : VH), sPar3 i j l t ⟨f, none⟩ rho h = (t ⟨f, none⟩ rho h).lzt rho fun vs h => match vs with
  | [u, v, w] => .nx (((rho.set i (some u)).set j (some v)).set l (some w)) h
  | _ => .bad) ∧
  (∀ (x : Str) (f : Option Nat → Nat → List Val → List (Str × Val) → VH → Out Val) (rho : Env) (h : VH), sRaise0 x ⟨f, none⟩ rho h = .er x [] rho h) ∧
  (∀ (n : Str) (x : XDef) (t : Ta) (ks : List Str) (u : Ta) (f : Option Nat → Nat → List Val → List (Str × Val) → VH → Out Val) (rho : Env) (h : VH), sRaise n x t ks u ⟨f, none⟩ rho h = (t ⟨f, none⟩ rho h).lzt rho fun vs h => (u ⟨f, none⟩ rho h).lzt rho fun ws h => match excBind x vs (ks.zip ws) with
  | some zs => if zs.length = x.fl.length ∧ vs.length ≤ 1000 then .er n (x.fl.zip zs).reverse rho h else .bad
  | none => .bad) ∧
  (∀ (x : Str) (f : Option Nat → Nat → List Val → List (Str × Val) → VH → Out Val) (rho : Env) (h : VH), eExc0 x ⟨f, none⟩ rho h = .ok (.ref h.length) (h ++ [.xob x []])) ∧
  (∀ (n : Str) (x : XDef) (t : Ta) (ks : List Str) (u : Ta) (f : Option Nat → Nat → List Val → List (Str × Val) → VH → Out Val) (rho : Env) (h : VH), eExc n x t ks u ⟨f, none⟩ rho h = (t ⟨f, none⟩ rho h).lz fun vs h => (u ⟨f, none⟩ rho h).lz fun ws h => (excK x ks vs ws h).lz fun fs h => .ok (.ref h.length) (h ++ [.xob n fs])) ∧
  (∀ (a : Tm) (c : Cfg) (rho : Env) (h : VH), iVal a c rho h = (a c rho h).lz fun v h => got (srcOf v h) h) ∧
  (∀ (a : Tm) (c : Cfg) (rho : Env) (h : VH), iEnum a c rho h = (a c rho h).lz fun v h => (got (enSrc v h) h).lz fun p h => .ok (p.1, enumL 0 p.2) h) ∧
  (∀ (t : Ta) (c : Cfg) (rho : Env) (h : VH), iRange t c rho h = (t c rho h).lz fun vs h => match vs with
  | [.int j] => if -BIG ≤ j ∧ j < BIG then .ok ([], rangeL 0 j) h else .bad
  | [.int i, .int j] => if -BIG ≤ i ∧ i < BIG ∧ -BIG ≤ j ∧ j < BIG then .ok ([], rangeL i j) h else .bad
  | _ => .bad) ∧
  (∀ (x : List Str) (n : Str) (a : Tm) (c : Cfg) (rho : Env) (h : VH), eIsx x n a c rho h = (a c rho h).lz fun v h => (got ((hotX c v h).bind fun p => isxOf x p.1 n) h).lz fun b h => .ok (.bl b) h) ∧
  (∀ (x : List Str) (n : Str) (a : Tm) (c : Cfg) (rho : Env) (h : VH), eXf x n a c rho h = (a c rho h).lz fun v h => got ((hotX c v h).bind fun p => if x.contains p.1 && fieldNames.contains n then p.2.lookup n else none) h) :=
  ⟨by intros; first | rfl | (unfold bLen lenOf; rfl) | (unfold bTuple itemsOf; rfl) | (unfold bList itemsOf; rfl) | (rename_i p _ _; cases p <;> rfl) | (rename_i p; cases p <;> rfl), by intros; first | rfl | (unfold bLen lenOf; rfl) | (unfold bTuple itemsOf; rfl) | (unfold bList itemsOf; rfl) | (rename_i p _ _; cases p <;> rfl) | (rename_i p; cases p <;> rfl), by intros; first | rfl | (unfold bLen lenOf; rfl) | (unfold bTuple itemsOf; rfl) | (unfold bList itemsOf; rfl) | (rename_i p _ _; cases p <;> rfl) | (rename_i p; cases p <;> rfl), by intros; first | rfl | (unfold bLen lenOf; rfl) | (unfold bTuple itemsOf; rfl) | (unfold bList itemsOf; rfl) | (rename_i p _ _; cases p <;> rfl) | (rename_i p; cases p <;> rfl), by intros; first | rfl | (unfold bLen lenOf; rfl) | (unfold bTuple itemsOf; rfl) | (unfold bList itemsOf; rfl) | (rename_i p _ _; cases p <;> rfl) | (rename_i p; cases p <;> rfl), by intros; first | rfl | (unfold bLen lenOf; rfl) | (unfold bTuple itemsOf; rfl) | (unfold bList itemsOf; rfl) | (rename_i p _ _; cases p <;> rfl) | (rename_i p; cases p <;> rfl), by intros; first | rfl | (unfold bLen lenOf; rfl) | (unfold bTuple itemsOf; rfl) | (unfold bList itemsOf; rfl) | (rename_i p _ _; cases p <;> rfl) | (rename_i p; cases p <;> rfl), by intros; first | rfl | (unfold bLen lenOf; rfl) | (unfold bTuple itemsOf; rfl) | (unfold bList itemsOf; rfl) | (rename_i p _ _; cases p <;> rfl) | (rename_i p; cases p <;> rfl), by intros; first | rfl | (unfold bLen lenOf; rfl) | (unfold bTuple itemsOf; rfl) | (unfold bList itemsOf; rfl) | (rename_i p _ _; cases p <;> rfl) | (rename_i p; cases p <;> rfl), by intros; first | rfl | (unfold bLen lenOf; rfl) | (unfold bTuple itemsOf; rfl) | (unfold bList itemsOf; rfl) | (rename_i p _ _; cases p <;> rfl) | (rename_i p; cases p <;> rfl), by intros; first | rfl | (unfold bLen lenOf; rfl) | (unfold bTuple itemsOf; rfl) | (unfold bList itemsOf; rfl) | (rename_i p _ _; cases p <;> rfl) | (rename_i p; cases p <;> rfl), by intros; first | rfl | (unfold bLen lenOf; rfl) | (unfold bTuple itemsOf; rfl) | (unfold bList itemsOf; rfl) | (rename_i p _ _; cases p <;> rfl) | (rename_i p; cases p <;> rfl)⟩
theorem ev11 : (∀ (x : List Str) (b : Ts) (hs : List Hd) (f : Option Nat → Nat → List Val → List (Str × Val) → VH → Out Val) (rho : Env) (h : VH), sTry x b hs ⟨f, none⟩ rho h = match b ⟨f, none⟩ rho h with
  | .er n fs rho h => catchH x hs ⟨f, none⟩ n fs rho h
  | o => o) ∧
  (∀ (c : Cfg) (rho : Env) (h : VH), tYes c rho h = .ok true h) ∧
  (∀ (i j : Int) (h : VH), opAdd (.int i) (.int j) h = .ok (.int (i + j)) h) ∧
  (∀ (i j : Int) (h : VH), opSub (.int i) (.int j) h = .ok (.int (i - j)) h) ∧
  (∀ (i j : Int) (h : VH), opIadd (.int i) (.int j) h = .ok (.int (i + j)) h) ∧
  (∀ (i j : Int) (h : VH), opMod (.int i) (.int j) h = if 0 < j then .ok (.int (i % j)) h else .bad) ∧
  (∀ (i j : Int) (h : VH), opLt (.int i) (.int j) h = .ok (.bl (decide (i < j))) h) ∧
  (∀ (i j : Int) (h : VH), opLe (.int i) (.int j) h = .ok (.bl (decide (i ≤ j))) h) ∧
  (∀ (i j : Int) (h : VH), opGt (.int i) (.int j) h = .ok (.bl (decide (j < i))) h) ∧
  (∀ (i j : Int) (h : VH), opGe (.int i) (.int j) h = .ok (.bl (decide (j ≤ i))) h) ∧
  (∀ (i : Int) (h : VH), opNeg (.int i) h = .ok (.int (-i)) h) ∧
  (∀ (b : Bool) (h : VH), truth (.bl b) h = some b) :=
  ⟨by intros; first | rfl | (unfold bLen lenOf; rfl) | (unfold bTuple itemsOf; rfl) | (unfold bList itemsOf; rfl) | (rename_i p _ _; cases p <;> rfl) | (rename_i p; cases p <;> rfl), by intros; first | rfl | (unfold bLen lenOf; rfl) | (unfold bTuple itemsOf; rfl) | (unfold bList itemsOf; rfl) | (rename_i p _ _; cases p <;> rfl) | (rename_i p; cases p <;> rfl), by intros; first | rfl | (unfold bLen lenOf; rfl) | (unfold bTuple itemsOf; rfl) | (unfold bList itemsOf; rfl) | (rename_i p _ _; cases p <;> rfl) | (rename_i p; cases p <;> rfl), by intros; first | rfl | (unfold bLen lenOf; rfl) | (unfold bTuple itemsOf; rfl) | (unfold bList itemsOf; rfl) | (rename_i p _ _; cases p <;> rfl) | (rename_i p; cases p <;> rfl), by intros; first | rfl | (unfold bLen lenOf; rfl) | (unfold bTuple itemsOf; rfl) | (unfold bList itemsOf; rfl) | (rename_i p _ _; cases p <;> rfl) | (rename_i p; cases p <;> rfl), by intros; first | rfl | (unfold bLen lenOf; rfl) | (unfold bTuple itemsOf; rfl) | (unfold bList itemsOf; rfl) | (rename_i p _ _; cases p <;> rfl) | (rename_i p; cases p <;> rfl), by intros; first | rfl | (unfold bLen lenOf; rfl) | (unfold bTuple itemsOf; rfl) | (unfold bList itemsOf; rfl) | (rename_i p _ _; cases p <;> rfl) | (rename_i p; cases p <;> rfl), by intros; first | rfl | (unfold bLen lenOf; rfl) | (unfold bTuple itemsOf; rfl) | (unfold bList itemsOf; rfl) | (rename_i p _ _; cases p <;> rfl) | (rename_i p; cases p <;> rfl), by intros; first | rfl | (unfold bLen lenOf; rfl) | (unfold bTuple itemsOf; rfl) | (unfold bList itemsOf; rfl) | (rename_i p _ _; cases p <;> rfl) | (rename_i p; cases p <;> rfl), by intros; first | rfl | (unfold bLen lenOf; rfl) | (unfold bTuple itemsOf; rfl) | (unfold bList itemsOf; rfl) | (rename_i p _ _; cases p <;> rfl) | (rename_i p; cases p <;> rfl), by intros; first | rfl | (unfold bLen lenOf; rfl) | (unfold bTuple itemsOf; rfl) | (unfold bList itemsOf; rfl) | (rename_i p _ _; cases p <;> rfl) | (rename_i p; cases p <;> rfl), by intros; first | rfl | (unfold bLen lenOf; rfl) | (unfold bTuple itemsOf; rfl) | (unfold bList itemsOf; rfl) | (rename_i p _ _; cases p <;> rfl) | (rename_i p; cases p <;> rfl)⟩
theorem ev12 : (∀ (i : Int) (h : VH), truth (.int i) h = some (i != 0)) ∧
  (∀ (h : VH), truth .non h = some false) ∧
  (∀ (vs : List Val) (h : VH), truth (.tup vs) h = some (!vs.isEmpty)) ∧
  (∀ (a : Val) (h : VH), opIs a .non h = .ok (.bl (decide (a = .non))) h) ∧
  (∀ (a : Val) (h : VH), opIsNot a .non h = .ok (.bl (!decide (a = .non))) h) ∧
  (∀ (vs : List Val) (i : Int) (h : VH), opIdx (.tup vs) (.int i) h = got (L2.atI vs i) h) ∧
  (∀ (vs : List Val) (lo hi : Option Int) (h : VH), opSl (.tup vs) lo hi h = .ok (.tup (cutL vs lo hi)) h) ∧
  (∀ (vs : List Val) (h : VH), bLen [.tup vs] h = .ok (.int (vs.length : Nat)) h) ∧
  (∀ (x : Str) (h : VH), bLen [.str x] h = .ok (.int (x.length : Nat)) h) ∧
  (∀ (vs : List Val) (h : VH), bTuple [.tup vs] h = .ok (.tup vs) h) ∧
  (∀ (vs : List Val) (h : VH), bList [.tup vs] h = .ok (.ref h.length) (h ++ [.lst vs])) ∧
  (∀ (vs : List Val) (h : VH), srcOf (.tup vs) h = some ([], vs)) :=
  ⟨by intros; first | rfl | (unfold bLen lenOf; rfl) | (unfold bTuple itemsOf; rfl) | (unfold bList itemsOf; rfl) | (rename_i p _ _; cases p <;> rfl) | (rename_i p; cases p <;> rfl), by intros; first | rfl | (unfold bLen lenOf; rfl) | (unfold bTuple itemsOf; rfl) | (unfold bList itemsOf; rfl) | (rename_i p _ _; cases p <;> rfl) | (rename_i p; cases p <;> rfl), by intros; first | rfl | (unfold bLen lenOf; rfl) | (unfold bTuple itemsOf; rfl) | (unfold bList itemsOf; rfl) | (rename_i p _ _; cases p <;> rfl) | (rename_i p; cases p <;> rfl), by intros; first | rfl | (unfold bLen lenOf; rfl) | (unfold bTuple itemsOf; rfl) | (unfold bList itemsOf; rfl) | (rename_i p _ _; cases p <;> rfl) | (rename_i p; cases p <;> rfl), by intros; first | rfl | (unfold bLen lenOf; rfl) | (unfold bTuple itemsOf; rfl) | (unfold bList itemsOf; rfl) | (rename_i p _ _; cases p <;> rfl) | (rename_i p; cases p <;> rfl), by intros; first | rfl | (unfold bLen lenOf; rfl) | (unfold bTuple itemsOf; rfl) | (unfold bList itemsOf; rfl) | (rename_i p _ _; cases p <;> rfl) | (rename_i p; cases p <;> rfl), by intros; first | rfl | (unfold bLen lenOf; rfl) | (unfold bTuple itemsOf; rfl) | (unfold bList itemsOf; rfl) | (rename_i p _ _; cases p <;> rfl) | (rename_i p; cases p <;> rfl), by intros; first | rfl | (unfold bLen lenOf; rfl) | (unfold bTuple itemsOf; rfl) | (unfold bList itemsOf; rfl) | (rename_i p _ _; cases p <;> rfl) | (rename_i p; cases p <;> rfl), by intros; first | rfl | (unfold bLen lenOf; rfl) | (unfold bTuple itemsOf; rfl) | (unfold bList itemsOf; rfl) | (rename_i p _ _; cases p <;> rfl) | (rename_i p; cases p <;> rfl), by intros; first | rfl | (unfold bLen lenOf; rfl) | (unfold bTuple itemsOf; rfl) | (unfold bList itemsOf; rfl) | (rename_i p _ _; cases p <;> rfl) | (rename_i p; cases p <;> rfl), by intros; first | rfl | (unfold bLen lenOf; rfl) | (unfold bTuple itemsOf; rfl) | (unfold bList itemsOf; rfl) | (rename_i p _ _; cases p <;> rfl) | (rename_i p; cases p <;> rfl), by intros; first | rfl | (unfold bLen lenOf; rfl) | (unfold bTuple itemsOf; rfl) | (unfold bList itemsOf; rfl) | (rename_i p _ _; cases p <;> rfl) | (rename_i p; cases p <;> rfl)⟩
theorem ev13 : (∀ (x : Str) (h : VH), srcOf (.str x) h = some ([], charsOf x)) ∧
  (∀ (h : VH), alive [] h = true) ∧
  (∀ (h : VH), tyN .non h = some "NoneType") ∧
  (∀ (b : Bool) (h : VH), tyN (.bl b) h = some "bool") ∧
  (∀ (b : Int) (h : VH), tyN (.int b) h = some "int") ∧
  (∀ (b : Str) (h : VH), tyN (.str b) h = some "str") ∧
  (∀ (b : List Val) (h : VH), tyN (.tup b) h = some "tuple") ∧
  (∀ (b : Str) (h : VH), tyIs "str" (.str b) h = true) ∧
  (∀ (v : Val) (h : VH), (SO.rt v h).out = .ok v h) ∧
  (∀ (r : Env) (h : VH), (SO.nx r h).out = .ok .non h) ∧
  (∀ (n : Str) (f : Flds) (r : Env) (h : VH), (SO.er n f r h).out = .er n f h) ∧
  (∀ (zs : List Val) (d : FDef) (c : Cfg) (h : VH), runF d c zs h = (d.body c (startE d.n zs) h).out) :=
  ⟨by intros; first | rfl | (unfold bLen lenOf; rfl) | (unfold bTuple itemsOf; rfl) | (unfold bList itemsOf; rfl) | (rename_i p _ _; cases p <;> rfl) | (rename_i p; cases p <;> rfl), by intros; first | rfl | (unfold bLen lenOf; rfl) | (unfold bTuple itemsOf; rfl) | (unfold bList itemsOf; rfl) | (rename_i p _ _; cases p <;> rfl) | (rename_i p; cases p <;> rfl), by intros; first | rfl | (unfold bLen lenOf; rfl) | (unfold bTuple itemsOf; rfl) | (unfold bList itemsOf; rfl) | (rename_i p _ _; cases p <;> rfl) | (rename_i p; cases p <;> rfl), by intros; first | rfl | (unfold bLen lenOf; rfl) | (unfold bTuple itemsOf; rfl) | (unfold bList itemsOf; rfl) | (rename_i p _ _; cases p <;> rfl) | (rename_i p; cases p <;> rfl), by intros; first | rfl | (unfold bLen lenOf; rfl) | (unfold bTuple itemsOf; rfl) | (unfold bList itemsOf; rfl) | (rename_i p _ _; cases p <;> rfl) | (rename_i p; cases p <;> rfl), by intros; first | rfl | (unfold bLen lenOf; rfl) | (unfold bTuple itemsOf; rfl) | (unfold bList itemsOf; rfl) | (rename_i p _ _; cases p <;> rfl) | (rename_i p; cases p <;> rfl), by intros; first | rfl | (unfold bLen lenOf; rfl) | (unfold bTuple itemsOf; rfl) | (unfold bList itemsOf; rfl) | (rename_i p _ _; cases p <;> rfl) | (rename_i p; cases p <;> rfl), by intros; first | rfl | (unfold bLen lenOf; rfl) | (unfold bTuple itemsOf; rfl) | (unfold bList itemsOf; rfl) | (rename_i p _ _; cases p <;> rfl) | (rename_i p; cases p <;> rfl), by intros; first | rfl | (unfold bLen lenOf; rfl) | (unfold bTuple itemsOf; rfl) | (unfold bList itemsOf; rfl) | (rename_i p _ _; cases p <;> rfl) | (rename_i p; cases p <;> rfl), by intros; first | rfl | (unfold bLen lenOf; rfl) | (unfold bTuple itemsOf; rfl) | (unfold bList itemsOf; rfl) | (rename_i p _ _; cases p <;> rfl) | (rename_i p; cases p <;> rfl), by intros; first | rfl | (unfold bLen lenOf; rfl) | (unfold bTuple itemsOf; rfl) | (unfold bList itemsOf; rfl) | (rename_i p _ _; cases p <;> rfl) | (rename_i p; cases p <;> rfl), by intros; first | rfl | (unfold bLen lenOf; rfl) | (unfold bTuple itemsOf; rfl) | (unfold bList itemsOf; rfl) | (rename_i p _ _; cases p <;> rfl) | (rename_i p; cases p <;> rfl)⟩
theorem ev14 : (∀ {α β : Type} (a : α) (h : VH) (k : α → VH → Out β) (t : Tag k), (Out.ok a h).lz k t = k a h) ∧
  (∀ {α β : Type} (c : Str) (fs : Flds) (h : VH) (k : α → VH → Out β) (t : Tag k), (Out.er c fs h : Out α).lz k t = .er c fs h) ∧
  (∀ {α β : Type} (a : α) (h : VH) (k : α → VH → Out β) (t : Tag k), (Out.ok a h).lzn k t = k a h) ∧
  (∀ {α : Type} (a : α) (h : VH) (rho : Env) (k : α → VH → SO) (t : Tag k), (Out.ok a h).lzt rho k t = k a h) ∧
  (∀ {α : Type} (c : Str) (fs : Flds) (h : VH) (rho : Env) (k : α → VH → SO) (t : Tag k), (Out.er c fs h : Out α).lzt rho k t = .er c fs rho h) ∧
  (∀ {α : Type} (a : α) (h : VH) (k : α → VH → SO) (t : Tag k), (Out.ok a h).lz0 k t = k a h) ∧
  (∀ (rho : Env) (h : VH) (k : Env → VH → SO) (t : Tag k), (SO.nx rho h).lzs k t = k rho h) ∧
  (∀ (v : Val) (h : VH) (k : Env → VH → SO) (t : Tag k), (SO.rt v h).lzs k t = .rt v h) ∧
  (∀ (rho : Env) (h : VH) (k : Env → VH → SO) (t : Tag k), (SO.bk rho h).lzs k t = .bk rho h) ∧
  (∀ (rho : Env) (h : VH) (k : Env → VH → SO) (t : Tag k), (SO.ct rho h).lzs k t = .ct rho h) ∧
  (∀ (c : Str) (fs : Flds) (rho : Env) (h : VH) (k : Env → VH → SO) (t : Tag k), (SO.er c fs rho h).lzs k t = .er c fs rho h) ∧
  (∀ {α : Type} (a : α) (h : VH), got (some a) h = .ok a h) :=
  ⟨by intros; first | rfl | (unfold bLen lenOf; rfl) | (unfold bTuple itemsOf; rfl) | (unfold bList itemsOf; rfl) | (rename_i p _ _; cases p <;> rfl) | (rename_i p; cases p <;> rfl), by intros; first | rfl | (unfold bLen lenOf; rfl) | (unfold bTuple itemsOf; rfl) | (unfold bList itemsOf; rfl) | (rename_i p _ _; cases p <;> rfl) | (rename_i p; cases p <;> rfl), by intros; first | rfl | (unfold bLen lenOf; rfl) | (unfold bTuple itemsOf; rfl) | (unfold bList itemsOf; rfl) | (rename_i p _ _; cases p <;> rfl) | (rename_i p; cases p <;> rfl), by intros; first | rfl | (unfold bLen lenOf; rfl) | (unfold bTuple itemsOf; rfl) | (unfold bList itemsOf; rfl) | (rename_i p _ _; cases p <;> rfl) | (rename_i p; cases p <;> rfl), by intros; first | rfl | (unfold bLen lenOf; rfl) | (unfold bTuple itemsOf; rfl) | (unfold bList itemsOf; rfl) | (rename_i p _ _; cases p <;> rfl) | (rename_i p; cases p <;> rfl), by intros; first | rfl | (unfold bLen lenOf; rfl) | (unfold bTuple itemsOf; rfl) | (unfold bList itemsOf; rfl) | (rename_i p _ _; cases p <;> rfl) | (rename_i p; cases p <;> rfl), by intros; first | rfl | (unfold bLen lenOf; rfl) | (unfold bTuple itemsOf; rfl) | (unfold bList itemsOf; rfl) | (rename_i p _ _; cases p <;> rfl) | (rename_i p; cases p <;> rfl), by intros; first | rfl | (unfold bLen lenOf; rfl) | (unfold bTuple itemsOf; rfl) | (unfold bList itemsOf; rfl) | (rename_i p _ _; cases p <;> rfl) | (rename_i p; cases p <;> rfl), by intros; first | rfl | (unfold bLen lenOf; rfl) | (unfold bTuple itemsOf; rfl) | (unfold bList itemsOf; rfl) | (rename_i p _ _; cases p <;> rfl) | (rename_i p; cases p <;> rfl), by intros; first | rfl | (unfold bLen lenOf; rfl) | (unfold bTuple itemsOf; rfl) | (unfold bList itemsOf; rfl) | (rename_i p _ _; cases p <;> rfl) | (rename_i p; cases p <;> rfl), by intros; first | rfl | (unfold bLen lenOf; rfl) | (unfold bTuple itemsOf; rfl) | (unfold bList itemsOf; rfl) | (rename_i p _ _; cases p <;> rfl) | (rename_i p; cases p <;> rfl), by intros; first | rfl | (unfold bLen lenOf; rfl) | (unfold bTuple itemsOf; rfl) | (unfold bList itemsOf; rfl) | (rename_i p _ _; cases p <;> rfl) | (rename_i p; cases p <;> rfl)⟩
theorem ev15 : (∀ {α : Type} (a : α) (h : VH) (Q : α → VH → Prop) (E : Str → Flds → VH → Prop), (Out.ok a h).W Q E = Q a h) ∧
  (∀ {α : Type} (n : Str) (f : Flds) (h : VH) (Q : α → VH → Prop) (E : Str → Flds → VH → Prop), (Out.er n f h : Out α).W Q E = E n f h) ∧
  (∀ {α : Type} (a b : α), (if True then a else b) = a) ∧
  (∀ {α : Type} (a b : α), (if False then a else b) = b) ∧
  (∀ {α : Type} (a b : α), (if true = true then a else b) = a) ∧
  (∀ {α : Type} (a b : α), (if false = true then a else b) = b) ∧
  (∀ (l : Nat) (i : Int) (h : VH), opIdx (.ref l) (.int i) h = idxO h[l]? i h) ∧
  (∀ (l m : Nat) (h : VH), opAdd (.ref l) (.ref m) h = catO h[l]? h[m]? h) ∧
  (∀ (l : Nat) (i : Int) (h : VH), opMul (.ref l) (.int i) h = mulO h[l]? i h) ∧
  (∀ (l : Nat) (lo hi : Option Int) (h : VH), opSl (.ref l) lo hi h = cutO h[l]? lo hi h) ∧
  (∀ (l : Nat) (h : VH), bLen [.ref l] h = (got (lenO h[l]?) h).lz fun n h => .ok (.int (n : Nat)) h) ∧
  (∀ (l : Nat) (h : VH), bTuple [.ref l] h = (got (itmO h[l]?) h).lz fun vs h => .ok (.tup vs) h) :=
  ⟨by intros; first | rfl | (unfold bLen lenOf; rfl) | (unfold bTuple itemsOf; rfl) | (unfold bList itemsOf; rfl) | (rename_i p _ _; cases p <;> rfl) | (rename_i p; cases p <;> rfl), by intros; first | rfl | (unfold bLen lenOf; rfl) | (unfold bTuple itemsOf; rfl) | (unfold bList itemsOf; rfl) | (rename_i p _ _; cases p <;> rfl) | (rename_i p; cases p <;> rfl), by intros; first | rfl | (unfold bLen lenOf; rfl) | (unfold bTuple itemsOf; rfl) | (unfold bList itemsOf; rfl) | (rename_i p _ _; cases p <;> rfl) | (rename_i p; cases p <;> rfl), by intros; first | rfl | (unfold bLen lenOf; rfl) | (unfold bTuple itemsOf; rfl) | (unfold bList itemsOf; rfl) | (rename_i p _ _; cases p <;> rfl) | (rename_i p; cases p <;> rfl), by intros; first | rfl | (unfold bLen lenOf; rfl) | (unfold bTuple itemsOf; rfl) | (unfold bList itemsOf; rfl) | (rename_i p _ _; cases p <;> rfl) | (rename_i p; cases p <;> rfl), by intros; first | rfl | (unfold bLen lenOf; rfl) | (unfold bTuple itemsOf; rfl) | (unfold bList itemsOf; rfl) | (rename_i p _ _; cases p <;> rfl) | (rename_i p; cases p <;> rfl), fun l i h => by simp only [opIdx, idxO]; generalize h[l]? = o; rcases o with _ | o <;> first | rfl | (cases o <;> rfl), fun l m h => by simp only [opAdd, catO]; generalize h[l]? = o; generalize h[m]? = u; rcases o with _ | o <;> rcases u with _ | u <;> first | rfl | (cases o <;> rfl) | (cases o <;> cases u <;> rfl), fun l i h => by simp only [opMul, mulO]; generalize h[l]? = o; rcases o with _ | o <;> first | rfl | (cases o <;> rfl), fun l lo hi h => by simp only [opSl, cutO]; generalize h[l]? = o; rcases o with _ | o <;> first | rfl | (cases o <;> rfl), by intros; first | rfl | (unfold bLen lenOf; rfl) | (unfold bTuple itemsOf; rfl) | (unfold bList itemsOf; rfl) | (rename_i p _ _; cases p <;> rfl) | (rename_i p; cases p <;> rfl), by intros; first | rfl | (unfold bLen lenOf; rfl) | (unfold bTuple itemsOf; rfl) | (unfold bList itemsOf; rfl) | (rename_i p _ _; cases p <;> rfl) | (rename_i p; cases p <;> rfl)⟩
theorem ev16 : (∀ (l : Nat) (h : VH), bList [.ref l] h = (got (itmO h[l]?) h).lz fun vs h => .ok (.ref h.length) (h ++ [.lst vs])) ∧
  (∀ (l : Nat) (h : VH), srcOf (.ref l) h = srcO l h[l]?) ∧
  (∀ (l : Nat) (h : VH), tyIs "list" (.ref l) h = tyO h[l]?) ∧
  (∀ (l : Nat) (h : VH), truth (.ref l) h = trO h[l]?) ∧
  (∀ (l : Nat) (y : Val) (h : VH), mAppend (.ref l) [y] h = appO l h[l]? y h) ∧
  (∀ (vs : List Val) (i : Int) (h : VH), idxO (some (.lst vs)) i h = got (L2.atI vs i) h) ∧
  (∀ (vs : List Val), lenO (some (.lst vs)) = some vs.length) ∧
  (∀ (vs : List Val), itmO (some (.lst vs)) = some vs) ∧
  (∀ (x y : List Val) (h : VH), catO (some (.lst x)) (some (.lst y)) h = if x.length + y.length ≤ LIM then .ok (.ref h.length) (h ++ [.lst (x ++ y)]) else .bad) ∧
  (∀ (x : List Val) (j : Int) (h : VH), mulO (some (.lst x)) j h = if x.length * j.toNat ≤ LIM ∧ j < 2 ^ 62 ∧ -(2 ^ 62) < j then .ok (.ref h.length) (h ++ [.lst (repN j.toNat x)]) else .bad) ∧
  (∀ (vs : List Val) (lo hi : Option Int) (h : VH), cutO (some (.lst vs)) lo hi h = .ok (.ref h.length) (h ++ [.lst (cutL vs lo hi)])) ∧
  (∀ (l : Nat) (vs : List Val), srcO l (some (.lst vs)) = some ([(l, .lst vs)], vs)) :=
  ⟨by intros; first | rfl | (unfold bLen lenOf; rfl) | (unfold bTuple itemsOf; rfl) | (unfold bList itemsOf; rfl) | (rename_i p _ _; cases p <;> rfl) | (rename_i p; cases p <;> rfl), by intros; first | rfl | (unfold bLen lenOf; rfl) | (unfold bTuple itemsOf; rfl) | (unfold bList itemsOf; rfl) | (rename_i p _ _; cases p <;> rfl) | (rename_i p; cases p <;> rfl), by intros; first | rfl | (unfold bLen lenOf; rfl) | (unfold bTuple itemsOf; rfl) | (unfold bList itemsOf; rfl) | (rename_i p _ _; cases p <;> rfl) | (rename_i p; cases p <;> rfl), by intros; first | rfl | (unfold bLen lenOf; rfl) | (unfold bTuple itemsOf; rfl) | (unfold bList itemsOf; rfl) | (rename_i p _ _; cases p <;> rfl) | (rename_i p; cases p <;> rfl), fun l y h => by simp only [mAppend, appO]; generalize h[l]? = o; rcases o with _ | o <;> first | rfl | (cases o <;> rfl), by intros; first | rfl | (unfold bLen lenOf; rfl) | (unfold bTuple itemsOf; rfl) | (unfold bList itemsOf; rfl) | (rename_i p _ _; cases p <;> rfl) | (rename_i p; cases p <;> rfl), by intros; first | rfl | (unfold bLen lenOf; rfl) | (unfold bTuple itemsOf; rfl) | (unfold bList itemsOf; rfl) | (rename_i p _ _; cases p <;> rfl) | (rename_i p; cases p <;> rfl), by intros; first | rfl | (unfold bLen lenOf; rfl) | (unfold bTuple itemsOf; rfl) | (unfold bList itemsOf; rfl) | (rename_i p _ _; cases p <;> rfl) | (rename_i p; cases p <;> rfl), by intros; first | rfl | (unfold bLen lenOf; rfl) | (unfold bTuple itemsOf; rfl) | (unfold bList itemsOf; rfl) | (rename_i p _ _; cases p <;> rfl) | (rename_i p; cases p <;> rfl), by intros; first | rfl | (unfold bLen lenOf; rfl) | (unfold bTuple itemsOf; rfl) | (unfold bList itemsOf; rfl) | (rename_i p _ _; cases p <;> rfl) | (rename_i p; cases p <;> rfl), by intros; first | rfl | (unfold bLen lenOf; rfl) | (unfold bTuple itemsOf; rfl) | (unfold bList itemsOf; rfl) | (rename_i p _ _; cases p <;> rfl) | (rename_i p; cases p <;> rfl), by intros; first | rfl | (unfold bLen lenOf; rfl) | (unfold bTuple itemsOf; rfl) | (unfold bList itemsOf; rfl) | (rename_i p _ _; cases p <;> rfl) | (rename_i p; cases p <;> rfl)⟩
theorem ev17 : (∀ (l : Nat) (vs : List Val), srcO l (some (.frz vs)) = some ([(l, .frz vs)], vs)) ∧
  (∀ (vs : List Val) (i : Int) (h : VH), idxO (some (.frz vs)) i h = got (L2.atI vs i) h) ∧
  (∀ (vs : List Val), lenO (some (.frz vs)) = some vs.length) ∧
  (∀ (vs : List Val), tyO (some (.lst vs)) = true) ∧
  (∀ (vs : List Val), trO (some (.lst vs)) = some (!vs.isEmpty)) ∧
  (∀ (l : Nat) (ws : List Val) (y : Val) (h : VH), appO l (some (.lst ws)) y h = if ws.length < LIM then .ok .non (h.set l (.lst (ws ++ [y]))) else .bad) :=
  ⟨by intros; first | rfl | (unfold bLen lenOf; rfl) | (unfold bTuple itemsOf; rfl) | (unfold bList itemsOf; rfl) | (rename_i p _ _; cases p <;> rfl) | (rename_i p; cases p <;> rfl), by intros; first | rfl | (unfold bLen lenOf; rfl) | (unfold bTuple itemsOf; rfl) | (unfold bList itemsOf; rfl) | (rename_i p _ _; cases p <;> rfl) | (rename_i p; cases p <;> rfl), by intros; first | rfl | (unfold bLen lenOf; rfl) | (unfold bTuple itemsOf; rfl) | (unfold bList itemsOf; rfl) | (rename_i p _ _; cases p <;> rfl) | (rename_i p; cases p <;> rfl), by intros; first | rfl | (unfold bLen lenOf; rfl) | (unfold bTuple itemsOf; rfl) | (unfold bList itemsOf; rfl) | (rename_i p _ _; cases p <;> rfl) | (rename_i p; cases p <;> rfl), by intros; first | rfl | (unfold bLen lenOf; rfl) | (unfold bTuple itemsOf; rfl) | (unfold bList itemsOf; rfl) | (rename_i p _ _; cases p <;> rfl) | (rename_i p; cases p <;> rfl), by intros; first | rfl | (unfold bLen lenOf; rfl) | (unfold bTuple itemsOf; rfl) | (unfold bList itemsOf; rfl) | (rename_i p _ _; cases p <;> rfl) | (rename_i p; cases p <;> rfl)⟩
theorem ev : type_of% @ev0 ∧ type_of% @ev1 ∧ type_of% @ev2 ∧ type_of% @ev3 ∧ type_of% @ev4 ∧ type_of% @ev5 ∧ type_of% @ev6 ∧ type_of% @ev7 ∧ type_of% @ev8 ∧ type_of% @ev9 ∧ type_of% @ev10 ∧ type_of% @ev11 ∧ type_of% @ev12 ∧ type_of% @ev13 ∧ type_of% @ev14 ∧ type_of% @ev15 ∧ type_of% @ev16 ∧ type_of% @ev17 := ⟨ev0, ev1, ev2, ev3, ev4, ev5, ev6, ev7, ev8, ev9, ev10, ev11, ev12, ev13, ev14, ev15, ev16, ev17⟩
theorem lookup_mem {T : Tab} {a : Nat} {D : FDef} (h : T.lookup a = some D) : (a, D) ∈ T := by
  induction T with
  | nil => cases h
  | cons p T ih =>
    obtain ⟨b, d⟩ := p
    rw [List.lookup_cons] at h
    split at h
    · rename_i e
      cases h
      rw [eq_of_beq e]
      exact List.mem_cons_self
    · exact List.mem_cons_of_mem _ (ih h)
end Pv
end
/-! GK04 -/
section
set_option Elab.async false
set_option linter.all false
set_option maxRecDepth 1000000
set_option maxHeartbeats 0
set_option autoImplicit false
/-! the pure meaning of the defs that likenest_k04_at_and_put reaches first (printed by gen2.py). -/
namespace Pv
open PySem PySem.Spec PyProof.Rows L2
def D_is_whole : Ts := sSeq (sRet (eAnd (eIsi "int" (eV 0)) (eNot (eIsi "bool" (eV 0))))) (sNx)
def F_is_whole : FDef := ⟨["thing"], [], [], [], 1, D_is_whole⟩
structure Ok_is_whole (T : Tab) : Prop where
  l : T.lookup 6 = some F_is_whole
theorem call_is_whole {T : Tab} (t : Ok_is_whole T) (k : Nat) (hot : Option Nat) (v0 : Val) (h : VH) : callN T (k + 1) hot 6 [v0] [] h = (D_is_whole ⟨callN T k, hot⟩ [some v0] h).out := call_eqD (nm := ["thing"]) (ko := []) (dfl := [] ) (kwd := []) (n := 1) (D := D_is_whole) (zs := [v0]) t.l (by kernel_rfl) rfl k hot h

def D_is_within : Ts := sSeq (sRet (eAnd (eCall 6 (aCons (eV 0) (aNil)) [] (aNil)) (eChain opLe opLe (eV 1) (eV 0) (eV 2)))) (sNx)
def F_is_within : FDef := ⟨["thing", "low", "high"], [], [], [], 3, D_is_within⟩
structure Ok_is_within (T : Tab) : Prop where
  l : T.lookup 7 = some F_is_within
  is_whole : Ok_is_whole T
theorem call_is_within {T : Tab} (t : Ok_is_within T) (k : Nat) (hot : Option Nat) (v0 v1 v2 : Val) (h : VH) : callN T (k + 1) hot 7 [v0, v1, v2] [] h = (D_is_within ⟨callN T k, hot⟩ [some v0, some v1, some v2] h).out := call_eqD (nm := ["thing", "low", "high"]) (ko := []) (dfl := [] ) (kwd := []) (n := 3) (D := D_is_within) (zs := [v0, v1, v2]) t.l (by kernel_rfl) rfl k hot h

def C1_is_name : Tm := eOp opIn (eV 1) (eC (.str "abcdefghijklmnopqrstuvwxyz"))
def D_is_name : Ts := sSeq (sIf (tOr (tNot (tVal (eIsi "str" (eV 0)))) (tNot (tVal (eChain opLe opLe (eC (.int 1)) (eCallB bLen (aCons (eV 0) (aNil))) (eC (.int (6))))))) (sSeq (sRet (eC (.bl false))) (sNx)) (sNx)) (sSeq (sRet (eCallC bAll (aCons (eLc (iVal (eV 0)) [1] (gName 1) (tYes) (C1_is_name)) (aNil)))) (sNx))
def F_is_name : FDef := ⟨["thing"], [], [], [], 2, D_is_name⟩
structure Ok_is_name (T : Tab) : Prop where
  l : T.lookup 8 = some F_is_name
theorem call_is_name {T : Tab} (t : Ok_is_name T) (k : Nat) (hot : Option Nat) (v0 : Val) (h : VH) : callN T (k + 1) hot 8 [v0] [] h = (D_is_name ⟨callN T k, hot⟩ [some v0, none] h).out := call_eqD (nm := ["thing"]) (ko := []) (dfl := [] ) (kwd := []) (n := 2) (D := D_is_name) (zs := [v0]) t.l (by kernel_rfl) rfl k hot h

def D_is_sign : Ts := sSeq (sIf (tOr (tNot (tVal (eIsi "tuple" (eV 0)))) (tVal (eOp opNe (eCallB bLen (aCons (eV 0) (aNil))) (eC (.int 2))))) (sSeq (sRet (eC (.bl false))) (sNx)) (sNx)) (sSeq (sRet (eAnd (eCall 8 (aCons (eOp opIdx (eV 0) (eC (.int 0))) (aNil)) [] (aNil)) (eCall 7 (aCons (eOp opIdx (eV 0) (eC (.int 1))) (aCons (eC (.int 0)) (aCons (eC (.int (3))) (aNil)))) [] (aNil)))) (sNx))
def F_is_sign : FDef := ⟨["thing"], [], [], [], 1, D_is_sign⟩
structure Ok_is_sign (T : Tab) : Prop where
  l : T.lookup 9 = some F_is_sign
  is_name : Ok_is_name T
  is_within : Ok_is_within T
theorem call_is_sign {T : Tab} (t : Ok_is_sign T) (k : Nat) (hot : Option Nat) (v0 : Val) (h : VH) : callN T (k + 1) hot 9 [v0] [] h = (D_is_sign ⟨callN T k, hot⟩ [some v0] h).out := call_eqD (nm := ["thing"]) (ko := []) (dfl := [] ) (kwd := []) (n := 1) (D := D_is_sign) (zs := [v0]) t.l (by kernel_rfl) rfl k hot h

def D_are_signs : Ts := sSeq (sIf (tOr (tNot (tVal (eIsi "tuple" (eV 0)))) (tOr (tNot (tVal (eChain opLe opLe (eC (.int 1)) (eCallB bLen (aCons (eV 0) (aNil))) (eC (.int (8)))))) (tNot (tVal (eCallC bAll (aCons (eLc (iVal (eV 0)) [1] (gName 1) (tYes) (eCall 9 (aCons (eV 1) (aNil)) [] (aNil))) (aNil))))))) (sSeq (sRet (eC (.bl false))) (sNx)) (sNx)) (sSeq (sRet (eAnd (eOp opEq (eLenSc (iVal (eV 0)) [2, 3] (gTup 2 (gCons (gName 2) (gCons (gName 3) (gNil)))) (tYes) (eV 2)) (eCallB bLen (aCons (eV 0) (aNil)))) (eOp opIn (eC (.int 0)) (eLc (iVal (eV 0)) [2, 3] (gTup 2 (gCons (gName 2) (gCons (gName 3) (gNil)))) (tYes) (eV 3))))) (sNx))
def F_are_signs : FDef := ⟨["thing"], [], [], [], 4, D_are_signs⟩
structure Ok_are_signs (T : Tab) : Prop where
  l : T.lookup 10 = some F_are_signs
  is_sign : Ok_is_sign T
theorem call_are_signs {T : Tab} (t : Ok_are_signs T) (k : Nat) (hot : Option Nat) (v0 : Val) (h : VH) : callN T (k + 1) hot 10 [v0] [] h = (D_are_signs ⟨callN T k, hot⟩ [some v0, none, none, none] h).out := call_eqD (nm := ["thing"]) (ko := []) (dfl := [] ) (kwd := []) (n := 4) (D := D_are_signs) (zs := [v0]) t.l (by kernel_rfl) rfl k hot h

def D_need_signs : Ts := sSeq (sIf (tNot (tVal (eCall 10 (aCons (eV 0) (aNil)) [] (aNil)))) (sSeq (sRaise0 "NoSigns") (sNx)) (sNx)) (sNx)
def F_need_signs : FDef := ⟨["signs"], [], [], [], 1, D_need_signs⟩
structure Ok_need_signs (T : Tab) : Prop where
  l : T.lookup 11 = some F_need_signs
  are_signs : Ok_are_signs T
theorem call_need_signs {T : Tab} (t : Ok_need_signs T) (k : Nat) (hot : Option Nat) (v0 : Val) (h : VH) : callN T (k + 1) hot 11 [v0] [] h = (D_need_signs ⟨callN T k, hot⟩ [some v0] h).out := call_eqD (nm := ["signs"]) (ko := []) (dfl := [] ) (kwd := []) (n := 1) (D := D_need_signs) (zs := [v0]) t.l (by kernel_rfl) rfl k hot h

def L1_end_of : Ts := sSeq (sIf (tNot (tVal (eCall 7 (aCons (eOp opIdx (eV 1) (eV 4)) (aCons (eC (.int 0)) (aCons (eOp opSub (eCallB bLen (aCons (eV 0) (aNil))) (eC (.int 1))) (aNil)))) [] (aNil)))) (sSeq (sRet (eUn opNeg (eC (.int 1)))) (sNx)) (sNx)) (sSeq (sAug 3 opIadd (eOp opSub (eOp opIdx (eOp opIdx (eV 0) (eOp opIdx (eV 1) (eV 4))) (eC (.int 1))) (eC (.int 1)))) (sSeq (sIf (tVal (eOp opEq (eV 3) (eC (.int 0)))) (sSeq (sRet (eOp opAdd (eV 4) (eC (.int 1)))) (sNx)) (sNx)) (sNx)))
def D_end_of : Ts := sSeq (sAsg (eC (.int 1)) (gName 3)) (sSeq (sFor (iRange (aCons (eV 2) (aCons (eCallB bLen (aCons (eV 1) (aNil))) (aNil)))) (gName 4) (L1_end_of)) (sSeq (sRet (eUn opNeg (eC (.int 1)))) (sNx)))
def F_end_of : FDef := ⟨["signs", "row", "start"], [], [], [], 5, D_end_of⟩
structure Ok_end_of (T : Tab) : Prop where
  l : T.lookup 12 = some F_end_of
  is_within : Ok_is_within T
theorem call_end_of {T : Tab} (t : Ok_end_of T) (k : Nat) (hot : Option Nat) (v0 v1 v2 : Val) (h : VH) : callN T (k + 1) hot 12 [v0, v1, v2] [] h = (D_end_of ⟨callN T k, hot⟩ [some v0, some v1, some v2, none, none] h).out := call_eqD (nm := ["signs", "row", "start"]) (ko := []) (dfl := [] ) (kwd := []) (n := 5) (D := D_end_of) (zs := [v0, v1, v2]) t.l (by kernel_rfl) rfl k hot h

def D_is_row : Ts := sSeq (sRet (eAnd (eIsi "tuple" (eV 1)) (eAnd (eChain opLe opLe (eC (.int 1)) (eCallB bLen (aCons (eV 1) (aNil))) (eV 2)) (eOp opEq (eCall 12 (aCons (eV 0) (aCons (eV 1) (aCons (eC (.int 0)) (aNil)))) [] (aNil)) (eCallB bLen (aCons (eV 1) (aNil))))))) (sNx)
def F_is_row : FDef := ⟨["signs", "thing", "most"], [], [.int (30)], [], 3, D_is_row⟩
structure Ok_is_row (T : Tab) : Prop where
  l : T.lookup 13 = some F_is_row
  end_of : Ok_end_of T
theorem call_is_row {T : Tab} (t : Ok_is_row T) (k : Nat) (hot : Option Nat) (v0 v1 v2 : Val) (h : VH) : callN T (k + 1) hot 13 [v0, v1, v2] [] h = (D_is_row ⟨callN T k, hot⟩ [some v0, some v1, some v2] h).out := call_eqD (nm := ["signs", "thing", "most"]) (ko := []) (dfl := [.int (30)] ) (kwd := []) (n := 3) (D := D_is_row) (zs := [v0, v1, v2]) t.l (by kernel_rfl) rfl k hot h

def L1_need_terms : Ts := sSeq (sIf (tNot (tVal (eCall 13 (aCons (eV 0) (aCons (eV 3) (aNil))) [] (aNil)))) (sSeq (sRaise "NoTerm" X_NoTerm (aNil) ["at"] (aCons (eV 2) (aNil))) (sNx)) (sNx)) (sNx)
def D_need_terms : Ts := sSeq (sFor (iEnum (eV 1)) (gTup 2 (gCons (gName 2) (gCons (gName 3) (gNil)))) (L1_need_terms)) (sNx)
def F_need_terms : FDef := ⟨["signs"], ["terms"], [], [], 4, D_need_terms⟩
structure Ok_need_terms (T : Tab) : Prop where
  l : T.lookup 15 = some F_need_terms
  is_row : Ok_is_row T
theorem call_need_terms {T : Tab} (t : Ok_need_terms T) (k : Nat) (hot : Option Nat) (v0 v1 : Val) (h : VH) : callN T (k + 1) hot 15 [v0] [("terms", v1)] h = (D_need_terms ⟨callN T k, hot⟩ [some v0, some v1, none, none] h).out := call_eqD (nm := ["signs"]) (ko := ["terms"]) (dfl := [] ) (kwd := []) (n := 4) (D := D_need_terms) (zs := [v0, v1]) t.l (by kernel_rfl) rfl k hot h

def D_need_place : Ts := sSeq (sExp (eCall 11 (aCons (eV 0) (aNil)) [] (aNil))) (sSeq (sExp (eCall 15 (aCons (eV 0) (aNil)) ["terms"] (aCons (eTup (aCons (eV 1) (aNil))) (aNil)))) (sSeq (sIf (tNot (tVal (eCall 7 (aCons (eV 2) (aCons (eC (.int 0)) (aCons (eOp opSub (eCallB bLen (aCons (eV 1) (aNil))) (eC (.int 1))) (aNil)))) [] (aNil)))) (sSeq (sRaise0 "NoPlace") (sNx)) (sNx)) (sNx)))
def F_need_place : FDef := ⟨["signs", "term", "place"], [], [], [], 3, D_need_place⟩
structure Ok_need_place (T : Tab) : Prop where
  l : T.lookup 23 = some F_need_place
  is_within : Ok_is_within T
  need_terms : Ok_need_terms T
  need_signs : Ok_need_signs T
theorem call_need_place {T : Tab} (t : Ok_need_place T) (k : Nat) (hot : Option Nat) (v0 v1 v2 : Val) (h : VH) : callN T (k + 1) hot 23 [v0, v1, v2] [] h = (D_need_place ⟨callN T k, hot⟩ [some v0, some v1, some v2] h).out := call_eqD (nm := ["signs", "term", "place"]) (ko := []) (dfl := [] ) (kwd := []) (n := 3) (D := D_need_place) (zs := [v0, v1, v2]) t.l (by kernel_rfl) rfl k hot h

def D_inner_at : Ts := sSeq (sExp (eCall 23 (aCons (eV 0) (aCons (eV 1) (aCons (eV 2) (aNil)))) [] (aNil))) (sSeq (sRet (eSl (eV 1) (pSome (eV 2)) (pSome (eCall 12 (aCons (eV 0) (aCons (eV 1) (aCons (eV 2) (aNil)))) [] (aNil))))) (sNx))
def F_inner_at : FDef := ⟨["signs", "term", "place"], [], [], [], 3, D_inner_at⟩
structure Ok_inner_at (T : Tab) : Prop where
  l : T.lookup 24 = some F_inner_at
  end_of : Ok_end_of T
  need_place : Ok_need_place T
theorem call_inner_at {T : Tab} (t : Ok_inner_at T) (k : Nat) (hot : Option Nat) (v0 v1 v2 : Val) (h : VH) : callN T (k + 1) hot 24 [v0, v1, v2] [] h = (D_inner_at ⟨callN T k, hot⟩ [some v0, some v1, some v2] h).out := call_eqD (nm := ["signs", "term", "place"]) (ko := []) (dfl := [] ) (kwd := []) (n := 3) (D := D_inner_at) (zs := [v0, v1, v2]) t.l (by kernel_rfl) rfl k hot h

def D_put : Ts := sSeq (sExp (eCall 23 (aCons (eV 0) (aCons (eV 1) (aCons (eV 2) (aNil)))) [] (aNil))) (sSeq (sIf (tNot (tVal (eCall 13 (aCons (eV 0) (aCons (eV 3) (aNil))) [] (aNil)))) (sSeq (sRaise "NoTerm" X_NoTerm (aNil) ["at"] (aCons (eC (.int 1)) (aNil))) (sNx)) (sNx)) (sSeq (sAsg (eOp opAdd (eOp opAdd (eSl (eV 1) (pNone) (pSome (eV 2))) (eV 3)) (eSl (eV 1) (pSome (eCall 12 (aCons (eV 0) (aCons (eV 1) (aCons (eV 2) (aNil)))) [] (aNil))) (pNone))) (gName 4)) (sSeq (sIf (tVal (eOp opGt (eCallB bLen (aCons (eV 4) (aNil))) (eC (.int (30))))) (sSeq (sRaise "TooMany" X_TooMany (aCons (eCallB bLen (aCons (eV 4) (aNil))) (aNil)) ["most"] (aCons (eC (.int (30))) (aNil))) (sNx)) (sNx)) (sSeq (sRet (eV 4)) (sNx)))))
def F_put : FDef := ⟨["signs", "term", "place", "other"], [], [], [], 5, D_put⟩
structure Ok_put (T : Tab) : Prop where
  l : T.lookup 25 = some F_put
  end_of : Ok_end_of T
  is_row : Ok_is_row T
  need_place : Ok_need_place T
theorem call_put {T : Tab} (t : Ok_put T) (k : Nat) (hot : Option Nat) (v0 v1 v2 v3 : Val) (h : VH) : callN T (k + 1) hot 25 [v0, v1, v2, v3] [] h = (D_put ⟨callN T k, hot⟩ [some v0, some v1, some v2, some v3, none] h).out := call_eqD (nm := ["signs", "term", "place", "other"]) (ko := []) (dfl := [] ) (kwd := []) (n := 5) (D := D_put) (zs := [v0, v1, v2, v3]) t.l (by kernel_rfl) rfl k hot h

def D_law_cell_at : Ts := sSeq (sIf (tVal (eOp opLt (eV 1) (eCallB bLen (aCons (eV 0) (aNil))))) (sSeq (sRet (eOp opIdx (eV 0) (eV 1))) (sNx)) (sNx)) (sSeq (sRet (eC (.int 0))) (sNx))
def F_law_cell_at : FDef := ⟨["_law_script", "_law_k"], [], [], [], 2, D_law_cell_at⟩
structure Ok_law_cell_at (T : Tab) : Prop where
  l : T.lookup 1000 = some F_law_cell_at
theorem call_law_cell_at {T : Tab} (t : Ok_law_cell_at T) (k : Nat) (hot : Option Nat) (v0 v1 : Val) (h : VH) : callN T (k + 1) hot 1000 [v0, v1] [] h = (D_law_cell_at ⟨callN T k, hot⟩ [some v0, some v1] h).out := call_eqD (nm := ["_law_script", "_law_k"]) (ko := []) (dfl := [] ) (kwd := []) (n := 2) (D := D_law_cell_at) (zs := [v0, v1]) t.l (by kernel_rfl) rfl k hot h

def L1_law_pot : Ts := sSeq (sAsg (eOp opMod (eOp opMul (eOp opAdd (eOp opAdd (eOp opMod (eV 0) (eC (.int 2147483629))) (eOp opMul (eC (.int 7919)) (eV 2))) (eC (.int 1))) (eC (.int 48271))) (eC (.int 2147483647))) (gName 3)) (sSeq (sAsg (eOp opMod (eOp opAdd (eOp opAdd (eOp opMul (eV 3) (eV 3)) (eOp opMul (eC (.int 69621)) (eV 2))) (eC (.int 7))) (eC (.int 2147483587))) (gName 3)) (sSeq (sAsg (eOp opAdd (eOp opMul (eV 1) (eC (.int 2147483587))) (eV 3)) (gName 1)) (sNx)))
def D_law_pot : Ts := sSeq (sIf (tVal (eOp opGe (eV 0) (eOp opPow (eC (.int 10)) (eC (.int 18))))) (sSeq (sRet (eLst (aCons (eOp opSub (eV 0) (eOp opPow (eC (.int 10)) (eC (.int 18)))) (aNil)))) (sNx)) (sNx)) (sSeq (sAsg (eC (.int 0)) (gName 1)) (sSeq (sFor (iRange (aCons (eC (.int 64)) (aNil))) (gName 2) (L1_law_pot)) (sSeq (sRet (eLst (aCons (eV 1) (aNil)))) (sNx))))
def F_law_pot : FDef := ⟨["_law_cell"], [], [], [], 4, D_law_pot⟩
structure Ok_law_pot (T : Tab) : Prop where
  l : T.lookup 1001 = some F_law_pot
theorem call_law_pot {T : Tab} (t : Ok_law_pot T) (k : Nat) (hot : Option Nat) (v0 : Val) (h : VH) : callN T (k + 1) hot 1001 [v0] [] h = (D_law_pot ⟨callN T k, hot⟩ [some v0, none, none, none] h).out := call_eqD (nm := ["_law_cell"]) (ko := []) (dfl := [] ) (kwd := []) (n := 4) (D := D_law_pot) (zs := [v0]) t.l (by kernel_rfl) rfl k hot h

def D_law_take : Ts := sSeq (sAsg (eOp opMod (eOp opIdx (eV 0) (eC (.int 0))) (eV 1)) (gName 2)) (sSeq (sAsg (eOp opDiv (eOp opIdx (eV 0) (eC (.int 0))) (eV 1)) (gIx (eV 0) (eC (.int 0)))) (sSeq (sRet (eV 2)) (sNx)))
def F_law_take : FDef := ⟨["_law_pot_here", "_law_far"], [], [], [], 3, D_law_take⟩
structure Ok_law_take (T : Tab) : Prop where
  l : T.lookup 1002 = some F_law_take
theorem call_law_take {T : Tab} (t : Ok_law_take T) (k : Nat) (hot : Option Nat) (v0 v1 : Val) (h : VH) : callN T (k + 1) hot 1002 [v0, v1] [] h = (D_law_take ⟨callN T k, hot⟩ [some v0, some v1, none] h).out := call_eqD (nm := ["_law_pot_here", "_law_far"]) (ko := []) (dfl := [] ) (kwd := []) (n := 3) (D := D_law_take) (zs := [v0, v1]) t.l (by kernel_rfl) rfl k hot h

def C1_law_name : Tm := eOp opIdx (eV 1) (eCall 1002 (aCons (eV 0) (aCons (eC (.int 26)) (aNil))) [] (aNil))
def D_law_name : Ts := sSeq (sAsg (eC (.str "abcdefghijklmnopqrstuvwxyz")) (gName 1)) (sSeq (sIf (tVal (eOp opEq (eCall 1002 (aCons (eV 0) (aCons (eC (.int 3)) (aNil))) [] (aNil)) (eC (.int 0)))) (sSeq (sRet (eOp opIdx (eLst (aCons (eC (.str "a")) (aCons (eC (.str "f")) (aCons (eC (.str "g")) (aCons (eC (.str "aa")) (aCons (eC (.str "ab")) (aCons (eC (.str "ba")) (aCons (eC (.str "ffffff")) (aCons (eC (.str "fffffg")) (aNil)))))))))) (eCall 1002 (aCons (eV 0) (aCons (eC (.int 8)) (aNil))) [] (aNil)))) (sNx)) (sNx)) (sSeq (sRet (eMeth "str" mJoin (eC (.str "")) (aCons (eLc (iRange (aCons (eOp opAdd (eC (.int 1)) (eCall 1002 (aCons (eV 0) (aCons (eC (.int 6)) (aNil))) [] (aNil))) (aNil))) [2] (gName 2) (tYes) (C1_law_name)) (aNil)))) (sNx)))
def F_law_name : FDef := ⟨["_law_pot_here"], [], [], [], 3, D_law_name⟩
structure Ok_law_name (T : Tab) : Prop where
  l : T.lookup 1003 = some F_law_name
  law_take : Ok_law_take T
theorem call_law_name {T : Tab} (t : Ok_law_name T) (k : Nat) (hot : Option Nat) (v0 : Val) (h : VH) : callN T (k + 1) hot 1003 [v0] [] h = (D_law_name ⟨callN T k, hot⟩ [some v0, none, none] h).out := call_eqD (nm := ["_law_pot_here"]) (ko := []) (dfl := [] ) (kwd := []) (n := 3) (D := D_law_name) (zs := [v0]) t.l (by kernel_rfl) rfl k hot h

def L1_law_kinds : Ts := sSeq (sAsg (eCall 1003 (aCons (eV 0) (aNil)) [] (aNil)) (gName 3)) (sSeq (sIf (tVal (eOp opNotIn (eV 3) (eLc (iVal (eV 1)) [5, 6] (gTup 2 (gCons (gName 5) (gCons (gName 6) (gNil)))) (tYes) (eV 5)))) (sSeq (sExp (eMeth "list" mAppend (eV 1) (aCons (eTup (aCons (eV 3) (aCons (eOp opIdx (eLst (aCons (eC (.int 0)) (aCons (eC (.int 1)) (aCons (eC (.int 2)) (aCons (eC (.int 3)) (aCons (eC (.int 2)) (aCons (eC (.int 0)) (aNil)))))))) (eCall 1002 (aCons (eV 0) (aCons (eC (.int 6)) (aNil))) [] (aNil))) (aNil)))) (aNil)))) (sNx)) (sNx)) (sNx))
def D_law_kinds : Ts := sSeq (sAsg (eLst (aNil)) (gName 1)) (sSeq (sFor (iRange (aCons (eOp opAdd (eC (.int 1)) (eCall 1002 (aCons (eV 0) (aCons (eOp opIdx (eLst (aCons (eC (.int 3)) (aCons (eC (.int 5)) (aCons (eC (.int 8)) (aNil))))) (eCall 1002 (aCons (eV 0) (aCons (eC (.int 3)) (aNil))) [] (aNil))) (aNil))) [] (aNil))) (aNil))) (gName 2) (L1_law_kinds)) (sSeq (sIf (tVal (eOp opNotIn (eC (.int 0)) (eLc (iVal (eV 1)) [3, 6] (gTup 2 (gCons (gName 3) (gCons (gName 6) (gNil)))) (tYes) (eV 6)))) (sSeq (sAsg (eCall 1002 (aCons (eV 0) (aCons (eCallB bLen (aCons (eV 1) (aNil))) (aNil))) [] (aNil)) (gName 4)) (sSeq (sAsg (eTup (aCons (eOp opIdx (eOp opIdx (eV 1) (eV 4)) (eC (.int 0))) (aCons (eC (.int 0)) (aNil)))) (gIx (eV 1) (eV 4))) (sNx))) (sNx)) (sSeq (sRet (eCallB bTuple (aCons (eV 1) (aNil)))) (sNx))))
def F_law_kinds : FDef := ⟨["_law_pot_here"], [], [], [], 7, D_law_kinds⟩
structure Ok_law_kinds (T : Tab) : Prop where
  l : T.lookup 1004 = some F_law_kinds
  law_take : Ok_law_take T
  law_name : Ok_law_name T
theorem call_law_kinds {T : Tab} (t : Ok_law_kinds T) (k : Nat) (hot : Option Nat) (v0 : Val) (h : VH) : callN T (k + 1) hot 1004 [v0] [] h = (D_law_kinds ⟨callN T k, hot⟩ [some v0, none, none, none, none, none, none] h).out := call_eqD (nm := ["_law_pot_here"]) (ko := []) (dfl := [] ) (kwd := []) (n := 7) (D := D_law_kinds) (zs := [v0]) t.l (by kernel_rfl) rfl k hot h

def T1_law_term : Tt := tVal (eOp opLe (eOp opIdx (eOp opIdx (eV 1) (eV 7)) (eC (.int 1))) (eV 5))
def W2_law_term : Ts := sSeq (sAsg (eOp opSub (eOp opSub (eV 2) (eCallB bLen (aCons (eV 3) (aNil)))) (eV 4)) (gName 5)) (sSeq (sAsg (eLc (iRange (aCons (eCallB bLen (aCons (eV 1) (aNil))) (aNil))) [7] (gName 7) (T1_law_term) (eV 7)) (gName 6)) (sSeq (sAsg (eOp opIdx (eV 6) (eCall 1002 (aCons (eV 0) (aCons (eCallB bLen (aCons (eV 6) (aNil))) (aNil))) [] (aNil))) (gName 7)) (sSeq (sExp (eMeth "list" mAppend (eV 3) (aCons (eV 7) (aNil)))) (sSeq (sAsg (eOp opAdd (eOp opSub (eV 4) (eC (.int 1))) (eOp opIdx (eOp opIdx (eV 1) (eV 7)) (eC (.int 1)))) (gName 4)) (sNx)))))
def D_law_term : Ts := sSeq (sPar2 3 4 (aCons (eLst (aNil)) (aCons (eC (.int 1)) (aNil)))) (sSeq (sWhile (tVal (eOp opGt (eV 4) (eC (.int 0)))) (W2_law_term)) (sSeq (sRet (eCallB bTuple (aCons (eV 3) (aNil)))) (sNx)))
def F_law_term : FDef := ⟨["_law_pot_here", "_law_kinds_here", "_law_top"], [], [], [], 8, D_law_term⟩
structure Ok_law_term (T : Tab) : Prop where
  l : T.lookup 1005 = some F_law_term
  law_take : Ok_law_take T
theorem call_law_term {T : Tab} (t : Ok_law_term T) (k : Nat) (hot : Option Nat) (v0 v1 v2 : Val) (h : VH) : callN T (k + 1) hot 1005 [v0, v1, v2] [] h = (D_law_term ⟨callN T k, hot⟩ [some v0, some v1, some v2, none, none, none, none, none] h).out := call_eqD (nm := ["_law_pot_here", "_law_kinds_here", "_law_top"]) (ko := []) (dfl := [] ) (kwd := []) (n := 8) (D := D_law_term) (zs := [v0, v1, v2]) t.l (by kernel_rfl) rfl k hot h

def W1_law_end : Ts := sSeq (sAsg (eOp opAdd (eOp opSub (eV 3) (eC (.int 1))) (eOp opIdx (eOp opIdx (eV 0) (eOp opIdx (eV 1) (eV 4))) (eC (.int 1)))) (gName 3)) (sSeq (sAsg (eOp opAdd (eV 4) (eC (.int 1))) (gName 4)) (sNx))
def D_law_end : Ts := sSeq (sPar2 3 4 (aCons (eC (.int 1)) (aCons (eV 2) (aNil)))) (sSeq (sWhile (tVal (eOp opGt (eV 3) (eC (.int 0)))) (W1_law_end)) (sSeq (sRet (eV 4)) (sNx)))
def F_law_end : FDef := ⟨["_law_kinds_here", "_law_row", "_law_start"], [], [], [], 5, D_law_end⟩
structure Ok_law_end (T : Tab) : Prop where
  l : T.lookup 1006 = some F_law_end
theorem call_law_end {T : Tab} (t : Ok_law_end T) (k : Nat) (hot : Option Nat) (v0 v1 v2 : Val) (h : VH) : callN T (k + 1) hot 1006 [v0, v1, v2] [] h = (D_law_end ⟨callN T k, hot⟩ [some v0, some v1, some v2, none, none] h).out := call_eqD (nm := ["_law_kinds_here", "_law_row", "_law_start"]) (ko := []) (dfl := [] ) (kwd := []) (n := 5) (D := D_law_end) (zs := [v0, v1, v2]) t.l (by kernel_rfl) rfl k hot h

def D_law_word : Ts := sSeq (sAsg (eLst (aCons (eIsx XN "NoSigns" (eV 0)) (aCons (eIsx XN "NoPlace" (eV 0)) (aCons (eIsx XN "NoGivens" (eV 0)) (aCons (eIsx XN "NoUnlikes" (eV 0)) (aNil)))))) (gName 1)) (sSeq (sAsg (eOp opAdd (eV 1) (eLst (aCons (eIsx XN "NoLines" (eV 0)) (aCons (eIsx XN "NoModel" (eV 0)) (aCons (eIsx XN "NoPattern" (eV 0)) (aCons (eIsx XN "NoRules" (eV 0)) (aNil))))))) (gName 1)) (sSeq (sAsg (eOp opAdd (eV 1) (eLst (aCons (eIsx XN "NoRounds" (eV 0)) (aCons (eIsx XN "NoCosts" (eV 0)) (aCons (eIsx XN "NoLine" (eV 0)) (aCons (eIsx XN "NoTerm" (eV 0)) (aNil))))))) (gName 1)) (sSeq (sAsg (eOp opAdd (eV 1) (eLst (aCons (eIsx XN "TooMany" (eV 0)) (aCons (eIsx XN "NoText" (eV 0)) (aCons (eIsx XN "NoLevel" (eV 0)) (aCons (eIsx XN "NotKnown" (eV 0)) (aNil))))))) (gName 1)) (sSeq (sAsg (eOp opAdd (eV 1) (eLst (aCons (eIsx XN "NotAlike" (eV 0)) (aNil)))) (gName 1)) (sSeq (sIf (tVal (eOp opNe (eMeth "list" mCount (eV 1) (aCons (eC (.bl true)) (aNil))) (eC (.int 1)))) (sSeq (sRet (eTup (aCons (eC (.str "other")) (aNil)))) (sNx)) (sNx)) (sSeq (sAsg (eMeth "list" mIndex (eV 1) (aCons (eC (.bl true)) (aNil))) (gName 2)) (sSeq (sIf (tVal (eOp opNe (eLst (aCons (eIsx XN "NestError" (eV 0)) (aCons (eIsx XN "ValueError" (eV 0)) (aNil)))) (eOp opMul (eLst (aCons (eOp opLt (eV 2) (eC (.int 14))) (aNil))) (eC (.int 2))))) (sSeq (sRet (eTup (aCons (eC (.str "other")) (aNil)))) (sNx)) (sNx)) (sSeq (sIf (tVal (eOp opNe (eLst (aCons (eIsx XN "AbsentError" (eV 0)) (aCons (eIsx XN "LookupError" (eV 0)) (aNil)))) (eOp opMul (eLst (aCons (eOp opGt (eV 2) (eC (.int 13))) (aNil))) (eC (.int 2))))) (sSeq (sRet (eTup (aCons (eC (.str "other")) (aNil)))) (sNx)) (sNx)) (sSeq (sIf (tVal (eOp opEq (eV 2) (eC (.int 12)))) (sSeq (sRet (eTup (aCons (eC (.str "many")) (aCons (eXf XN "many" (eV 0)) (aCons (eXf XN "most" (eV 0)) (aNil)))))) (sNx)) (sNx)) (sSeq (sIf (tVal (eOp opEq (eV 2) (eC (.int 13)))) (sSeq (sRet (eTup (aCons (eC (.str "text")) (aCons (eXf XN "row" (eV 0)) (aNil))))) (sNx)) (sNx)) (sSeq (sIf (tVal (eOp opEq (eV 2) (eC (.int 14)))) (sSeq (sRet (eTup (aCons (eC (.str "level")) (aCons (eXf XN "left" (eV 0)) (aNil))))) (sNx)) (sNx)) (sSeq (sIf (tVal (eOp opGt (eV 2) (eC (.int 14)))) (sSeq (sRet (eIf (tVal (eOp opEq (eV 2) (eC (.int 15)))) (eTup (aCons (eC (.str "known")) (aCons (eXf XN "term" (eV 0)) (aNil)))) (eTup (aCons (eC (.str "alike")) (aCons (eXf XN "one" (eV 0)) (aCons (eXf XN "other" (eV 0)) (aNil))))))) (sNx)) (sNx)) (sSeq (sAsg (eLst (aCons (eC (.str "signs")) (aCons (eC (.str "place")) (aCons (eC (.str "givens")) (aCons (eC (.str "unlikes")) (aCons (eC (.str "lines")) (aCons (eC (.str "model")) (aCons (eC (.str "pattern")) (aCons (eC (.str "rules")) (aCons (eC (.str "rounds")) (aCons (eC (.str "costs")) (aCons (eC (.str "line")) (aNil))))))))))))) (gName 3)) (sSeq (sRet (eIf (tVal (eOp opEq (eV 2) (eC (.int 11)))) (eTup (aCons (eC (.str "term")) (aCons (eXf XN "at" (eV 0)) (aNil)))) (eTup (aCons (eOp opIdx (eV 3) (eV 2)) (aNil))))) (sNx)))))))))))))))
def F_law_word : FDef := ⟨["_law_e"], [], [], [], 4, D_law_word⟩
structure Ok_law_word (T : Tab) : Prop where
  l : T.lookup 1007 = some F_law_word
theorem call_law_word {T : Tab} (t : Ok_law_word T) (k : Nat) (hot : Option Nat) (v0 : Val) (h : VH) : callN T (k + 1) hot 1007 [v0] [] h = (D_law_word ⟨callN T k, hot⟩ [some v0, none, none, none] h).out := call_eqD (nm := ["_law_e"]) (ko := []) (dfl := [] ) (kwd := []) (n := 4) (D := D_law_word) (zs := [v0]) t.l (by kernel_rfl) rfl k hot h

def Y1_law_put : Ts := sSeq (sRet (eCall 25 (aNil) ["signs", "term", "place", "other"] (aCons (eV 0) (aCons (eV 1) (aCons (eV 2) (aCons (eV 3) (aNil))))))) (sNx)
def H2_law_put : Ts := sSeq (sRet (eCall 1007 (aCons (eV 4) (aNil)) [] (aNil))) (sNx)
def D_law_put : Ts := sSeq (sTry XN (Y1_law_put) [⟨["NestError", "AbsentError"], some 4, H2_law_put⟩]) (sNx)
def F_law_put : FDef := ⟨["_law_kinds_here", "_law_term_here", "_law_place_here", "_law_other_here"], [], [], [], 5, D_law_put⟩
structure Ok_law_put (T : Tab) : Prop where
  l : T.lookup 1008 = some F_law_put
  put : Ok_put T
  law_word : Ok_law_word T
theorem call_law_put {T : Tab} (t : Ok_law_put T) (k : Nat) (hot : Option Nat) (v0 v1 v2 v3 : Val) (h : VH) : callN T (k + 1) hot 1008 [v0, v1, v2, v3] [] h = (D_law_put ⟨callN T k, hot⟩ [some v0, some v1, some v2, some v3, none] h).out := call_eqD (nm := ["_law_kinds_here", "_law_term_here", "_law_place_here", "_law_other_here"]) (ko := []) (dfl := [] ) (kwd := []) (n := 5) (D := D_law_put) (zs := [v0, v1, v2, v3]) t.l (by kernel_rfl) rfl k hot h

def L1_law_k04 : Ts := sSeq (sIf (tVal (eRepr2 true (eCall 24 (aCons (eV 3) (aCons (eV 4) (aCons (eV 7) (aNil)))) [] (aNil)) (eSl (eV 4) (pSome (eV 7)) (pSome (eV 8))))) (sSeq (sRet (eC (.bl false))) (sNx)) (sNx)) (sSeq (sIf (tVal (eRepr2 true (eCall 1008 (aCons (eV 3) (aCons (eV 4) (aCons (eV 7) (aCons (eV 6) (aNil))))) [] (aNil)) (eV 9))) (sSeq (sRet (eC (.bl false))) (sNx)) (sNx)) (sNx))
def L2_law_k04 : Ts := sSeq (sAsg (eCall 1006 (aCons (eV 3) (aCons (eV 4) (aCons (eV 7) (aNil)))) [] (aNil)) (gName 8)) (sSeq (sAsg (eOp opAdd (eOp opAdd (eSl (eV 4) (pNone) (pSome (eV 7))) (eV 6)) (eSl (eV 4) (pSome (eV 8)) (pNone))) (gName 9)) (sSeq (sIf (tVal (eOp opGt (eCallB bLen (aCons (eV 9) (aNil))) (eC (.int 30)))) (sSeq (sAsg (eTup (aCons (eC (.str "many")) (aCons (eCallB bLen (aCons (eV 9) (aNil))) (aCons (eC (.int 30)) (aNil))))) (gName 9)) (sNx)) (sNx)) (sSeq (sFor (iRange (aCons (eC (.int 2)) (aNil))) (gName 10) (L1_law_k04)) (sNx))))
def L3_law_k04 : Ts := sSeq (sAsg (eCall 1005 (aCons (eV 2) (aCons (eV 3) (aCons (eOp opAdd (eC (.int 1)) (eCall 1002 (aCons (eV 2) (aCons (eOp opIdx (eLst (aCons (eC (.int 1)) (aCons (eC (.int 4)) (aCons (eC (.int 30)) (aNil))))) (eCall 1002 (aCons (eV 2) (aCons (eC (.int 3)) (aNil))) [] (aNil))) (aNil))) [] (aNil))) (aNil)))) [] (aNil)) (gName 6)) (sSeq (sFor (iRange (aCons (eCallB bLen (aCons (eV 4) (aNil))) (aNil))) (gName 7) (L2_law_k04)) (sNx))
def L4_law_k04 : Ts := sSeq (sAsg (eCall 1001 (aCons (eCall 1000 (aCons (eV 0) (aCons (eV 1) (aNil))) [] (aNil)) (aNil)) [] (aNil)) (gName 2)) (sSeq (sAsg (eCall 1004 (aCons (eV 2) (aNil)) [] (aNil)) (gName 3)) (sSeq (sAsg (eCall 1005 (aCons (eV 2) (aCons (eV 3) (aCons (eOp opAdd (eC (.int 1)) (eCall 1002 (aCons (eV 2) (aCons (eC (.int 30)) (aNil))) [] (aNil))) (aNil)))) [] (aNil)) (gName 4)) (sSeq (sFor (iRange (aCons (eC (.int 3)) (aNil))) (gName 5) (L3_law_k04)) (sNx))))
def D_law_k04 : Ts := sSeq (sFor (iRange (aCons (eCallC bMax (aCons (eC (.int 1)) (aCons (eCallC bMin (aCons (eCallB bLen (aCons (eV 0) (aNil))) (aCons (eC (.int 8)) (aNil)))) (aNil)))) (aNil))) (gName 1) (L4_law_k04)) (sSeq (sRet (eC (.bl true))) (sNx))
def F_law_k04 : FDef := ⟨["_law_script"], [], [], [], 11, D_law_k04⟩
structure Ok_law_k04 (T : Tab) : Prop where
  l : T.lookup 1009 = some F_law_k04
  law_put : Ok_law_put T
  inner_at : Ok_inner_at T
  law_end : Ok_law_end T
  law_take : Ok_law_take T
  law_term : Ok_law_term T
  law_kinds : Ok_law_kinds T
  law_cell_at : Ok_law_cell_at T
  law_pot : Ok_law_pot T
theorem call_law_k04 {T : Tab} (t : Ok_law_k04 T) (k : Nat) (hot : Option Nat) (v0 : Val) (h : VH) : callN T (k + 1) hot 1009 [v0] [] h = (D_law_k04 ⟨callN T k, hot⟩ [some v0, none, none, none, none, none, none, none, none, none, none] h).out := call_eqD (nm := ["_law_script"]) (ko := []) (dfl := [] ) (kwd := []) (n := 11) (D := D_law_k04) (zs := [v0]) t.l (by kernel_rfl) rfl k hot h

end Pv
end
/-! GK05 -/
section
set_option Elab.async false
set_option linter.all false
set_option maxRecDepth 1000000
set_option maxHeartbeats 0
set_option autoImplicit false
/-! the pure meaning of the defs that likenest_k05_errors_of_two_families reaches first (printed by gen2.py). -/
namespace Pv
open PySem PySem.Spec PyProof.Rows L2
def D_law_plain_ones : Ts := sSeq (sAsg (eLst (aCons (eExc0 "NoSigns") (aCons (eExc0 "NoPlace") (aCons (eExc0 "NoGivens") (aCons (eExc0 "NoUnlikes") (aCons (eExc0 "NoLines") (aCons (eExc0 "NoModel") (aCons (eExc0 "NoPattern") (aCons (eExc0 "NoRules") (aCons (eExc0 "NoRounds") (aNil))))))))))) (gName 0)) (sSeq (sRet (eOp opAdd (eV 0) (eLst (aCons (eExc0 "NoCosts") (aCons (eExc0 "NoLine") (aNil)))))) (sNx))
def F_law_plain_ones : FDef := ⟨[], [], [], [], 1, D_law_plain_ones⟩
structure Ok_law_plain_ones (T : Tab) : Prop where
  l : T.lookup 1010 = some F_law_plain_ones
theorem call_law_plain_ones {T : Tab} (t : Ok_law_plain_ones T) (k : Nat) (hot : Option Nat) (h : VH) : callN T (k + 1) hot 1010 [] [] h = (D_law_plain_ones ⟨callN T k, hot⟩ [none] h).out := call_eqD (nm := []) (ko := []) (dfl := [] ) (kwd := []) (n := 1) (D := D_law_plain_ones) (zs := []) t.l (by kernel_rfl) rfl k hot h

def L1_law_k05 : Ts := sSeq (sAsg (eCall 1001 (aCons (eCall 1000 (aCons (eV 0) (aCons (eV 2) (aNil))) [] (aNil)) (aNil)) [] (aNil)) (gName 3)) (sSeq (sPar3 4 5 6 (aCons (eCall 1002 (aCons (eV 3) (aCons (eC (.int 99)) (aNil))) [] (aNil)) (aCons (eCall 1002 (aCons (eV 3) (aCons (eOp opPow (eC (.int 10)) (eC (.int 20))) (aNil))) [] (aNil)) (aCons (eTup (aCons (eCall 1002 (aCons (eV 3) (aCons (eC (.int 8)) (aNil))) [] (aNil)) (aNil))) (aNil))))) (sSeq (sIf (tVal (eOp opNe (eLc (iVal (eCall 1010 (aNil) [] (aNil))) [9] (gName 9) (tYes) (eCall 1007 (aCons (eV 9) (aNil)) [] (aNil))) (eLc (iVal (eV 1)) [10] (gName 10) (tYes) (eTup (aCons (eV 10) (aNil)))))) (sSeq (sRet (eC (.bl false))) (sNx)) (sNx)) (sSeq (sAsg (eLst (aCons (eExc "NoTerm" X_NoTerm (aNil) [] (aNil)) (aCons (eExc "NoTerm" X_NoTerm (aCons (eV 4) (aNil)) [] (aNil)) (aCons (eExc "NoTerm" X_NoTerm (aNil) ["at"] (aCons (eV 5) (aNil))) (aCons (eExc "TooMany" X_TooMany (aCons (eV 4) (aCons (eV 5) (aNil))) [] (aNil)) (aCons (eExc "TooMany" X_TooMany (aNil) ["most", "many"] (aCons (eV 4) (aCons (eV 5) (aNil)))) (aNil))))))) (gName 7)) (sSeq (sAsg (eOp opAdd (eV 7) (eLst (aCons (eExc "NoText" X_NoText (aNil) [] (aNil)) (aCons (eExc "NoText" X_NoText (aCons (eV 4) (aNil)) [] (aNil)) (aCons (eExc "NoText" X_NoText (aNil) ["row"] (aCons (eV 5) (aNil))) (aCons (eExc "NoLevel" X_NoLevel (aNil) [] (aNil)) (aCons (eExc "NoLevel" X_NoLevel (aCons (eV 4) (aNil)) [] (aNil)) (aCons (eExc "NoLevel" X_NoLevel (aNil) ["left"] (aCons (eV 5) (aNil))) (aNil))))))))) (gName 7)) (sSeq (sAsg (eOp opAdd (eV 7) (eLst (aCons (eExc "NotKnown" X_NotKnown (aCons (eV 6) (aNil)) [] (aNil)) (aCons (eExc "NotKnown" X_NotKnown (aNil) ["term"] (aCons (eTup (aCons (eV 4) (aNil))) (aNil))) (aCons (eExc "NotAlike" X_NotAlike (aCons (eV 6) (aCons (eTup (aCons (eV 5) (aNil))) (aNil))) [] (aNil)) (aNil)))))) (gName 7)) (sSeq (sExp (eMeth "list" mAppend (eV 7) (aCons (eExc "NotAlike" X_NotAlike (aNil) ["other", "one"] (aCons (eV 6) (aCons (eTup (aCons (eV 4) (aNil))) (aNil)))) (aNil)))) (sSeq (sAsg (eLst (aCons (eTup (aCons (eC (.str "term")) (aCons (eC (.int 0)) (aNil)))) (aCons (eTup (aCons (eC (.str "term")) (aCons (eV 4) (aNil)))) (aCons (eTup (aCons (eC (.str "term")) (aCons (eV 5) (aNil)))) (aCons (eTup (aCons (eC (.str "many")) (aCons (eV 4) (aCons (eV 5) (aNil))))) (aCons (eTup (aCons (eC (.str "many")) (aCons (eV 5) (aCons (eV 4) (aNil))))) (aNil))))))) (gName 8)) (sSeq (sAsg (eOp opAdd (eV 8) (eLst (aCons (eTup (aCons (eC (.str "text")) (aCons (eC (.int 0)) (aNil)))) (aCons (eTup (aCons (eC (.str "text")) (aCons (eV 4) (aNil)))) (aCons (eTup (aCons (eC (.str "text")) (aCons (eV 5) (aNil)))) (aCons (eTup (aCons (eC (.str "level")) (aCons (eC (.int 0)) (aNil)))) (aCons (eTup (aCons (eC (.str "level")) (aCons (eV 4) (aNil)))) (aCons (eTup (aCons (eC (.str "level")) (aCons (eV 5) (aNil)))) (aNil))))))))) (gName 8)) (sSeq (sAsg (eOp opAdd (eV 8) (eLst (aCons (eTup (aCons (eC (.str "known")) (aCons (eV 6) (aNil)))) (aCons (eTup (aCons (eC (.str "known")) (aCons (eTup (aCons (eV 4) (aNil))) (aNil)))) (aCons (eTup (aCons (eC (.str "alike")) (aCons (eV 6) (aCons (eTup (aCons (eV 5) (aNil))) (aNil))))) (aCons (eTup (aCons (eC (.str "alike")) (aCons (eTup (aCons (eV 4) (aNil))) (aCons (eV 6) (aNil))))) (aNil))))))) (gName 8)) (sSeq (sIf (tVal (eOp opNe (eLc (iVal (eV 7)) [9] (gName 9) (tYes) (eCall 1007 (aCons (eV 9) (aNil)) [] (aNil))) (eV 8))) (sSeq (sRet (eC (.bl false))) (sNx)) (sNx)) (sNx)))))))))))
def D_law_k05 : Ts := sSeq (sAsg (eMeth "str" mSplit (eC (.str "signs place givens unlikes lines model pattern rules rounds costs line")) (aCons (eC (.str " ")) (aNil))) (gName 1)) (sSeq (sFor (iRange (aCons (eCallC bMax (aCons (eC (.int 1)) (aCons (eCallC bMin (aCons (eCallB bLen (aCons (eV 0) (aNil))) (aCons (eC (.int 3)) (aNil)))) (aNil)))) (aNil))) (gName 2) (L1_law_k05)) (sSeq (sRet (eC (.bl true))) (sNx)))
def F_law_k05 : FDef := ⟨["_law_script"], [], [], [], 11, D_law_k05⟩
structure Ok_law_k05 (T : Tab) : Prop where
  l : T.lookup 1011 = some F_law_k05
  law_word : Ok_law_word T
  law_plain_ones : Ok_law_plain_ones T
  law_take : Ok_law_take T
  law_cell_at : Ok_law_cell_at T
  law_pot : Ok_law_pot T
theorem call_law_k05 {T : Tab} (t : Ok_law_k05 T) (k : Nat) (hot : Option Nat) (v0 : Val) (h : VH) : callN T (k + 1) hot 1011 [v0] [] h = (D_law_k05 ⟨callN T k, hot⟩ [some v0, none, none, none, none, none, none, none, none, none, none] h).out := call_eqD (nm := ["_law_script"]) (ko := []) (dfl := [] ) (kwd := []) (n := 11) (D := D_law_k05) (zs := [v0]) t.l (by kernel_rfl) rfl k hot h

end Pv
end
/-! TxtK05 -/
section
set_option Elab.async false
set_option linter.all false
set_option maxRecDepth 1000000
set_option maxHeartbeats 0
set_option autoImplicit false
/-! the text of likenest_k05_errors_of_two_families: that its pure meaning is one (printed by gen2.py). -/
namespace K05
open PySem PySem.Spec PyProof.Rows L2 Pv
def top (i : Nat) : Stmt := PySem.Challenge.pw_likenest_k05_errors_of_two_families.main.body.getD i (.Pass ⟨0, 0, 0, 0⟩)
def cBody (s : Stmt) : List Stmt := match s with
  | .ClassDef (body := b) .. => b
  | _ => []
def T : Tab := [(1000, F_law_cell_at), (1001, F_law_pot), (1002, F_law_take), (1007, F_law_word), (1010, F_law_plain_ones), (1011, F_law_k05)]
theorem ok_law_cell_at : Ok_law_cell_at T := ⟨rfl⟩
theorem ok_law_pot : Ok_law_pot T := ⟨rfl⟩
theorem ok_law_take : Ok_law_take T := ⟨rfl⟩
theorem ok_law_word : Ok_law_word T := ⟨rfl⟩
theorem ok_law_plain_ones : Ok_law_plain_ones T := ⟨rfl⟩
theorem ok_law_k05 : Ok_law_k05 T := ⟨rfl, ok_law_word, ok_law_plain_ones, ok_law_take, ok_law_cell_at, ok_law_pot⟩
abbrev s0 : Stmt := top 21
def d0 : He.DefD := ⟨("_law_cell_at", none), "_law_cell_at", "_law_cell_at", defArgs s0, defBody s0, defScope s0, [], []⟩
abbrev s1 : Stmt := top 22
def d1 : He.DefD := ⟨("_law_pot", none), "_law_pot", "_law_pot", defArgs s1, defBody s1, defScope s1, [], []⟩
abbrev s2 : Stmt := top 23
def d2 : He.DefD := ⟨("_law_take", none), "_law_take", "_law_take", defArgs s2, defBody s2, defScope s2, [], []⟩
abbrev s3 : Stmt := top 24
def d3 : He.DefD := ⟨("_law_word", none), "_law_word", "_law_word", defArgs s3, defBody s3, defScope s3, [], []⟩
abbrev s4 : Stmt := top 25
def d4 : He.DefD := ⟨("_law_plain_ones", none), "_law_plain_ones", "_law_plain_ones", defArgs s4, defBody s4, defScope s4, [], []⟩
abbrev s5 : Stmt := top 26
def d5 : He.DefD := ⟨("law", none), "law", "law", defArgs s5, defBody s5, defScope s5, [], []⟩
abbrev i0 : Stmt := (cBody (top 14)).getD 0 (.Pass ⟨0, 0, 0, 0⟩)
def e0 : He.DefD := ⟨("NoTerm", some "__init__"), "__init__", "NoTerm.__init__", defArgs i0, defBody i0, defScope i0, [.int 0], []⟩
abbrev i1 : Stmt := (cBody (top 15)).getD 0 (.Pass ⟨0, 0, 0, 0⟩)
def e1 : He.DefD := ⟨("TooMany", some "__init__"), "__init__", "TooMany.__init__", defArgs i1, defBody i1, defScope i1, [], []⟩
abbrev i2 : Stmt := (cBody (top 16)).getD 0 (.Pass ⟨0, 0, 0, 0⟩)
def e2 : He.DefD := ⟨("NoText", some "__init__"), "__init__", "NoText.__init__", defArgs i2, defBody i2, defScope i2, [.int 0], []⟩
abbrev i3 : Stmt := (cBody (top 17)).getD 0 (.Pass ⟨0, 0, 0, 0⟩)
def e3 : He.DefD := ⟨("NoLevel", some "__init__"), "__init__", "NoLevel.__init__", defArgs i3, defBody i3, defScope i3, [.int 0], []⟩
abbrev i4 : Stmt := (cBody (top 18)).getD 0 (.Pass ⟨0, 0, 0, 0⟩)
def e4 : He.DefD := ⟨("NotKnown", some "__init__"), "__init__", "NotKnown.__init__", defArgs i4, defBody i4, defScope i4, [], []⟩
abbrev i5 : Stmt := (cBody (top 19)).getD 0 (.Pass ⟨0, 0, 0, 0⟩)
def e5 : He.DefD := ⟨("NotAlike", some "__init__"), "__init__", "NotAlike.__init__", defArgs i5, defBody i5, defScope i5, [], []⟩
def fn : List He.DefD := [d0, d1, d2, d3, d4, d5, e0, e1, e2, e3, e4, e5]
def LD : LawD where
  key := [(1000, ("_law_cell_at", none)), (1001, ("_law_pot", none)), (1002, ("_law_take", none)), (1007, ("_law_word", none)), (1010, ("_law_plain_ones", none)), (1011, ("law", none))]
  fs := [("_law_cell_at", 1000), ("_law_pot", 1001), ("_law_take", 1002), ("_law_word", 1007), ("_law_plain_ones", 1010), ("law", 1011)]
  cs := []
  gs := []
  xn := XN
  x0 := ["NestError", "AbsentError", "NoSigns", "NoPlace", "NoGivens", "NoUnlikes", "NoLines", "NoModel", "NoPattern", "NoRules", "NoRounds", "NoCosts", "NoLine"]
  xI := [("NoTerm", X_NoTerm), ("TooMany", X_TooMany), ("NoText", X_NoText), ("NoLevel", X_NoLevel), ("NotKnown", X_NotKnown), ("NotAlike", X_NotAlike)]
theorem glo_x {Y : Sys} (f : Facts LD Y) (x : Str) (h : x ∈ XN) : Y.mg x = some (.ref (He.ga Y.K x)) := by
  have key : ∀ x ∈ XN, x ∈ LD.x0 ∨ x ∈ LD.gs ∨ x ∈ LD.xI.map (·.1) := by decide +kernel
  rcases key x h with h | h | h
  · exact (f.x0 x h).glo
  · exact f.kn.glo x h
  · obtain ⟨p, hp, rfl⟩ := List.mem_map.mp h
    exact (f.xI p hp).2.2.2.2.2
theorem xI_NoTerm {Y : Sys} (cc : SaysP LD fn Y.K) (f : Facts LD Y) : ExcI Y "NoTerm" X_NoTerm := by
  obtain ⟨_, h1, h2, h3, h4, h5⟩ := f.xI ("NoTerm", X_NoTerm) (List.mem_of_getElem? (i := 0) rfl)
  obtain ⟨fd, F⟩ := cc.def_ 6 (d := e0) rfl
  exact ⟨h5, h1, h2, _, fd, _, _, _, _, _, _, h3, h4, F, rfl, rfl, rfl, rfl, rfl, .cons (.int _) (.nil), fun k => ini1 F ⟨rfl, rfl, rfl, by decide +kernel, rfl, by decide +kernel, by decide +kernel⟩ (by kernel_rfl) (by kernel_rfl)⟩
theorem xI_TooMany {Y : Sys} (cc : SaysP LD fn Y.K) (f : Facts LD Y) : ExcI Y "TooMany" X_TooMany := by
  obtain ⟨_, h1, h2, h3, h4, h5⟩ := f.xI ("TooMany", X_TooMany) (List.mem_of_getElem? (i := 1) rfl)
  obtain ⟨fd, F⟩ := cc.def_ 7 (d := e1) rfl
  exact ⟨h5, h1, h2, _, fd, _, _, _, _, _, _, h3, h4, F, rfl, rfl, rfl, rfl, rfl, .nil, fun k => ini2 F ⟨rfl, rfl, rfl, by decide +kernel, rfl, by decide +kernel, by decide +kernel⟩ (by kernel_rfl) (by kernel_rfl) (by kernel_rfl)⟩
theorem xI_NoText {Y : Sys} (cc : SaysP LD fn Y.K) (f : Facts LD Y) : ExcI Y "NoText" X_NoText := by
  obtain ⟨_, h1, h2, h3, h4, h5⟩ := f.xI ("NoText", X_NoText) (List.mem_of_getElem? (i := 2) rfl)
  obtain ⟨fd, F⟩ := cc.def_ 8 (d := e2) rfl
  exact ⟨h5, h1, h2, _, fd, _, _, _, _, _, _, h3, h4, F, rfl, rfl, rfl, rfl, rfl, .cons (.int _) (.nil), fun k => ini1 F ⟨rfl, rfl, rfl, by decide +kernel, rfl, by decide +kernel, by decide +kernel⟩ (by kernel_rfl) (by kernel_rfl)⟩
theorem xI_NoLevel {Y : Sys} (cc : SaysP LD fn Y.K) (f : Facts LD Y) : ExcI Y "NoLevel" X_NoLevel := by
  obtain ⟨_, h1, h2, h3, h4, h5⟩ := f.xI ("NoLevel", X_NoLevel) (List.mem_of_getElem? (i := 3) rfl)
  obtain ⟨fd, F⟩ := cc.def_ 9 (d := e3) rfl
  exact ⟨h5, h1, h2, _, fd, _, _, _, _, _, _, h3, h4, F, rfl, rfl, rfl, rfl, rfl, .cons (.int _) (.nil), fun k => ini1 F ⟨rfl, rfl, rfl, by decide +kernel, rfl, by decide +kernel, by decide +kernel⟩ (by kernel_rfl) (by kernel_rfl)⟩
theorem xI_NotKnown {Y : Sys} (cc : SaysP LD fn Y.K) (f : Facts LD Y) : ExcI Y "NotKnown" X_NotKnown := by
  obtain ⟨_, h1, h2, h3, h4, h5⟩ := f.xI ("NotKnown", X_NotKnown) (List.mem_of_getElem? (i := 4) rfl)
  obtain ⟨fd, F⟩ := cc.def_ 10 (d := e4) rfl
  exact ⟨h5, h1, h2, _, fd, _, _, _, _, _, _, h3, h4, F, rfl, rfl, rfl, rfl, rfl, .nil, fun k => ini1 F ⟨rfl, rfl, rfl, by decide +kernel, rfl, by decide +kernel, by decide +kernel⟩ (by kernel_rfl) (by kernel_rfl)⟩
theorem xI_NotAlike {Y : Sys} (cc : SaysP LD fn Y.K) (f : Facts LD Y) : ExcI Y "NotAlike" X_NotAlike := by
  obtain ⟨_, h1, h2, h3, h4, h5⟩ := f.xI ("NotAlike", X_NotAlike) (List.mem_of_getElem? (i := 5) rfl)
  obtain ⟨fd, F⟩ := cc.def_ 11 (d := e5) rfl
  exact ⟨h5, h1, h2, _, fd, _, _, _, _, _, _, h3, h4, F, rfl, rfl, rfl, rfl, rfl, .nil, fun k => ini2 F ⟨rfl, rfl, rfl, by decide +kernel, rfl, by decide +kernel, by decide +kernel⟩ (by kernel_rfl) (by kernel_rfl) (by kernel_rfl)⟩
theorem sim_law_cell_at {Y : Sys} (w : Wd Y.G) (cc : SaysP LD fn Y.K) (f : Facts LD Y) : SimB Y.G ⟨["_law_script", "_law_k"], defScope s0, defScope s0⟩ (defBody s0) D_law_cell_at :=
  simB_cons (simS_if (tLt w (simE_v (i := 1) rfl (by kernel_rfl)) (bLenG w (by kernel_rfl) (simA_cons (simE_v (i := 0) rfl (by kernel_rfl)) rfl (simA_nil)) rfl) (by with_unfolding_all rfl)) (simB_cons (simS_ret (gIdx w (simE_v (i := 0) rfl (by kernel_rfl)) (simE_v (i := 1) rfl (by kernel_rfl)) rfl)) (simB_nil)) (simB_nil)) (simB_cons (simS_ret (simE_C_int)) (simB_nil))
theorem sim_law_pot {Y : Sys} (w : Wd Y.G) (cc : SaysP LD fn Y.K) (f : Facts LD Y) : SimB Y.G ⟨["_law_cell", "_law_number", "_law_j", "_law_more"], defScope s1, defScope s1⟩ (defBody s1) D_law_pot :=
  simB_cons (simS_if (tGe w (simE_v (i := 0) rfl (by kernel_rfl)) (gPow w (simE_C_int) (simE_C_int)) (by with_unfolding_all rfl)) (simB_cons (simS_ret (simE_lst (simA_cons (gSub w (simE_v (i := 0) rfl (by kernel_rfl)) (gPow w (simE_C_int) (simE_C_int))) rfl (simA_nil)) (by decide))) (simB_nil)) (simB_nil)) (simB_cons (simS_asg (simE_C_int) (simG_name (i := 1) rfl (by kernel_rfl)) rfl (fun _ _ => rfl) (fun _ _ => rfl)) (simB_cons (simS_for w (simI_range w (simA_cons (simE_C_int) rfl (simA_nil)) (by decide) rfl (bltB_ok (by kernel_rfl))) (simG_name (i := 2) rfl (by kernel_rfl)) (simB_cons (simS_asg (gMod w (gMul w (gAdd w (gAdd w (gMod w (simE_v (i := 0) rfl (by kernel_rfl)) (simE_C_int)) (gMul w (simE_C_int) (simE_v (i := 2) rfl (by kernel_rfl)))) (simE_C_int)) (simE_C_int)) (simE_C_int)) (simG_name (i := 3) rfl (by kernel_rfl)) rfl (fun _ _ => rfl) (fun _ _ => rfl)) (simB_cons (simS_asg (gMod w (gAdd w (gAdd w (gMul w (simE_v (i := 3) rfl (by kernel_rfl)) (simE_v (i := 3) rfl (by kernel_rfl))) (gMul w (simE_C_int) (simE_v (i := 2) rfl (by kernel_rfl)))) (simE_C_int)) (simE_C_int)) (simG_name (i := 3) rfl (by kernel_rfl)) rfl (fun _ _ => rfl) (fun _ _ => rfl)) (simB_cons (simS_asg (gAdd w (gMul w (simE_v (i := 1) rfl (by kernel_rfl)) (simE_C_int)) (simE_v (i := 3) rfl (by kernel_rfl))) (simG_name (i := 1) rfl (by kernel_rfl)) rfl (fun _ _ => rfl) (fun _ _ => rfl)) (simB_nil)))) (fun _ _ => rfl)) (simB_cons (simS_ret (simE_lst (simA_cons (simE_v (i := 1) rfl (by kernel_rfl)) rfl (simA_nil)) (by decide))) (simB_nil))))
theorem sim_law_take {Y : Sys} (w : Wd Y.G) (cc : SaysP LD fn Y.K) (f : Facts LD Y) : SimB Y.G ⟨["_law_pot_here", "_law_far", "_law_found"], defScope s2, defScope s2⟩ (defBody s2) D_law_take :=
  simB_cons (simS_asg (gMod w (gIdx w (simE_v (i := 0) rfl (by kernel_rfl)) (simE_C_int) rfl) (simE_v (i := 1) rfl (by kernel_rfl))) (simG_name (i := 2) rfl (by kernel_rfl)) rfl (fun _ _ => rfl) (fun _ _ => rfl)) (simB_cons (simS_asg (gDiv w (gIdx w (simE_v (i := 0) rfl (by kernel_rfl)) (simE_C_int) rfl) (simE_v (i := 1) rfl (by kernel_rfl))) (simG_ix (simE_v (i := 0) rfl (by kernel_rfl)) (simE_C_int) (fun _ _ => rfl)) rfl (fun _ _ => rfl) (fun _ _ => rfl)) (simB_cons (simS_ret (simE_v (i := 2) rfl (by kernel_rfl))) (simB_nil)))
theorem sim_law_word {Y : Sys} (w : Wd Y.G) (cc : SaysP LD fn Y.K) (f : Facts LD Y) : SimB Y.G ⟨["_law_e", "_law_some", "_law_at_here", "_law_words"], defScope s3, defScope s3⟩ (defBody s3) D_law_word :=
  simB_cons (simS_asg (simE_lst (simA_cons (simE_isx w f.is (simE_v (i := 0) rfl (by kernel_rfl)) rfl (bltB_ok (by kernel_rfl)) (by kernel_rfl) (glo_x f "NoSigns" (by decide +kernel)) (by decide) (by decide)) rfl (simA_cons (simE_isx w f.is (simE_v (i := 0) rfl (by kernel_rfl)) rfl (bltB_ok (by kernel_rfl)) (by kernel_rfl) (glo_x f "NoPlace" (by decide +kernel)) (by decide) (by decide)) rfl (simA_cons (simE_isx w f.is (simE_v (i := 0) rfl (by kernel_rfl)) rfl (bltB_ok (by kernel_rfl)) (by kernel_rfl) (glo_x f "NoGivens" (by decide +kernel)) (by decide) (by decide)) rfl (simA_cons (simE_isx w f.is (simE_v (i := 0) rfl (by kernel_rfl)) rfl (bltB_ok (by kernel_rfl)) (by kernel_rfl) (glo_x f "NoUnlikes" (by decide +kernel)) (by decide) (by decide)) rfl (simA_nil))))) (by decide)) (simG_name (i := 1) rfl (by kernel_rfl)) rfl (fun _ _ => rfl) (fun _ _ => rfl)) (simB_cons (simS_asg (gAdd w (simE_v (i := 1) rfl (by kernel_rfl)) (simE_lst (simA_cons (simE_isx w f.is (simE_v (i := 0) rfl (by kernel_rfl)) rfl (bltB_ok (by kernel_rfl)) (by kernel_rfl) (glo_x f "NoLines" (by decide +kernel)) (by decide) (by decide)) rfl (simA_cons (simE_isx w f.is (simE_v (i := 0) rfl (by kernel_rfl)) rfl (bltB_ok (by kernel_rfl)) (by kernel_rfl) (glo_x f "NoModel" (by decide +kernel)) (by decide) (by decide)) rfl (simA_cons (simE_isx w f.is (simE_v (i := 0) rfl (by kernel_rfl)) rfl (bltB_ok (by kernel_rfl)) (by kernel_rfl) (glo_x f "NoPattern" (by decide +kernel)) (by decide) (by decide)) rfl (simA_cons (simE_isx w f.is (simE_v (i := 0) rfl (by kernel_rfl)) rfl (bltB_ok (by kernel_rfl)) (by kernel_rfl) (glo_x f "NoRules" (by decide +kernel)) (by decide) (by decide)) rfl (simA_nil))))) (by decide))) (simG_name (i := 1) rfl (by kernel_rfl)) rfl (fun _ _ => rfl) (fun _ _ => rfl)) (simB_cons (simS_asg (gAdd w (simE_v (i := 1) rfl (by kernel_rfl)) (simE_lst (simA_cons (simE_isx w f.is (simE_v (i := 0) rfl (by kernel_rfl)) rfl (bltB_ok (by kernel_rfl)) (by kernel_rfl) (glo_x f "NoRounds" (by decide +kernel)) (by decide) (by decide)) rfl (simA_cons (simE_isx w f.is (simE_v (i := 0) rfl (by kernel_rfl)) rfl (bltB_ok (by kernel_rfl)) (by kernel_rfl) (glo_x f "NoCosts" (by decide +kernel)) (by decide) (by decide)) rfl (simA_cons (simE_isx w f.is (simE_v (i := 0) rfl (by kernel_rfl)) rfl (bltB_ok (by kernel_rfl)) (by kernel_rfl) (glo_x f "NoLine" (by decide +kernel)) (by decide) (by decide)) rfl (simA_cons (simE_isx w f.is (simE_v (i := 0) rfl (by kernel_rfl)) rfl (bltB_ok (by kernel_rfl)) (by kernel_rfl) (glo_x f "NoTerm" (by decide +kernel)) (by decide) (by decide)) rfl (simA_nil))))) (by decide))) (simG_name (i := 1) rfl (by kernel_rfl)) rfl (fun _ _ => rfl) (fun _ _ => rfl)) (simB_cons (simS_asg (gAdd w (simE_v (i := 1) rfl (by kernel_rfl)) (simE_lst (simA_cons (simE_isx w f.is (simE_v (i := 0) rfl (by kernel_rfl)) rfl (bltB_ok (by kernel_rfl)) (by kernel_rfl) (glo_x f "TooMany" (by decide +kernel)) (by decide) (by decide)) rfl (simA_cons (simE_isx w f.is (simE_v (i := 0) rfl (by kernel_rfl)) rfl (bltB_ok (by kernel_rfl)) (by kernel_rfl) (glo_x f "NoText" (by decide +kernel)) (by decide) (by decide)) rfl (simA_cons (simE_isx w f.is (simE_v (i := 0) rfl (by kernel_rfl)) rfl (bltB_ok (by kernel_rfl)) (by kernel_rfl) (glo_x f "NoLevel" (by decide +kernel)) (by decide) (by decide)) rfl (simA_cons (simE_isx w f.is (simE_v (i := 0) rfl (by kernel_rfl)) rfl (bltB_ok (by kernel_rfl)) (by kernel_rfl) (glo_x f "NotKnown" (by decide +kernel)) (by decide) (by decide)) rfl (simA_nil))))) (by decide))) (simG_name (i := 1) rfl (by kernel_rfl)) rfl (fun _ _ => rfl) (fun _ _ => rfl)) (simB_cons (simS_asg (gAdd w (simE_v (i := 1) rfl (by kernel_rfl)) (simE_lst (simA_cons (simE_isx w f.is (simE_v (i := 0) rfl (by kernel_rfl)) rfl (bltB_ok (by kernel_rfl)) (by kernel_rfl) (glo_x f "NotAlike" (by decide +kernel)) (by decide) (by decide)) rfl (simA_nil)) (by decide))) (simG_name (i := 1) rfl (by kernel_rfl)) rfl (fun _ _ => rfl) (fun _ _ => rfl)) (simB_cons (simS_if (tNe w (mCountG w (simE_v (i := 1) rfl (by kernel_rfl)) (simA_cons (simE_C_bl) rfl (simA_nil)) rfl (by decide) (fun _ => rfl) rfl) (simE_C_int) (by with_unfolding_all rfl)) (simB_cons (simS_ret (simE_tup (simA_cons (gS (by kernel_rfl)) rfl (simA_nil)) (by decide))) (simB_nil)) (simB_nil)) (simB_cons (simS_asg (mIndexG w (simE_v (i := 1) rfl (by kernel_rfl)) (simA_cons (simE_C_bl) rfl (simA_nil)) rfl (by decide) (fun _ => rfl) rfl) (simG_name (i := 2) rfl (by kernel_rfl)) rfl (fun _ _ => rfl) (fun _ _ => rfl)) (simB_cons (simS_if (tNe w (simE_lst (simA_cons (simE_isx w f.is (simE_v (i := 0) rfl (by kernel_rfl)) rfl (bltB_ok (by kernel_rfl)) (by kernel_rfl) (glo_x f "NestError" (by decide +kernel)) (by decide) (by decide)) rfl (simA_cons (simE_isxB w f.is (simE_v (i := 0) rfl (by kernel_rfl)) rfl (bltB_ok (by kernel_rfl)) (bltB_ok (by kernel_rfl)) (by decide +kernel) Boot.ValueError rfl (by decide) (by decide)) rfl (simA_nil))) (by decide)) (gMul w (simE_lst (simA_cons (kLt w (simE_v (i := 2) rfl (by kernel_rfl)) (simE_C_int) (by with_unfolding_all rfl)) rfl (simA_nil)) (by decide)) (simE_C_int)) (by with_unfolding_all rfl)) (simB_cons (simS_ret (simE_tup (simA_cons (gS (by kernel_rfl)) rfl (simA_nil)) (by decide))) (simB_nil)) (simB_nil)) (simB_cons (simS_if (tNe w (simE_lst (simA_cons (simE_isx w f.is (simE_v (i := 0) rfl (by kernel_rfl)) rfl (bltB_ok (by kernel_rfl)) (by kernel_rfl) (glo_x f "AbsentError" (by decide +kernel)) (by decide) (by decide)) rfl (simA_cons (simE_isxB w f.is (simE_v (i := 0) rfl (by kernel_rfl)) rfl (bltB_ok (by kernel_rfl)) (bltB_ok (by kernel_rfl)) (by decide +kernel) Boot.LookupError rfl (by decide) (by decide)) rfl (simA_nil))) (by decide)) (gMul w (simE_lst (simA_cons (kGt w (simE_v (i := 2) rfl (by kernel_rfl)) (simE_C_int) (by with_unfolding_all rfl)) rfl (simA_nil)) (by decide)) (simE_C_int)) (by with_unfolding_all rfl)) (simB_cons (simS_ret (simE_tup (simA_cons (gS (by kernel_rfl)) rfl (simA_nil)) (by decide))) (simB_nil)) (simB_nil)) (simB_cons (simS_if (tEq w (simE_v (i := 2) rfl (by kernel_rfl)) (simE_C_int) (by with_unfolding_all rfl)) (simB_cons (simS_ret (simE_tup (simA_cons (gS (by kernel_rfl)) rfl (simA_cons (simE_xf f.is (simE_v (i := 0) rfl (by kernel_rfl)) (fun _ => rfl)) rfl (simA_cons (simE_xf f.is (simE_v (i := 0) rfl (by kernel_rfl)) (fun _ => rfl)) rfl (simA_nil)))) (by decide))) (simB_nil)) (simB_nil)) (simB_cons (simS_if (tEq w (simE_v (i := 2) rfl (by kernel_rfl)) (simE_C_int) (by with_unfolding_all rfl)) (simB_cons (simS_ret (simE_tup (simA_cons (gS (by kernel_rfl)) rfl (simA_cons (simE_xf f.is (simE_v (i := 0) rfl (by kernel_rfl)) (fun _ => rfl)) rfl (simA_nil))) (by decide))) (simB_nil)) (simB_nil)) (simB_cons (simS_if (tEq w (simE_v (i := 2) rfl (by kernel_rfl)) (simE_C_int) (by with_unfolding_all rfl)) (simB_cons (simS_ret (simE_tup (simA_cons (gS (by kernel_rfl)) rfl (simA_cons (simE_xf f.is (simE_v (i := 0) rfl (by kernel_rfl)) (fun _ => rfl)) rfl (simA_nil))) (by decide))) (simB_nil)) (simB_nil)) (simB_cons (simS_if (tGt w (simE_v (i := 2) rfl (by kernel_rfl)) (simE_C_int) (by with_unfolding_all rfl)) (simB_cons (simS_ret (simE_if (tEq w (simE_v (i := 2) rfl (by kernel_rfl)) (simE_C_int) (by with_unfolding_all rfl)) (simE_tup (simA_cons (gS (by kernel_rfl)) rfl (simA_cons (simE_xf f.is (simE_v (i := 0) rfl (by kernel_rfl)) (fun _ => rfl)) rfl (simA_nil))) (by decide)) (simE_tup (simA_cons (gS (by kernel_rfl)) rfl (simA_cons (simE_xf f.is (simE_v (i := 0) rfl (by kernel_rfl)) (fun _ => rfl)) rfl (simA_cons (simE_xf f.is (simE_v (i := 0) rfl (by kernel_rfl)) (fun _ => rfl)) rfl (simA_nil)))) (by decide)))) (simB_nil)) (simB_nil)) (simB_cons (simS_asg (simE_lst (simA_cons (gS (by kernel_rfl)) rfl (simA_cons (gS (by kernel_rfl)) rfl (simA_cons (gS (by kernel_rfl)) rfl (simA_cons (gS (by kernel_rfl)) rfl (simA_cons (gS (by kernel_rfl)) rfl (simA_cons (gS (by kernel_rfl)) rfl (simA_cons (gS (by kernel_rfl)) rfl (simA_cons (gS (by kernel_rfl)) rfl (simA_cons (gS (by kernel_rfl)) rfl (simA_cons (gS (by kernel_rfl)) rfl (simA_cons (gS (by kernel_rfl)) rfl (simA_nil)))))))))))) (by decide)) (simG_name (i := 3) rfl (by kernel_rfl)) rfl (fun _ _ => rfl) (fun _ _ => rfl)) (simB_cons (simS_ret (simE_if (tEq w (simE_v (i := 2) rfl (by kernel_rfl)) (simE_C_int) (by with_unfolding_all rfl)) (simE_tup (simA_cons (gS (by kernel_rfl)) rfl (simA_cons (simE_xf f.is (simE_v (i := 0) rfl (by kernel_rfl)) (fun _ => rfl)) rfl (simA_nil))) (by decide)) (simE_tup (simA_cons (gIdx w (simE_v (i := 3) rfl (by kernel_rfl)) (simE_v (i := 2) rfl (by kernel_rfl)) rfl) rfl (simA_nil)) (by decide)))) (simB_nil)))))))))))))))
theorem sim_law_plain_ones {Y : Sys} (w : Wd Y.G) (cc : SaysP LD fn Y.K) (f : Facts LD Y) : SimB Y.G ⟨["_law_some"], defScope s4, defScope s4⟩ (defBody s4) D_law_plain_ones :=
  simB_cons (simS_asg (simE_lst (simA_cons (simE_exc0 (f.x0 "NoSigns" (by decide +kernel)) (by kernel_rfl)) rfl (simA_cons (simE_exc0 (f.x0 "NoPlace" (by decide +kernel)) (by kernel_rfl)) rfl (simA_cons (simE_exc0 (f.x0 "NoGivens" (by decide +kernel)) (by kernel_rfl)) rfl (simA_cons (simE_exc0 (f.x0 "NoUnlikes" (by decide +kernel)) (by kernel_rfl)) rfl (simA_cons (simE_exc0 (f.x0 "NoLines" (by decide +kernel)) (by kernel_rfl)) rfl (simA_cons (simE_exc0 (f.x0 "NoModel" (by decide +kernel)) (by kernel_rfl)) rfl (simA_cons (simE_exc0 (f.x0 "NoPattern" (by decide +kernel)) (by kernel_rfl)) rfl (simA_cons (simE_exc0 (f.x0 "NoRules" (by decide +kernel)) (by kernel_rfl)) rfl (simA_cons (simE_exc0 (f.x0 "NoRounds" (by decide +kernel)) (by kernel_rfl)) rfl (simA_nil)))))))))) (by decide)) (simG_name (i := 0) rfl (by kernel_rfl)) rfl (fun _ _ => rfl) (fun _ _ => rfl)) (simB_cons (simS_ret (gAdd w (simE_v (i := 0) rfl (by kernel_rfl)) (simE_lst (simA_cons (simE_exc0 (f.x0 "NoCosts" (by decide +kernel)) (by kernel_rfl)) rfl (simA_cons (simE_exc0 (f.x0 "NoLine" (by decide +kernel)) (by kernel_rfl)) rfl (simA_nil))) (by decide)))) (simB_nil))
theorem sim_law_k05 {Y : Sys} (w : Wd Y.G) (cc : SaysP LD fn Y.K) (f : Facts LD Y) : SimB Y.G ⟨["_law_script", "_law_words", "_law_k", "_law_pot_here", "_law_few", "_law_far", "_law_sign", "_law_some", "_law_due", "_law_e", "_law_word_here"], defScope s5, defScope s5⟩ (defBody s5) D_law_k05 :=
  simB_cons (simS_asg (mSplitG w (gS (by kernel_rfl)) (simA_cons (gS (by kernel_rfl)) rfl (simA_nil)) rfl (by decide) (fun _ => rfl) rfl) (simG_name (i := 1) rfl (by kernel_rfl)) rfl (fun _ _ => rfl) (fun _ _ => rfl)) (simB_cons (simS_for w (simI_range w (simA_cons (bMaxG w (by kernel_rfl) (simA_cons (simE_C_int) rfl (simA_cons (bMinG w (by kernel_rfl) (simA_cons (bLenG w (by kernel_rfl) (simA_cons (simE_v (i := 0) rfl (by kernel_rfl)) rfl (simA_nil)) rfl) rfl (simA_cons (simE_C_int) rfl (simA_nil))) rfl) rfl (simA_nil))) rfl) rfl (simA_nil)) (by decide) rfl (bltB_ok (by kernel_rfl))) (simG_name (i := 2) rfl (by kernel_rfl)) (simB_cons (simS_asg (simE_call (j := 1) f.kn rfl (by kernel_rfl) (simA_cons (simE_call (j := 0) f.kn rfl (by kernel_rfl) (simA_cons (simE_v (i := 0) rfl (by kernel_rfl)) rfl (simA_cons (simE_v (i := 2) rfl (by kernel_rfl)) rfl (simA_nil))) (simK_nil) rfl rfl) rfl (simA_nil)) (simK_nil) rfl rfl) (simG_name (i := 3) rfl (by kernel_rfl)) rfl (fun _ _ => rfl) (fun _ _ => rfl)) (simB_cons (simS_par3 (i := 4) (j := 5) (l := 6) w rfl rfl rfl (by decide) (by decide) (by decide) (by kernel_rfl) (by kernel_rfl) (by kernel_rfl) (simA_cons (simE_call (j := 2) f.kn rfl (by kernel_rfl) (simA_cons (simE_v (i := 3) rfl (by kernel_rfl)) rfl (simA_cons (simE_C_int) rfl (simA_nil))) (simK_nil) rfl rfl) rfl (simA_cons (simE_call (j := 2) f.kn rfl (by kernel_rfl) (simA_cons (simE_v (i := 3) rfl (by kernel_rfl)) rfl (simA_cons (gPow w (simE_C_int) (simE_C_int)) rfl (simA_nil))) (simK_nil) rfl rfl) rfl (simA_cons (simE_tup (simA_cons (simE_call (j := 2) f.kn rfl (by kernel_rfl) (simA_cons (simE_v (i := 3) rfl (by kernel_rfl)) rfl (simA_cons (simE_C_int) rfl (simA_nil))) (simK_nil) rfl rfl) rfl (simA_nil)) (by decide)) rfl (simA_nil)))) (by intro env e; cases env; cases e; kernel_rfl) (fun _ => rfl)) (simB_cons (simS_if (tNe w (simE_lc w (own := [("_law_e", 9)]) ⟨simI_val (simE_call (j := 4) f.kn rfl (by kernel_rfl) (simA_nil) (simK_nil) rfl rfl), (by kernel_rfl), simG_name (i := 9) rfl (by kernel_rfl), rfl, .nil, simE_call (j := 3) f.kn rfl (by kernel_rfl) (simA_cons (simE_v (i := 9) rfl (by kernel_rfl)) rfl (simA_nil)) (simK_nil) rfl rfl, (fun _ _ => rfl)⟩) (simE_lc w (own := [("_law_word_here", 10)]) ⟨simI_val (simE_v (i := 1) rfl (by kernel_rfl)), (by kernel_rfl), simG_name (i := 10) rfl (by kernel_rfl), rfl, .nil, simE_tup (simA_cons (simE_v (i := 10) rfl (by kernel_rfl)) rfl (simA_nil)) (by decide), (fun _ _ => rfl)⟩) (by with_unfolding_all rfl)) (simB_cons (simS_ret (simE_C_bl)) (simB_nil)) (simB_nil)) (simB_cons (simS_asg (simE_lst (simA_cons (simE_exc (xI_NoTerm cc f) (by kernel_rfl) (simA_nil) (simK_nil) rfl rfl) rfl (simA_cons (simE_exc (xI_NoTerm cc f) (by kernel_rfl) (simA_cons (simE_v (i := 4) rfl (by kernel_rfl)) rfl (simA_nil)) (simK_nil) rfl rfl) rfl (simA_cons (simE_exc (xI_NoTerm cc f) (by kernel_rfl) (simA_nil) (simK_cons (simE_v (i := 5) rfl (by kernel_rfl)) (simK_nil)) rfl rfl) rfl (simA_cons (simE_exc (xI_TooMany cc f) (by kernel_rfl) (simA_cons (simE_v (i := 4) rfl (by kernel_rfl)) rfl (simA_cons (simE_v (i := 5) rfl (by kernel_rfl)) rfl (simA_nil))) (simK_nil) rfl rfl) rfl (simA_cons (simE_exc (xI_TooMany cc f) (by kernel_rfl) (simA_nil) (simK_cons (simE_v (i := 4) rfl (by kernel_rfl)) (simK_cons (simE_v (i := 5) rfl (by kernel_rfl)) (simK_nil))) rfl rfl) rfl (simA_nil)))))) (by decide)) (simG_name (i := 7) rfl (by kernel_rfl)) rfl (fun _ _ => rfl) (fun _ _ => rfl)) (simB_cons (simS_asg (gAdd w (simE_v (i := 7) rfl (by kernel_rfl)) (simE_lst (simA_cons (simE_exc (xI_NoText cc f) (by kernel_rfl) (simA_nil) (simK_nil) rfl rfl) rfl (simA_cons (simE_exc (xI_NoText cc f) (by kernel_rfl) (simA_cons (simE_v (i := 4) rfl (by kernel_rfl)) rfl (simA_nil)) (simK_nil) rfl rfl) rfl (simA_cons (simE_exc (xI_NoText cc f) (by kernel_rfl) (simA_nil) (simK_cons (simE_v (i := 5) rfl (by kernel_rfl)) (simK_nil)) rfl rfl) rfl (simA_cons (simE_exc (xI_NoLevel cc f) (by kernel_rfl) (simA_nil) (simK_nil) rfl rfl) rfl (simA_cons (simE_exc (xI_NoLevel cc f) (by kernel_rfl) (simA_cons (simE_v (i := 4) rfl (by kernel_rfl)) rfl (simA_nil)) (simK_nil) rfl rfl) rfl (simA_cons (simE_exc (xI_NoLevel cc f) (by kernel_rfl) (simA_nil) (simK_cons (simE_v (i := 5) rfl (by kernel_rfl)) (simK_nil)) rfl rfl) rfl (simA_nil))))))) (by decide))) (simG_name (i := 7) rfl (by kernel_rfl)) rfl (fun _ _ => rfl) (fun _ _ => rfl)) (simB_cons (simS_asg (gAdd w (simE_v (i := 7) rfl (by kernel_rfl)) (simE_lst (simA_cons (simE_exc (xI_NotKnown cc f) (by kernel_rfl) (simA_cons (simE_v (i := 6) rfl (by kernel_rfl)) rfl (simA_nil)) (simK_nil) rfl rfl) rfl (simA_cons (simE_exc (xI_NotKnown cc f) (by kernel_rfl) (simA_nil) (simK_cons (simE_tup (simA_cons (simE_v (i := 4) rfl (by kernel_rfl)) rfl (simA_nil)) (by decide)) (simK_nil)) rfl rfl) rfl (simA_cons (simE_exc (xI_NotAlike cc f) (by kernel_rfl) (simA_cons (simE_v (i := 6) rfl (by kernel_rfl)) rfl (simA_cons (simE_tup (simA_cons (simE_v (i := 5) rfl (by kernel_rfl)) rfl (simA_nil)) (by decide)) rfl (simA_nil))) (simK_nil) rfl rfl) rfl (simA_nil)))) (by decide))) (simG_name (i := 7) rfl (by kernel_rfl)) rfl (fun _ _ => rfl) (fun _ _ => rfl)) (simB_cons (simS_exp (mAppendG w (simE_v (i := 7) rfl (by kernel_rfl)) (simA_cons (simE_exc (xI_NotAlike cc f) (by kernel_rfl) (simA_nil) (simK_cons (simE_v (i := 6) rfl (by kernel_rfl)) (simK_cons (simE_tup (simA_cons (simE_v (i := 4) rfl (by kernel_rfl)) rfl (simA_nil)) (by decide)) (simK_nil))) rfl rfl) rfl (simA_nil)) rfl (by decide) (fun _ => rfl) rfl) (fun _ => rfl)) (simB_cons (simS_asg (simE_lst (simA_cons (simE_tup (simA_cons (gS (by kernel_rfl)) rfl (simA_cons (simE_C_int) rfl (simA_nil))) (by decide)) rfl (simA_cons (simE_tup (simA_cons (gS (by kernel_rfl)) rfl (simA_cons (simE_v (i := 4) rfl (by kernel_rfl)) rfl (simA_nil))) (by decide)) rfl (simA_cons (simE_tup (simA_cons (gS (by kernel_rfl)) rfl (simA_cons (simE_v (i := 5) rfl (by kernel_rfl)) rfl (simA_nil))) (by decide)) rfl (simA_cons (simE_tup (simA_cons (gS (by kernel_rfl)) rfl (simA_cons (simE_v (i := 4) rfl (by kernel_rfl)) rfl (simA_cons (simE_v (i := 5) rfl (by kernel_rfl)) rfl (simA_nil)))) (by decide)) rfl (simA_cons (simE_tup (simA_cons (gS (by kernel_rfl)) rfl (simA_cons (simE_v (i := 5) rfl (by kernel_rfl)) rfl (simA_cons (simE_v (i := 4) rfl (by kernel_rfl)) rfl (simA_nil)))) (by decide)) rfl (simA_nil)))))) (by decide)) (simG_name (i := 8) rfl (by kernel_rfl)) rfl (fun _ _ => rfl) (fun _ _ => rfl)) (simB_cons (simS_asg (gAdd w (simE_v (i := 8) rfl (by kernel_rfl)) (simE_lst (simA_cons (simE_tup (simA_cons (gS (by kernel_rfl)) rfl (simA_cons (simE_C_int) rfl (simA_nil))) (by decide)) rfl (simA_cons (simE_tup (simA_cons (gS (by kernel_rfl)) rfl (simA_cons (simE_v (i := 4) rfl (by kernel_rfl)) rfl (simA_nil))) (by decide)) rfl (simA_cons (simE_tup (simA_cons (gS (by kernel_rfl)) rfl (simA_cons (simE_v (i := 5) rfl (by kernel_rfl)) rfl (simA_nil))) (by decide)) rfl (simA_cons (simE_tup (simA_cons (gS (by kernel_rfl)) rfl (simA_cons (simE_C_int) rfl (simA_nil))) (by decide)) rfl (simA_cons (simE_tup (simA_cons (gS (by kernel_rfl)) rfl (simA_cons (simE_v (i := 4) rfl (by kernel_rfl)) rfl (simA_nil))) (by decide)) rfl (simA_cons (simE_tup (simA_cons (gS (by kernel_rfl)) rfl (simA_cons (simE_v (i := 5) rfl (by kernel_rfl)) rfl (simA_nil))) (by decide)) rfl (simA_nil))))))) (by decide))) (simG_name (i := 8) rfl (by kernel_rfl)) rfl (fun _ _ => rfl) (fun _ _ => rfl)) (simB_cons (simS_asg (gAdd w (simE_v (i := 8) rfl (by kernel_rfl)) (simE_lst (simA_cons (simE_tup (simA_cons (gS (by kernel_rfl)) rfl (simA_cons (simE_v (i := 6) rfl (by kernel_rfl)) rfl (simA_nil))) (by decide)) rfl (simA_cons (simE_tup (simA_cons (gS (by kernel_rfl)) rfl (simA_cons (simE_tup (simA_cons (simE_v (i := 4) rfl (by kernel_rfl)) rfl (simA_nil)) (by decide)) rfl (simA_nil))) (by decide)) rfl (simA_cons (simE_tup (simA_cons (gS (by kernel_rfl)) rfl (simA_cons (simE_v (i := 6) rfl (by kernel_rfl)) rfl (simA_cons (simE_tup (simA_cons (simE_v (i := 5) rfl (by kernel_rfl)) rfl (simA_nil)) (by decide)) rfl (simA_nil)))) (by decide)) rfl (simA_cons (simE_tup (simA_cons (gS (by kernel_rfl)) rfl (simA_cons (simE_tup (simA_cons (simE_v (i := 4) rfl (by kernel_rfl)) rfl (simA_nil)) (by decide)) rfl (simA_cons (simE_v (i := 6) rfl (by kernel_rfl)) rfl (simA_nil)))) (by decide)) rfl (simA_nil))))) (by decide))) (simG_name (i := 8) rfl (by kernel_rfl)) rfl (fun _ _ => rfl) (fun _ _ => rfl)) (simB_cons (simS_if (tNe w (simE_lc w (own := [("_law_e", 9)]) ⟨simI_val (simE_v (i := 7) rfl (by kernel_rfl)), (by kernel_rfl), simG_name (i := 9) rfl (by kernel_rfl), rfl, .nil, simE_call (j := 3) f.kn rfl (by kernel_rfl) (simA_cons (simE_v (i := 9) rfl (by kernel_rfl)) rfl (simA_nil)) (simK_nil) rfl rfl, (fun _ _ => rfl)⟩) (simE_v (i := 8) rfl (by kernel_rfl)) (by with_unfolding_all rfl)) (simB_cons (simS_ret (simE_C_bl)) (simB_nil)) (simB_nil)) (simB_nil)))))))))))) (fun _ _ => rfl)) (simB_cons (simS_ret (simE_C_bl)) (simB_nil)))
theorem ent_law_cell_at {P : Program} {w0 : World} {K : PySem.W.Frag} {mg : Str → Option Value} {base : Heap} (w : Wd (Sys.G ⟨P, w0, K, mg, base, T, LD.ad K⟩)) (cc : SaysP LD fn K) (f : Facts LD ⟨P, w0, K, mg, base, T, LD.ad K⟩) : FEnt ⟨P, w0, K, mg, base, T, LD.ad K⟩ 1000 F_law_cell_at := by
  obtain ⟨fd, F⟩ := cc.def_ 0 (d := d0) rfl
  exact ⟨fd, _, _, ⟨⟨_, _, _, _, _, F, rfl, rfl, rfl, rfl, rfl⟩, .nil, .nil⟩, _, _, _, _, _, ["_law_script", "_law_k"], F, ⟨rfl, rfl, rfl, by decide +kernel, rfl, by decide +kernel, by decide +kernel⟩, rfl, sim_law_cell_at w cc f⟩
theorem ent_law_pot {P : Program} {w0 : World} {K : PySem.W.Frag} {mg : Str → Option Value} {base : Heap} (w : Wd (Sys.G ⟨P, w0, K, mg, base, T, LD.ad K⟩)) (cc : SaysP LD fn K) (f : Facts LD ⟨P, w0, K, mg, base, T, LD.ad K⟩) : FEnt ⟨P, w0, K, mg, base, T, LD.ad K⟩ 1001 F_law_pot := by
  obtain ⟨fd, F⟩ := cc.def_ 1 (d := d1) rfl
  exact ⟨fd, _, _, ⟨⟨_, _, _, _, _, F, rfl, rfl, rfl, rfl, rfl⟩, .nil, .nil⟩, _, _, _, _, _, ["_law_cell", "_law_number", "_law_j", "_law_more"], F, ⟨rfl, rfl, rfl, by decide +kernel, rfl, by decide +kernel, by decide +kernel⟩, rfl, sim_law_pot w cc f⟩
theorem ent_law_take {P : Program} {w0 : World} {K : PySem.W.Frag} {mg : Str → Option Value} {base : Heap} (w : Wd (Sys.G ⟨P, w0, K, mg, base, T, LD.ad K⟩)) (cc : SaysP LD fn K) (f : Facts LD ⟨P, w0, K, mg, base, T, LD.ad K⟩) : FEnt ⟨P, w0, K, mg, base, T, LD.ad K⟩ 1002 F_law_take := by
  obtain ⟨fd, F⟩ := cc.def_ 2 (d := d2) rfl
  exact ⟨fd, _, _, ⟨⟨_, _, _, _, _, F, rfl, rfl, rfl, rfl, rfl⟩, .nil, .nil⟩, _, _, _, _, _, ["_law_pot_here", "_law_far", "_law_found"], F, ⟨rfl, rfl, rfl, by decide +kernel, rfl, by decide +kernel, by decide +kernel⟩, rfl, sim_law_take w cc f⟩
theorem ent_law_word {P : Program} {w0 : World} {K : PySem.W.Frag} {mg : Str → Option Value} {base : Heap} (w : Wd (Sys.G ⟨P, w0, K, mg, base, T, LD.ad K⟩)) (cc : SaysP LD fn K) (f : Facts LD ⟨P, w0, K, mg, base, T, LD.ad K⟩) : FEnt ⟨P, w0, K, mg, base, T, LD.ad K⟩ 1007 F_law_word := by
  obtain ⟨fd, F⟩ := cc.def_ 3 (d := d3) rfl
  exact ⟨fd, _, _, ⟨⟨_, _, _, _, _, F, rfl, rfl, rfl, rfl, rfl⟩, .nil, .nil⟩, _, _, _, _, _, ["_law_e", "_law_some", "_law_at_here", "_law_words"], F, ⟨rfl, rfl, rfl, by decide +kernel, rfl, by decide +kernel, by decide +kernel⟩, rfl, sim_law_word w cc f⟩
theorem ent_law_plain_ones {P : Program} {w0 : World} {K : PySem.W.Frag} {mg : Str → Option Value} {base : Heap} (w : Wd (Sys.G ⟨P, w0, K, mg, base, T, LD.ad K⟩)) (cc : SaysP LD fn K) (f : Facts LD ⟨P, w0, K, mg, base, T, LD.ad K⟩) : FEnt ⟨P, w0, K, mg, base, T, LD.ad K⟩ 1010 F_law_plain_ones := by
  obtain ⟨fd, F⟩ := cc.def_ 4 (d := d4) rfl
  exact ⟨fd, _, _, ⟨⟨_, _, _, _, _, F, rfl, rfl, rfl, rfl, rfl⟩, .nil, .nil⟩, _, _, _, _, _, ["_law_some"], F, ⟨rfl, rfl, rfl, by decide +kernel, rfl, by decide +kernel, by decide +kernel⟩, rfl, sim_law_plain_ones w cc f⟩
theorem ent_law_k05 {P : Program} {w0 : World} {K : PySem.W.Frag} {mg : Str → Option Value} {base : Heap} (w : Wd (Sys.G ⟨P, w0, K, mg, base, T, LD.ad K⟩)) (cc : SaysP LD fn K) (f : Facts LD ⟨P, w0, K, mg, base, T, LD.ad K⟩) : FEnt ⟨P, w0, K, mg, base, T, LD.ad K⟩ 1011 F_law_k05 := by
  obtain ⟨fd, F⟩ := cc.def_ 5 (d := d5) rfl
  exact ⟨fd, _, _, ⟨⟨_, _, _, _, _, F, rfl, rfl, rfl, rfl, rfl⟩, .nil, .nil⟩, _, _, _, _, _, ["_law_script", "_law_words", "_law_k", "_law_pot_here", "_law_few", "_law_far", "_law_sign", "_law_some", "_law_due", "_law_e", "_law_word_here"], F, ⟨rfl, rfl, rfl, by decide +kernel, rfl, by decide +kernel, by decide +kernel⟩, rfl, sim_law_k05 w cc f⟩
theorem ents {P : PySem.Program} {w0 : PySem.World} {K : PySem.W.Frag} {mg : PySem.Str → Option PySem.Value} {base : PySem.Heap} (w : Wd (Sys.G ⟨P, w0, K, mg, base, T, LD.ad K⟩)) (cc : SaysP LD fn K) (f : Facts LD ⟨P, w0, K, mg, base, T, LD.ad K⟩) (a : Nat) (D : FDef) (h : T.lookup a = some D) : FEnt ⟨P, w0, K, mg, base, T, LD.ad K⟩ a D := by
  have key : ∀ p ∈ T, FEnt ⟨P, w0, K, mg, base, T, LD.ad K⟩ p.1 p.2 := by
    intro p hp
    simp only [T, List.mem_cons, List.not_mem_nil, or_false] at hp
    rcases hp with rfl | rfl | rfl | rfl | rfl | rfl
    · exact ent_law_cell_at w cc f
    · exact ent_law_pot w cc f
    · exact ent_law_take w cc f
    · exact ent_law_word w cc f
    · exact ent_law_plain_ones w cc f
    · exact ent_law_k05 w cc f
  exact key _ (lookup_mem h)
end K05
end
/-! HdK05 -/
section
set_option Elab.async false
set_option linter.all false
set_option maxRecDepth 1000000
set_option maxHeartbeats 0
set_option autoImplicit false
namespace K05
open PySem PySem.Spec PyProof.Rows L2 Pv
abbrev R : PySem.W.OpenRow := PySem.W.OpenLaw.row PySem.Challenge.rw_likenest_k05_errors_of_two_families
abbrev hk : PySem.W.Hook := hookP 4 LD fn
def ob (s : PySem.W.SharedT) : AlP := obsPG 4 LD fn (HandSHeadRun.getT s)
theorem ob_eq (s : PySem.W.SharedT) : ob s = hk.obs s.abs := obsPG_eq (HandSHeadRun.getT_eq s)
abbrev loose : List Str := (["NestError", "AbsentError", "NoSigns", "NoPlace", "NoGivens", "NoUnlikes", "NoLines", "NoModel", "NoPattern", "NoRules", "NoRounds", "NoCosts"] : List Str) ++ (["NoLine", "NoTerm", "TooMany", "NoText", "NoLevel", "NotKnown", "NotAlike", "_law_cell_at", "_law_pot", "_law_take", "_law_word", "_law_plain_ones"] : List Str)
theorem run (w : World) : HandSHeadRun.RunEq R (PySem.W.view R.prog [26]) hk ob 1000000 loose w := by
  intro os
  kernel_rfl
end K05
end
/-! PlLoop -/
section
set_option Elab.async false
set_option linter.all false
set_option maxRecDepth 100000
set_option autoImplicit false
/-! Pl: loops over lists of values, by invariants. -/
namespace Pv
open PySem
theorem forL_nil (w : Wat) (g : Tg) (b : Ts) (c : Cfg) (rho : Env) (h : VH) (a : alive w h = true) : forL w g b c [] rho h = .nx rho h := by
  show (if alive w h then SO.nx rho h else .bad) = _
  rw [a]; rfl
theorem forL_nx {w : Wat} {g : Tg} {b : Ts} {c : Cfg} {v : Val} {r : List Val} {rho rho1 rho2 : Env} {h h1 h2 : VH} (a : alive w h = true) (hg : g v c rho h = .ok rho1 h1) (hb : b c rho1 h1 = .nx rho2 h2 ∨ b c rho1 h1 = .ct rho2 h2) :
    forL w g b c (v :: r) rho h = forL w g b c r rho2 h2 := by
  show (if alive w h then (g v c rho h).to0 fun rho h => (match b c rho h with
    | .nx rho h => forL w g b c r rho h
    | .ct rho h => forL w g b c r rho h
    | .bk rho h => .nx rho h
    | o => o) else .bad) = _
  rw [a, hg]
  rcases hb with hb | hb <;> simp [hb]
theorem forL_rt {w : Wat} {g : Tg} {b : Ts} {c : Cfg} {v u : Val} {r : List Val} {rho rho1 : Env} {h h1 h2 : VH} (a : alive w h = true) (hg : g v c rho h = .ok rho1 h1) (hb : b c rho1 h1 = .rt u h2) :
    forL w g b c (v :: r) rho h = .rt u h2 := by
  show (if alive w h then (g v c rho h).to0 fun rho h => (match b c rho h with
    | .nx rho h => forL w g b c r rho h
    | .ct rho h => forL w g b c r rho h
    | .bk rho h => .nx rho h
    | o => o) else .bad) = _
  rw [a, hg]
  simp [hb]
theorem forL_er {w : Wat} {g : Tg} {b : Ts} {c : Cfg} {v : Val} {r : List Val} {rho rho1 rho2 : Env} {h h1 h2 : VH} {n : Str} {fs : Flds} (a : alive w h = true) (hg : g v c rho h = .ok rho1 h1) (hb : b c rho1 h1 = .er n fs rho2 h2) :
    forL w g b c (v :: r) rho h = .er n fs rho2 h2 := by
  show (if alive w h then (g v c rho h).to0 fun rho h => (match b c rho h with
    | .nx rho h => forL w g b c r rho h
    | .ct rho h => forL w g b c r rho h
    | .bk rho h => .nx rho h
    | o => o) else .bad) = _
  rw [a, hg]
  simp [hb]
theorem forL_bk {w : Wat} {g : Tg} {b : Ts} {c : Cfg} {v : Val} {r : List Val} {rho rho1 rho2 : Env} {h h1 h2 : VH} (a : alive w h = true) (hg : g v c rho h = .ok rho1 h1) (hb : b c rho1 h1 = .bk rho2 h2) :
    forL w g b c (v :: r) rho h = .nx rho2 h2 := by
  show (if alive w h then (g v c rho h).to0 fun rho h => (match b c rho h with
    | .nx rho h => forL w g b c r rho h
    | .ct rho h => forL w g b c r rho h
    | .bk rho h => .nx rho h
    | o => o) else .bad) = _
  rw [a, hg]
  simp [hb]
/-- a loop that goes through: I of what was done -/
theorem forL_all {w : Wat} {g : Tg} {b : Ts} {c : Cfg} (I : List Val → Env → VH → Prop) (al : ∀ d rho h, I d rho h → alive w h = true) :
    ∀ (its done : List Val) (rho : Env) (h : VH), I done rho h →
      (∀ d v r rho h, done ++ its = d ++ v :: r → I d rho h → ∃ rho1 h1 rho2 h2, g v c rho h = .ok rho1 h1 ∧ (b c rho1 h1 = .nx rho2 h2 ∨ b c rho1 h1 = .ct rho2 h2) ∧ I (d ++ [v]) rho2 h2) →
      ∃ rho' h', forL w g b c its rho h = .nx rho' h' ∧ I (done ++ its) rho' h'
  | [], done, rho, h, i, st => ⟨rho, h, forL_nil _ _ _ _ _ _ (al _ _ _ i), by rw [List.append_nil]; exact i⟩
  | v :: r, done, rho, h, i, st => by
    obtain ⟨rho1, h1, rho2, h2, e1, e2, i2⟩ := st done v r rho h rfl i
    rw [forL_nx (al _ _ _ i) e1 e2]
    obtain ⟨rho', h', e, i'⟩ := forL_all I al r (done ++ [v]) rho2 h2 i2 (fun d v' r' rho h e i => st d v' r' rho h (by rw [← e, List.append_assoc]; rfl) i)
    exact ⟨rho', h', e, by rw [List.append_assoc] at i'; exact i'⟩
theorem forL_inv {w : Wat} {g : Tg} {b : Ts} {c : Cfg} (I : List Val → Env → VH → Prop) (its : List Val) (rho : Env) (h : VH) (al : ∀ d rho h, I d rho h → alive w h = true) (i : I [] rho h)
    (st : ∀ d v r rho h, its = d ++ v :: r → I d rho h → ∃ rho1 h1 rho2 h2, g v c rho h = .ok rho1 h1 ∧ (b c rho1 h1 = .nx rho2 h2 ∨ b c rho1 h1 = .ct rho2 h2) ∧ I (d ++ [v]) rho2 h2) :
    ∃ rho' h', forL w g b c its rho h = .nx rho' h' ∧ I its rho' h' := forL_all I al its [] rho h i st
/-- a loop that goes through or hands back -/
theorem forL_allR {w : Wat} {g : Tg} {b : Ts} {c : Cfg} (I : List Val → Env → VH → Prop) (R : Val → VH → Prop) (al : ∀ d rho h, I d rho h → alive w h = true) :
    ∀ (its done : List Val) (rho : Env) (h : VH), I done rho h →
      (∀ d v r rho h, done ++ its = d ++ v :: r → I d rho h → ∃ rho1 h1, g v c rho h = .ok rho1 h1 ∧ ((∃ rho2 h2, (b c rho1 h1 = .nx rho2 h2 ∨ b c rho1 h1 = .ct rho2 h2) ∧ I (d ++ [v]) rho2 h2) ∨ ∃ u h2, b c rho1 h1 = .rt u h2 ∧ R u h2)) →
      (∃ rho' h', forL w g b c its rho h = .nx rho' h' ∧ I (done ++ its) rho' h') ∨ ∃ u h', forL w g b c its rho h = .rt u h' ∧ R u h'
  | [], done, rho, h, i, st => .inl ⟨rho, h, forL_nil _ _ _ _ _ _ (al _ _ _ i), by rw [List.append_nil]; exact i⟩
  | v :: r, done, rho, h, i, st => by
    obtain ⟨rho1, h1, e1, ⟨rho2, h2, e2, i2⟩ | ⟨u, h2, e2, q⟩⟩ := st done v r rho h rfl i
    · rw [forL_nx (al _ _ _ i) e1 e2]
      rcases forL_allR I R al r (done ++ [v]) rho2 h2 i2 (fun d v' r' rho h e i => st d v' r' rho h (by rw [← e, List.append_assoc]; rfl) i) with ⟨rho', h', e, i'⟩ | ⟨u, h', e, q⟩
      · exact .inl ⟨rho', h', e, by rw [List.append_assoc] at i'; exact i'⟩
      · exact .inr ⟨u, h', e, q⟩
    · exact .inr ⟨u, h2, forL_rt (al _ _ _ i) e1 e2, q⟩
theorem forL_ret {w : Wat} {g : Tg} {b : Ts} {c : Cfg} (I : List Val → Env → VH → Prop) (R : Val → VH → Prop) (its : List Val) (rho : Env) (h : VH) (al : ∀ d rho h, I d rho h → alive w h = true) (i : I [] rho h)
    (st : ∀ d v r rho h, its = d ++ v :: r → I d rho h → ∃ rho1 h1, g v c rho h = .ok rho1 h1 ∧ ((∃ rho2 h2, (b c rho1 h1 = .nx rho2 h2 ∨ b c rho1 h1 = .ct rho2 h2) ∧ I (d ++ [v]) rho2 h2) ∨ ∃ u h2, b c rho1 h1 = .rt u h2 ∧ R u h2)) :
    (∃ rho' h', forL w g b c its rho h = .nx rho' h' ∧ I its rho' h') ∨ ∃ u h', forL w g b c its rho h = .rt u h' ∧ R u h' := forL_allR I R al its [] rho h i st
/-! ### list comprehensions -/
theorem lcL_nil (w : Wat) (g : Tg) (t : Tt) (e : Tm) (c : Cfg) (rho : Env) (h : VH) (a : alive w h = true) : lcL w g t e c rho [] h = .ok [] h := by
  show (if alive w h then Out.ok [] h else .bad) = _
  rw [a]; rfl
theorem lcL_yes {w : Wat} {g : Tg} {t : Tt} {e : Tm} {c : Cfg} {v y : Val} {r ys : List Val} {rho rho1 : Env} {h h1 h2 h3 h4 : VH} (a : alive w h = true) (hg : g v c rho h = .ok rho1 h1) (ht : t c rho1 h1 = .ok true h2) (he : e c rho1 h2 = .ok y h3) (hr : lcL w g t e c rho r h3 = .ok ys h4) :
    lcL w g t e c rho (v :: r) h = .ok (y :: ys) h4 := by
  show (if alive w h then (g v c rho h).bn fun rho1 h => (t c rho1 h).bn fun k h => if k then (e c rho1 h).bn fun y h => (lcL w g t e c rho r h).bn fun ys h => .ok (y :: ys) h else lcL w g t e c rho r h else .bad) = _
  rw [a, hg]
  simp [ht, he, hr]
theorem lcL_no {w : Wat} {g : Tg} {t : Tt} {e : Tm} {c : Cfg} {v : Val} {r ys : List Val} {rho rho1 : Env} {h h1 h2 h4 : VH} (a : alive w h = true) (hg : g v c rho h = .ok rho1 h1) (ht : t c rho1 h1 = .ok false h2) (hr : lcL w g t e c rho r h2 = .ok ys h4) :
    lcL w g t e c rho (v :: r) h = .ok ys h4 := by
  show (if alive w h then (g v c rho h).bn fun rho1 h => (t c rho1 h).bn fun k h => if k then (e c rho1 h).bn fun y h => (lcL w g t e c rho r h).bn fun ys h => .ok (y :: ys) h else lcL w g t e c rho r h else .bad) = _
  rw [a, hg]
  simp [ht, hr]
/-- what each item gives hangs on it alone -/
theorem lcL_fm {w : Wat} {g : Tg} {t : Tt} {e : Tm} {c : Cfg} {rho : Env} (P : VH → Prop) (F : Val → Option Val) (al : ∀ h, P h → alive w h = true) :
    ∀ (its : List Val) (h : VH), P h →
      (∀ v ∈ its, ∀ h, P h → ∃ rho1 h1 h2, g v c rho h = .ok rho1 h1 ∧ ((F v = none ∧ t c rho1 h1 = .ok false h2 ∧ P h2) ∨ ∃ y h3, F v = some y ∧ t c rho1 h1 = .ok true h2 ∧ e c rho1 h2 = .ok y h3 ∧ P h3)) →
      ∃ h', lcL w g t e c rho its h = .ok (its.filterMap F) h' ∧ P h'
  | [], h, p, _ => ⟨h, lcL_nil _ _ _ _ _ _ _ (al h p), p⟩
  | v :: r, h, p, st => by
    obtain ⟨rho1, h1, h2, e1, ⟨f, e2, p2⟩ | ⟨y, h3, f, e2, e3, p3⟩⟩ := st v List.mem_cons_self h p
    · obtain ⟨h', e', p'⟩ := lcL_fm P F al r h2 p2 fun v hv => st v (List.mem_cons_of_mem _ hv)
      exact ⟨h', by rw [lcL_no (al h p) e1 e2 e', List.filterMap_cons_none f], p'⟩
    · obtain ⟨h', e', p'⟩ := lcL_fm P F al r h3 p3 fun v hv => st v (List.mem_cons_of_mem _ hv)
      exact ⟨h', by rw [lcL_yes (al h p) e1 e2 e3 e', List.filterMap_cons_some f], p'⟩
theorem lcL_map {w : Wat} {g : Tg} {e : Tm} {c : Cfg} {rho : Env} (P : VH → Prop) (F : Val → Val) (al : ∀ h, P h → alive w h = true) (its : List Val) (h : VH) (p : P h)
    (st : ∀ v ∈ its, ∀ h, P h → ∃ rho1 h1 h3, g v c rho h = .ok rho1 h1 ∧ e c rho1 h1 = .ok (F v) h3 ∧ P h3) :
    ∃ h', lcL w g tYes e c rho its h = .ok (its.map F) h' ∧ P h' := by
  obtain ⟨h', e', p'⟩ := lcL_fm (w := w) (g := g) (t := tYes) (e := e) (c := c) (rho := rho) P (fun v => some (F v)) al its h p fun v hv h p => by
    obtain ⟨rho1, h1, h3, e1, e2, p3⟩ := st v hv h p
    exact ⟨rho1, h1, h1, e1, .inr ⟨F v, h3, rfl, rfl, e2, p3⟩⟩
  exact ⟨h', by rw [e', List.filterMap_eq_map'], p'⟩
/-- what each item gives is of a kind -/
theorem lcL_rel {w : Wat} {g : Tg} {e : Tm} {c : Cfg} {rho : Env} (P : VH → Prop) (Q : Val → Val → Prop) (al : ∀ h, P h → alive w h = true) :
    ∀ (its : List Val) (h : VH), P h → (∀ v ∈ its, ∀ h, P h → ∃ rho1 h1 y h3, g v c rho h = .ok rho1 h1 ∧ e c rho1 h1 = .ok y h3 ∧ P h3 ∧ Q v y) →
    ∃ ys h', lcL w g tYes e c rho its h = .ok ys h' ∧ P h' ∧ Paired Q its ys
  | [], h, p, _ => ⟨[], h, lcL_nil _ _ _ _ _ _ _ (al h p), p, .nil⟩
  | v :: r, h, p, st => by
    obtain ⟨rho1, h1, y, h3, e1, e2, p3, q⟩ := st v List.mem_cons_self h p
    obtain ⟨ys, h', e', p', q'⟩ := lcL_rel P Q al r h3 p3 fun v hv => st v (List.mem_cons_of_mem _ hv)
    exact ⟨y :: ys, h', lcL_yes (al h p) e1 rfl e2 e', p', .cons q q'⟩
end Pv
end
/-! PlTerm -/
section
set_option Elab.async false
set_option linter.all false
set_option maxRecDepth 100000
set_option autoImplicit false
/-! Pl: signs and rows. -/
namespace Pv
open PySem
/-! ### what is told of things -/
def within : Val → Int → Int → Bool
  | .int i, lo, hi => decide (lo ≤ i) && decide (i ≤ hi)
  | _, _, _ => false
def isIntV : Val → Bool
  | .int _ => true
  | _ => false
theorem ite_ok {α : Type} {p : Prop} [Decidable p] (a b : α) (h : VH) : (if p then Out.ok a h else Out.ok b h) = Out.ok (if p then a else b) h := by split <;> rfl
theorem ite_bl {p : Prop} [Decidable p] (a b : Bool) : (if p then Val.bl a else Val.bl b) = Val.bl (if p then a else b) := by split <;> rfl
theorem ty_int {v : Val} {h : VH} {y : String} (hy : tyN v h = some y) : isTy y "int" = (isIntV v || y == "bool") ∧ (isIntV v = true → y = "int") := by
  cases v with
  | ref l =>
    have hy' : (match h[l]? with
      | some (.lst _) => some "list"
      | some (.frz _) => some "list"
      | some (.dct _ _) => some "dict"
      | _ => none) = some y := hy
    split at hy' <;> first | (cases hy'; exact ⟨by simp [isTy, isIntV], by simp [isIntV]⟩) | cases hy'
  | glo x => cases hy
  | _ => cases hy; exact ⟨by simp [isTy, isIntV], by simp [isIntV]⟩
theorem sp_is_whole {T : Tab} (t : Ok_is_whole T) (k : Nat) (hot : Option Nat) (v : Val) (h : VH) {y : String} (hy : tyN v h = some y) : callN T (k + 1) hot 6 [v] [] h = .ok (.bl (isIntV v)) h := by
  rw [call_is_whole t]
  obtain ⟨e1, e2⟩ := ty_int hy
  simp only [ev, D_is_whole, hy, e1]
  cases hv : isIntV v with
  | true => rw [e2 hv]; rfl
  | false =>
    by_cases hb : (y == "bool") = true
    · have := eq_of_beq hb; subst this; rfl
    · simp only [Bool.not_eq_true] at hb
      simp [hb, ev]
theorem sp_is_within {T : Tab} (t : Ok_is_within T) (k : Nat) (hot : Option Nat) (v : Val) (lo hi : Int) (h : VH) {y : String} (hy : tyN v h = some y) : callN T (k + 2) hot 7 [v, .int lo, .int hi] [] h = .ok (.bl (within v lo hi)) h := by
  rw [call_is_within t]
  cases v with
  | int i =>
    simp only [ev, D_is_within, sp_is_whole t.is_whole k hot _ h hy, isIntV, ite_ok, ite_bl, within]
    by_cases h1 : lo ≤ i <;> simp [h1]
  | _ => simp only [ev, D_is_within, sp_is_whole t.is_whole k hot _ h hy, isIntV, within]
theorem within_int (i lo hi : Int) : within (.int i) lo hi = (decide (lo ≤ i) && decide (i ≤ hi)) := rfl
/-! names, signs -/
def isLow (x : Str) : Bool := x.cps.toList.all fun n => decide (n ∈ ("abcdefghijklmnopqrstuvwxyz" : Str).cps.toList)
def isName : Val → Bool
  | .str x => decide (1 ≤ x.length) && decide (x.length ≤ 6) && isLow x
  | _ => false
theorem one_cps (n : Nat) : (⟨#[n]⟩ : Str).cps.size = 1 := rfl
theorem boolL_map {α : Type} (f : α → Bool) : ∀ l : List α, boolL (l.map fun a => .bl (f a)) = some (l.map f)
  | [] => rfl
  | a :: l => by
    show (boolL (l.map fun a => .bl (f a))).map (f a :: ·) = _
    rw [boolL_map f l]; rfl
def LETT : List Nat := ("abcdefghijklmnopqrstuvwxyz" : Str).cps.toList
def lowV : Val → Val
  | .str c => .bl (decide (c.cps.getD 0 0 ∈ LETT))
  | _ => .non
theorem lowV_chars (x : Str) : (charsOf x).map lowV = x.cps.toList.map fun n => .bl (decide (n ∈ LETT)) := by
  unfold charsOf; rw [List.map_map]; rfl
theorem ev_all (bs : List Bool) (l : Nat) (h : VH) (hl : lstOf (.ref l) h = some (bs.map .bl)) : bAll [.ref l] h = .ok (.bl (bs.all id)) h := by
  have e : boolL (bs.map .bl) = some bs := by
    have := boolL_map (α := Bool) id bs
    simpa using this
  show (got ((lstOf (.ref l) h).bind boolL) h).bind (fun bs h => Out.ok (Val.bl (bs.all id)) h) = _
  rw [hl]
  show (got (boolL (bs.map .bl)) h).bind (fun bs h => Out.ok (Val.bl (bs.all id)) h) = _
  rw [e]; rfl
theorem lstOf_new (h : VH) (vs : List Val) : lstOf (.ref h.length) (h ++ [.lst vs]) = some vs := by
  show (match (h ++ [VObj.lst vs])[h.length]? with
    | some (.lst vs) => some vs
    | some (.frz vs) => some vs
    | _ => none) = _
  rw [List.getElem?_concat_length]
theorem ev_all_new (bs : List Bool) (h : VH) : bAll [.ref h.length] (h ++ [.lst (bs.map .bl)]) = .ok (.bl (bs.all id)) (h ++ [.lst (bs.map .bl)]) := ev_all bs _ _ (lstOf_new h _)
theorem in_letters (n : Nat) (h : VH) : opIn (.str ⟨#[n]⟩) (.str "abcdefghijklmnopqrstuvwxyz") h = .ok (.bl (decide (n ∈ LETT))) h := by
  show (got (if (⟨#[n]⟩ : Str).cps.size = 1 then some (decide ((⟨#[n]⟩ : Str).cps.getD 0 0 ∈ LETT)) else none) h).bind (fun k h => Out.ok (Val.bl k) h) = _
  rw [if_pos (show (⟨#[n]⟩ : Str).cps.size = 1 from rfl)]; rfl
theorem decide_and_iff (p q : Prop) [Decidable p] [Decidable q] : (if p then decide q else false) = decide (p ∧ q) := by by_cases p <;> simp_all
theorem sp_is_name {T : Tab} (t : Ok_is_name T) (k : Nat) (v : Val) (h : VH) {y : String} (hy : tyN v h = some y) : ∃ h', callN T (k + 1) none 8 [v] [] h = .ok (.bl (isName v)) h' ∧ h <+: h' := by
  rw [call_is_name t]
  cases v with
  | str x =>
    have ee : ∀ l : List Nat, (l.map fun n => decide (n ∈ LETT)).all id = l.all fun n => decide (n ∈ LETT) := fun l => by rw [List.all_map]; rfl
    by_cases hl : 1 ≤ x.length ∧ x.length ≤ 6
    · obtain ⟨h', e, p⟩ := lcL_map (w := []) (g := gName 1) (e := C1_is_name) (c := ⟨callN T k, none⟩) (rho := [some (.str x), none]) (fun h' => h <+: h') lowV (fun _ _ => rfl) (charsOf x) h (List.prefix_refl _) (fun v hv h1 p1 => by
          obtain ⟨n, hn, rfl⟩ := List.mem_map.mp hv
          refine ⟨_, _, h1, by simp only [ev]; rfl, ?_, p1⟩
          simp only [ev, C1_is_name, in_letters]; rfl)
      rw [lowV_chars] at e
      have e3 : (x.cps.toList.map fun n => Val.bl (decide (n ∈ LETT))) = (x.cps.toList.map fun n => decide (n ∈ LETT)).map .bl := by rw [List.map_map]; rfl
      rw [e3] at e
      refine ⟨h' ++ [.lst ((x.cps.toList.map fun n => decide (n ∈ LETT)).map .bl)], ?_, p.trans (List.prefix_append _ _)⟩
      have h1 : (1 : Int) ≤ (x.length : Nat) := by omega
      have h2 : ((x.length : Nat) : Int) ≤ 6 := by omega
      have h3 : (charsOf x).length ≤ LIM := by
        have : (charsOf x).length = x.length := by simp [charsOf, Str.length]
        rw [this]; unfold LIM; omega
      simp only [ev, D_is_name, isTy, h1, h2, decide_true, beq_self_eq_true, Bool.true_or, Bool.not_true, h3, wipeE, List.set_cons_succ, List.set_cons_zero, e, ev_all_new, ee]
      simp only [isName, isLow, hl.1, hl.2, decide_true, Bool.true_and]
      rfl
    · refine ⟨h, ?_, List.prefix_refl _⟩
      have e0 : isName (.str x) = false := by
        simp only [isName]
        rcases Nat.lt_or_ge x.length 1 with a | a
        · simp [Nat.not_le.mpr a]
        · have : ¬ x.length ≤ 6 := fun b => hl ⟨a, b⟩
          simp [this]
      rw [e0]
      have e1 : ((if (1 : Int) ≤ (x.length : Nat) then decide (((x.length : Nat) : Int) ≤ 6) else false)) = false := by
        rw [decide_and_iff]
        simp only [decide_eq_false_iff_not]
        omega
      simp only [ev, D_is_name, isTy, beq_self_eq_true, Bool.true_or, Bool.not_true, decide_eq_true_eq, ite_ok, ite_bl, e1, Bool.not_false]
  | ref l =>
    refine ⟨h, ?_, List.prefix_refl _⟩
    have : isTy y "str" = false := by
      have hy' : (match h[l]? with
        | some (.lst _) => some "list"
        | some (.frz _) => some "list"
        | some (.dct _ _) => some "dict"
        | _ => none) = some y := hy
      split at hy' <;> first | (cases hy'; simp [isTy]) | cases hy'
    simp only [ev, D_is_name, hy, this, Bool.not_false, isName]
  | glo x => cases hy
  | _ =>
    refine ⟨h, ?_, List.prefix_refl _⟩
    simp [ev, D_is_name, isTy, isName]
/-! things as a whole: each place in tuples has a type -/
mutual
def kd (h : VH) : Val → Bool
  | .tup vs => kds h vs
  | .non => true
  | .bl _ => true
  | .int _ => true
  | .str _ => true
  | .ref l => (tyN (.ref l) h).isSome
  | .glo _ => false
def kds (h : VH) : List Val → Bool
  | [] => true
  | v :: vs => kd h v && kds h vs
end
theorem kds_all {h : VH} : ∀ {vs : List Val}, kds h vs = true → ∀ v ∈ vs, kd h v = true
  | [], _, v, hv => by cases hv
  | a :: r, e, v, hv => by
    unfold kds at e
    rw [Bool.and_eq_true] at e
    rcases List.mem_cons.mp hv with rfl | hv
    · exact e.1
    · exact kds_all e.2 v hv
theorem kds_of {h : VH} : ∀ {vs : List Val}, (∀ v ∈ vs, kd h v = true) → kds h vs = true
  | [], _ => rfl
  | a :: r, e => by
    unfold kds
    rw [e a List.mem_cons_self, kds_of fun v hv => e v (List.mem_cons_of_mem _ hv)]
    rfl
theorem kd_ty {h : VH} {v : Val} (e : kd h v = true) : ∃ y, tyN v h = some y := by
  cases v with
  | ref l =>
    unfold kd at e
    exact Option.isSome_iff_exists.mp e
  | glo x => unfold kd at e; cases e
  | _ => exact ⟨_, rfl⟩
theorem tyN_grow {h h' : VH} (g : h <+: h') {v : Val} {y : String} (e : tyN v h = some y) : tyN v h' = some y := by
  cases v with
  | ref l =>
    obtain ⟨t, rfl⟩ := g
    have e' : (match h[l]? with
      | some (.lst _) => some "list"
      | some (.frz _) => some "list"
      | some (.dct _ _) => some "dict"
      | _ => none) = some y := e
    show (match (h ++ t)[l]? with
      | some (.lst _) => some "list"
      | some (.frz _) => some "list"
      | some (.dct _ _) => some "dict"
      | _ => none) = some y
    by_cases hl : l < h.length
    · rw [List.getElem?_append_left hl]; exact e'
    · rw [List.getElem?_eq_none (by omega)] at e'; cases e'
  | _ => exact e
mutual
theorem kd_grow {h h' : VH} (g : h <+: h') : ∀ v : Val, kd h v = true → kd h' v = true
  | .tup vs, e => by unfold kd at e ⊢; exact kds_grow g vs e
  | .non, _ => rfl
  | .bl _, _ => rfl
  | .int _, _ => rfl
  | .str _, _ => rfl
  | .ref l, e => by
    unfold kd at e ⊢
    obtain ⟨y, hy⟩ := Option.isSome_iff_exists.mp e
    rw [tyN_grow g hy]; rfl
  | .glo _, e => by unfold kd at e; cases e
theorem kds_grow {h h' : VH} (g : h <+: h') : ∀ vs : List Val, kds h vs = true → kds h' vs = true
  | [], _ => rfl
  | v :: vs, e => by
    unfold kds at e ⊢
    rw [Bool.and_eq_true] at e ⊢
    exact ⟨kd_grow g v e.1, kds_grow g vs e.2⟩
end
theorem ty_not {v : Val} {h : VH} {y : String} (T : String) (hy : tyN v h = some y) (hn : y ≠ T) (hi : T ≠ "int") : isTy y T = false := by
  simp [isTy, hn, hi]
theorem ty_tup {v : Val} {h : VH} {y : String} (hy : tyN v h = some y) (hn : ∀ vs, v ≠ .tup vs) : isTy y "tuple" = false := by
  cases v with
  | tup vs => exact absurd rfl (hn vs)
  | ref l =>
    have hy' : (match h[l]? with
      | some (.lst _) => some "list"
      | some (.frz _) => some "list"
      | some (.dct _ _) => some "dict"
      | _ => none) = some y := hy
    split at hy' <;> first | (cases hy'; simp [isTy]) | cases hy'
  | glo x => cases hy
  | _ => cases hy; simp [isTy]
def isSign : Val → Bool
  | .tup [a, b] => isName a && within b 0 3
  | _ => false
theorem atI_nat {α : Type} (xs : List α) (n : Nat) : L2.atI xs (n : Int) = xs[n]? := by
  show (L2.ixN xs.length (n : Int)).bind (fun j => xs[j]?) = _
  unfold L2.ixN
  by_cases h : n < xs.length
  · rw [if_pos (by omega), if_pos (by omega)]; simp
  · rw [if_pos (by omega), if_neg (by omega), List.getElem?_eq_none (by omega)]; rfl
theorem atI_0 {α : Type} (a : α) (r : List α) : L2.atI (a :: r) 0 = some a := (atI_nat (a :: r) 0).trans rfl
theorem atI_1 {α : Type} (a b : α) (r : List α) : L2.atI (a :: b :: r) 1 = some b := (atI_nat (a :: b :: r) 1).trans rfl
theorem ne_int (i j : Int) (h : VH) : opNe (.int i) (.int j) h = .ok (.bl (!decide (i = j))) h := by
  show Out.ok (Val.bl (!(i == j))) h = _
  have e : (i == j) = decide (i = j) := by by_cases e : i = j <;> simp [e]
  rw [e]
theorem eq_int (i j : Int) (h : VH) : opEq (.int i) (.int j) h = .ok (.bl (decide (i = j))) h := by
  show Out.ok (Val.bl (i == j)) h = _
  have e : (i == j) = decide (i = j) := by by_cases e : i = j <;> simp [e]
  rw [e]
theorem sp_is_sign {T : Tab} (t : Ok_is_sign T) (k : Nat) (v : Val) (h : VH) (hv : kd h v = true) : ∃ h', callN T (k + 3) none 9 [v] [] h = .ok (.bl (isSign v)) h' ∧ h <+: h' := by
  rw [call_is_sign t]
  obtain ⟨y, hy⟩ := kd_ty hv
  cases v with
  | tup vs =>
    by_cases hl : vs.length = 2
    · match vs, hl with
      | [a, b], _ =>
        unfold kd at hv
        have ha := kds_all hv a (by simp)
        have hb := kds_all hv b (by simp)
        obtain ⟨ya, hya⟩ := kd_ty ha
        obtain ⟨h1, e1, g1⟩ := sp_is_name t.is_name (k + 1) a h hya
        obtain ⟨yb, hyb⟩ := kd_ty (kd_grow g1 b hb)
        refine ⟨h1, ?_, g1⟩
        have l2 : decide (((([a, b] : List Val).length : Nat) : Int) = 2) = true := rfl
        simp only [ev, D_is_sign, isTy, l2, ne_int, atI_0, atI_1, e1, sp_is_within t.is_within k none b 0 3 h1 hyb, isSign, decide_true, beq_self_eq_true, Bool.true_or, Bool.not_true, Int.reduceEq, ite_ok, ite_bl]
        cases isName a <;> rfl
    · refine ⟨h, ?_, List.prefix_refl _⟩
      have e0 : isSign (.tup vs) = false := by
        unfold isSign
        split
        · rename_i e; cases e; exact absurd rfl hl
        · rfl
      have e1 : decide (((vs.length : Nat) : Int) = 2) = false := by simp; omega
      simp only [ev, D_is_sign, isTy, ne_int, beq_self_eq_true, Bool.true_or, Bool.not_true, e0, e1, Bool.not_false]
  | _ =>
    refine ⟨h, ?_, List.prefix_refl _⟩
    have e := ty_tup hy (by intro vs e; cases e)
    simp only [ev, D_is_sign, hy, e, Bool.not_false, isSign]
end Pv
end
/-! PlSg -/
section
set_option Elab.async false
set_option linter.all false
set_option maxRecDepth 100000
set_option autoImplicit false
/-! Pl: signs as a whole. -/
namespace Pv
open PySem PySem.Spec PyProof.Rows L2
abbrev Sg := List (Str × Nat)
def sgV (p : Str × Nat) : Val := .tup [.str p.1, .int (p.2 : Nat)]
def eSg (s : Sg) : Val := .tup (s.map sgV)
def okName (x : Str) : Prop := 1 ≤ x.length ∧ x.length ≤ 6 ∧ isLow x = true
structure GoodSg (s : Sg) : Prop where
  one : 1 ≤ s.length
  most : s.length ≤ 8
  name : ∀ p ∈ s, okName p.1
  parts : ∀ p ∈ s, p.2 ≤ 3
  nodup : (s.map (·.1)).Nodup
  zero : ∃ p ∈ s, p.2 = 0
theorem isName_iff (v : Val) : isName v = true ↔ ∃ x, v = .str x ∧ okName x := by
  cases v with
  | str x =>
    simp only [isName, okName, Bool.and_eq_true, decide_eq_true_eq]
    constructor
    · rintro ⟨⟨a, b⟩, c⟩; exact ⟨x, rfl, a, b, c⟩
    · rintro ⟨_, e, a, b, c⟩; cases e; exact ⟨⟨a, b⟩, c⟩
  | _ => simp [isName]
theorem within_iff (v : Val) (lo hi : Int) : within v lo hi = true ↔ ∃ i, v = .int i ∧ lo ≤ i ∧ i ≤ hi := by
  cases v with
  | int i => simp [within]
  | _ => simp [within]
theorem isSign_iff (v : Val) : isSign v = true ↔ ∃ p : Str × Nat, v = sgV p ∧ okName p.1 ∧ p.2 ≤ 3 := by
  constructor
  · intro e
    unfold isSign at e
    split at e
    · rename_i a b
      rw [Bool.and_eq_true, isName_iff, within_iff] at e
      obtain ⟨⟨x, rfl, hx⟩, i, rfl, h1, h2⟩ := e
      refine ⟨(x, i.toNat), ?_, hx, by simp only; omega⟩
      unfold sgV
      simp only [Val.tup.injEq, List.cons.injEq, Val.int.injEq, and_true, true_and]
      omega
    · cases e
  · rintro ⟨p, rfl, h1, h2⟩
    unfold sgV isSign
    rw [Bool.and_eq_true, isName_iff, within_iff]
    exact ⟨⟨p.1, rfl, h1⟩, _, rfl, by omega, by omega⟩
theorem all_sign : ∀ vs : List Val, vs.all isSign = true ↔ ∃ s : Sg, vs = s.map sgV ∧ (∀ p ∈ s, okName p.1) ∧ ∀ p ∈ s, p.2 ≤ 3
  | [] => by simp
  | v :: vs => by
    rw [List.all_cons, Bool.and_eq_true, isSign_iff, all_sign vs]
    constructor
    · rintro ⟨⟨p, rfl, h1, h2⟩, s, rfl, h3, h4⟩
      refine ⟨p :: s, rfl, fun q hq => ?_, fun q hq => ?_⟩
      · rcases List.mem_cons.mp hq with rfl | hq
        · exact h1
        · exact h3 q hq
      · rcases List.mem_cons.mp hq with rfl | hq
        · exact h2
        · exact h4 q hq
    · rintro ⟨s, e, h3, h4⟩
      cases s with
      | nil => cases e
      | cons p s =>
        cases e
        exact ⟨⟨p, rfl, h3 p (by simp), h4 p (by simp)⟩, s, rfl, fun q hq => h3 q (by simp [hq]), fun q hq => h4 q (by simp [hq])⟩
/-! keys without twins -/
theorem addsK_sub : ∀ (ks acc : List Key), (addsK acc ks).length ≤ acc.length + ks.length
  | [], acc => Nat.le_refl _
  | k :: r, acc => by
    unfold addsK
    split
    · refine Nat.le_trans (addsK_sub r acc) ?_; simp
    · refine Nat.le_trans (addsK_sub r _) ?_; simp; omega
theorem addsK_len : ∀ (ks acc : List Key), acc.Nodup → ((addsK acc ks).length = acc.length + ks.length ↔ ks.Nodup ∧ ∀ k ∈ ks, k ∉ acc)
  | [], acc, _ => by simp [addsK]
  | k :: r, acc, ha => by
    unfold addsK
    by_cases hk : k ∈ acc
    · rw [if_pos hk]
      constructor
      · intro e
        have := addsK_sub r acc
        simp only [List.length_cons] at e
        omega
      · rintro ⟨_, h⟩
        exact absurd hk (h k List.mem_cons_self)
    · rw [if_neg hk]
      have hn : (acc ++ [k]).Nodup := by
        rw [List.nodup_append]
        refine ⟨ha, by simp, fun a h1 b h2 => ?_⟩
        rw [List.mem_singleton] at h2
        subst h2
        exact fun e => hk (e ▸ h1)
      have ih := addsK_len r (acc ++ [k]) hn
      have e1 : (addsK (acc ++ [k]) r).length = acc.length + (k :: r).length ↔ (addsK (acc ++ [k]) r).length = (acc ++ [k]).length + r.length := by
        simp only [List.length_append, List.length_cons, List.length_nil]; omega
      rw [e1, ih, List.nodup_cons]
      constructor
      · rintro ⟨h1, h2⟩
        refine ⟨⟨fun hm => h2 k hm (by simp), h1⟩, fun j hj => ?_⟩
        rcases List.mem_cons.mp hj with rfl | hj
        · exact hk
        · intro hja; exact h2 j hj (by simp [hja])
      · rintro ⟨⟨h1, h2⟩, h3⟩
        refine ⟨h2, fun j hj hm => ?_⟩
        rcases List.mem_append.mp hm with hm | hm
        · exact h3 j (by simp [hj]) hm
        · rw [List.mem_singleton] at hm
          subst hm
          exact h1 hj
theorem keysL_str : ∀ xs : List Str, keysL (xs.map .str) = some (xs.map .inr)
  | [] => rfl
  | x :: xs => by
    show (match leafKey (.str x), keysL (xs.map .str) with
      | some k, some ks => some (k :: ks)
      | _, _ => none) = _
    rw [keysL_str xs]; rfl
theorem addsK_strs (xs : List Str) : (addsK [] (xs.map .inr)).length = xs.length ↔ xs.Nodup := by
  have := addsK_len (xs.map .inr) [] List.nodup_nil
  simp only [List.length_nil, Nat.zero_add, List.length_map] at this
  rw [this]
  constructor
  · intro h
    have h1 := h.1
    rw [List.nodup_iff_pairwise_ne, List.pairwise_map] at h1
    rw [List.nodup_iff_pairwise_ne]
    exact h1.imp fun a b => a (congrArg Sum.inr b)
  · intro h
    refine ⟨?_, fun _ _ h => by cases h⟩
    rw [List.nodup_iff_pairwise_ne] at h ⊢
    rw [List.pairwise_map]
    exact h.imp fun a b => a (Sum.inr.inj b)
/-! in -/
theorem mapM_int (h : VH) : ∀ ns : List Int, (ns.map Val.int).mapM (toD DEEP h) = some (ns.map PyData.int)
  | [] => rfl
  | n :: ns => by
    rw [List.map_cons, List.mapM_cons, mapM_int h ns]; rfl
theorem any_int (i : Int) : ∀ ns : List Int, ((ns.map PyData.int).any fun z => PyData.eqv z (.int i)) = decide (i ∈ ns)
  | [] => rfl
  | n :: ns => by
    rw [List.map_cons, List.any_cons, any_int i ns]
    show ((n == i) || decide (i ∈ ns)) = _
    rw [Bool.eq_iff_iff]
    simp only [Bool.or_eq_true, beq_iff_eq, decide_eq_true_eq, List.mem_cons]
    constructor
    · rintro (h | h)
      · exact .inl h.symm
      · exact .inr h
    · rintro (h | h)
      · exact .inl h.symm
      · exact .inr h
theorem in_ints {i : Int} {l : Nat} {ns : List Int} {h : VH} (e : h[l]? = some (.lst (ns.map .int))) : opIn (.int i) (.ref l) h = .ok (.bl (decide (i ∈ ns))) h := by
  show (got (match h[l]? with
    | some (.lst vs) => (match toD DEEP h (.int i), vs.mapM (toD DEEP h) with
      | some d, some ds => some (ds.any fun z => PyData.eqv z d)
      | _, _ => none)
    | _ => none) h).bind (fun k h => Out.ok (Val.bl k) h) = _
  rw [e]
  show (got (match some (PyData.int i), (ns.map Val.int).mapM (toD DEEP h) with
      | some d, some ds => some (ds.any fun z => PyData.eqv z d)
      | _, _ => none) h).bind (fun k h => Out.ok (Val.bl k) h) = _
  rw [mapM_int]
  show Out.ok (Val.bl ((ns.map PyData.int).any fun z => PyData.eqv z (.int i))) h = _
  rw [any_int]
/-! are_signs -/
theorem ev_all_new2 {α : Type} (f : α → Bool) (vs : List α) (h : VH) : bAll [.ref h.length] (h ++ [.lst (vs.map fun v => .bl (f v))]) = .ok (.bl (vs.all f)) (h ++ [.lst (vs.map fun v => .bl (f v))]) := by
  have e : (vs.map fun v => Val.bl (f v)) = (vs.map f).map .bl := by rw [List.map_map]; rfl
  rw [e, ev_all_new, List.all_map]; rfl
def areSg (v : Val) : Prop := ∃ s, GoodSg s ∧ v = eSg s
theorem eSg_inj {s t : Sg} (e : s.map sgV = t.map sgV) : s = t := by
  induction s generalizing t with
  | nil => cases t with
    | nil => rfl
    | cons p t => cases e
  | cons p s ih =>
    cases t with
    | nil => cases e
    | cons q t =>
      simp only [List.map_cons, List.cons.injEq, sgV, Val.tup.injEq, Val.str.injEq, Val.int.injEq, and_true] at e
      obtain ⟨⟨e1, e2⟩, e3⟩ := e
      obtain ⟨a, b⟩ := p
      obtain ⟨c, d⟩ := q
      simp only at e1 e2
      rw [ih e3, e1, Int.ofNat_inj.mp e2]
theorem sp_are_signs {T : Tab} (t : Ok_are_signs T) (k : Nat) (v : Val) (h : VH) (hv : kd h v = true) : ∃ b h', callN T (k + 4) none 10 [v] [] h = .ok (.bl b) h' ∧ h <+: h' ∧ (b = true ↔ areSg v) := by
  rw [call_are_signs t]
  obtain ⟨y, hy⟩ := kd_ty hv
  cases v with
  | tup vs =>
    unfold kd at hv
    by_cases hl : 1 ≤ vs.length ∧ vs.length ≤ 8
    · have h1 : (1 : Int) ≤ (vs.length : Nat) := by omega
      have h2 : ((vs.length : Nat) : Int) ≤ 8 := by omega
      have h3 : vs.length ≤ LIM := by unfold LIM; omega
      obtain ⟨ha, e1, g1⟩ := lcL_map (w := []) (g := gName 1) (e := eCall 9 (aCons (eV 1) aNil) [] aNil) (c := ⟨callN T (k + 3), none⟩) (rho := [some (.tup vs), none, none, none]) (fun h' => h <+: h') (fun v => .bl (isSign v)) (fun _ _ => rfl) vs h (List.prefix_refl _) (fun v hv' h1 p1 => by
          obtain ⟨h2, e2, p2⟩ := sp_is_sign t.is_sign k v h1 (kd_grow p1 v (kds_all hv v hv'))
          exact ⟨_, h1, h2, by simp only [ev]; rfl, by simp only [ev, e2], p1.trans p2⟩)
      cases ea : vs.all isSign with
      | false =>
        refine ⟨false, ha ++ [.lst (vs.map fun v => .bl (isSign v))], ?_, g1.trans (List.prefix_append _ _), ?_⟩
        · simp only [ev, D_are_signs, isTy, h1, h2, decide_true, beq_self_eq_true, Bool.true_or, Bool.not_true, h3, wipeE, List.set_cons_succ, List.set_cons_zero, e1, ev_all_new2, ea, Bool.not_false]
        · simp only [Bool.false_eq_true, false_iff]
          rintro ⟨s, g, e⟩
          cases e
          rw [(all_sign _).mpr ⟨s, rfl, g.name, g.parts⟩] at ea
          cases ea
      | true =>
        obtain ⟨s, rfl, n1, n2⟩ := (all_sign vs).mp ea
        have hh : h <+: ha ++ [.lst ((s.map sgV).map fun v => .bl (isSign v))] := g1.trans (List.prefix_append _ _)
        obtain ⟨hb, e2, g2⟩ := lcL_map (w := []) (g := gTup 2 (gCons (gName 2) (gCons (gName 3) gNil))) (e := eV 2) (c := ⟨callN T (k + 3), none⟩) (rho := [some (.tup (s.map sgV)), none, none, none]) (fun h' => ha ++ [.lst ((s.map sgV).map fun v => .bl (isSign v))] <+: h') (fun v => match v with
          | .tup [a, _] => a
          | _ => .non) (fun _ _ => rfl) (s.map sgV) _ (List.prefix_refl _) (fun v hv' h1 p1 => by
          obtain ⟨p, _, rfl⟩ := List.mem_map.mp hv'
          exact ⟨_, h1, h1, by simp only [ev, sgV, List.length_cons, List.length_nil]; rfl, by simp only [ev, sgV], p1⟩)
        have m2 : (s.map sgV).map (fun v => match v with
          | .tup [a, _] => a
          | _ => Val.non) = (s.map (·.1)).map .str := by rw [List.map_map, List.map_map]; rfl
        rw [m2] at e2
        obtain ⟨hc, e3, g3⟩ := lcL_map (w := []) (g := gTup 2 (gCons (gName 2) (gCons (gName 3) gNil))) (e := eV 3) (c := ⟨callN T (k + 3), none⟩) (rho := [some (.tup (s.map sgV)), none, none, none]) (fun h' => hb <+: h') (fun v => match v with
          | .tup [_, a] => a
          | _ => .non) (fun _ _ => rfl) (s.map sgV) _ (List.prefix_refl _) (fun v hv' h1 p1 => by
          obtain ⟨p, _, rfl⟩ := List.mem_map.mp hv'
          exact ⟨_, h1, h1, by simp only [ev, sgV, List.length_cons, List.length_nil]; rfl, by simp only [ev, sgV], p1⟩)
        have m3 : (s.map sgV).map (fun v => match v with
          | .tup [_, a] => a
          | _ => Val.non) = (s.map fun p => (p.2 : Int)).map .int := by rw [List.map_map, List.map_map]; rfl
        rw [m3] at e3
        have l4 : (s.map sgV).length ≤ 4000 := by omega
        have l5 : s.length ≤ 4000 := by simpa using l4
        have l6 : s.length ≤ LIM := by simpa using h3
        have i3 : opIn (.int 0) (.ref hc.length) (hc ++ [.lst ((s.map fun p => (p.2 : Int)).map .int)]) = _ := in_ints (by rw [List.getElem?_concat_length])
        by_cases nd : (s.map (·.1)).Nodup
        · have e4 := (addsK_strs (s.map (·.1))).mpr nd
          have e5 : decide ((((addsK [] ((s.map (·.1)).map .inr)).length : Nat) : Int) = (((s.map sgV).length : Nat) : Int)) = true := by
            rw [e4]; simp
          refine ⟨decide (0 ∈ s.map fun p => (p.2 : Int)), hc ++ [.lst ((s.map fun p => (p.2 : Int)).map .int)], ?_, ((hh.trans g2).trans g3).trans (List.prefix_append _ _), ?_⟩
          · simp only [ev, D_are_signs, isTy, h1, h2, decide_true, beq_self_eq_true, Bool.true_or, Bool.not_true, h3, wipeE, List.set_cons_succ, List.set_cons_zero, e1, ev_all_new2, ea, Bool.not_false, l4, e2, keysL_str, eq_int, e5, e3, i3]
          · rw [decide_eq_true_iff]
            constructor
            · intro hz
              obtain ⟨p, hp, e⟩ := List.mem_map.mp hz
              exact ⟨s, ⟨by simpa using hl.1, by simpa using hl.2, n1, n2, nd, p, hp, by omega⟩, rfl⟩
            · rintro ⟨s', g, e⟩
              unfold eSg at e
              cases eSg_inj (Val.tup.inj e)
              obtain ⟨p, hp, e⟩ := g.zero
              exact List.mem_map.mpr ⟨p, hp, by omega⟩
        · have e5 : decide ((((addsK [] ((s.map (·.1)).map .inr)).length : Nat) : Int) = (((s.map sgV).length : Nat) : Int)) = false := by
            rw [decide_eq_false_iff_not]
            intro e
            apply nd
            rw [← addsK_strs]
            simp only [List.length_map] at e ⊢
            omega
          refine ⟨false, hb, ?_, hh.trans g2, ?_⟩
          · simp only [ev, D_are_signs, isTy, h1, h2, decide_true, beq_self_eq_true, Bool.true_or, Bool.not_true, h3, wipeE, List.set_cons_succ, List.set_cons_zero, e1, ev_all_new2, ea, Bool.not_false, l4, e2, keysL_str, eq_int, e5]
          · simp only [Bool.false_eq_true, false_iff]
            rintro ⟨s', g, e⟩
            unfold eSg at e
            cases eSg_inj (Val.tup.inj e)
            exact nd g.nodup
    · refine ⟨false, h, ?_, List.prefix_refl _, ?_⟩
      · have e1 : (if (1 : Int) ≤ (vs.length : Nat) then decide (((vs.length : Nat) : Int) ≤ 8) else false) = false := by
          rw [decide_and_iff]
          simp only [decide_eq_false_iff_not]
          omega
        simp only [ev, D_are_signs, isTy, beq_self_eq_true, Bool.true_or, Bool.not_true, decide_eq_true_eq, ite_ok, ite_bl, e1, Bool.not_false]
      · simp only [Bool.false_eq_true, false_iff]
        rintro ⟨s, g, e⟩
        cases e
        rw [List.length_map] at hl
        exact hl ⟨g.one, g.most⟩
  | _ =>
    refine ⟨false, h, ?_, List.prefix_refl _, ?_⟩
    · have e := ty_tup hy (by intro vs e; cases e)
      simp only [ev, D_are_signs, hy, e, Bool.not_false]
    · simp only [Bool.false_eq_true, false_iff]
      rintro ⟨s, g, e⟩
      cases e
theorem kd_eSg (h : VH) (s : Sg) : kd h (eSg s) = true := by
  unfold eSg kd
  refine kds_of fun v hv => ?_
  obtain ⟨p, _, rfl⟩ := List.mem_map.mp hv
  rfl
theorem sp_need_signs {T : Tab} (t : Ok_need_signs T) (k : Nat) {s : Sg} (g : GoodSg s) (h : VH) : ∃ h', callN T (k + 5) none 11 [eSg s] [] h = .ok .non h' ∧ h <+: h' := by
  rw [call_need_signs t]
  obtain ⟨b, h', e, p, hb⟩ := sp_are_signs t.are_signs k (eSg s) h (kd_eSg h s)
  have : b = true := hb.mpr ⟨s, g, rfl⟩
  subst this
  exact ⟨h', by simp only [ev, D_need_signs, e, Bool.not_true], p⟩
theorem sp_need_signs_no {T : Tab} (t : Ok_need_signs T) (k : Nat) {v : Val} {h : VH} (hv : kd h v = true) (g : ¬ areSg v) : ∃ h', callN T (k + 5) none 11 [v] [] h = .er "NoSigns" [] h' ∧ h <+: h' := by
  rw [call_need_signs t]
  obtain ⟨b, h', e, p, hb⟩ := sp_are_signs t.are_signs k v h hv
  cases b with
  | true => exact absurd (hb.mp rfl) g
  | false => exact ⟨h', by simp only [ev, D_need_signs, e, Bool.not_false], p⟩
end Pv
end
/-! PlRow -/
section
set_option Elab.async false
set_option linter.all false
set_option maxRecDepth 100000
set_option autoImplicit false
/-! Pl: rows of terms. -/
namespace Pv
open PySem PySem.Spec PyProof.Rows L2
theorem rangeL_nil {lo hi : Int} (h : hi ≤ lo) : rangeL lo hi = [] := by
  unfold rangeL
  have : (hi - lo).toNat = 0 := by omega
  rw [this]; rfl
theorem rangeL_cons {lo hi : Int} (h : lo < hi) : rangeL lo hi = .int lo :: rangeL (lo + 1) hi := by
  unfold rangeL
  have : (hi - lo).toNat = (hi - (lo + 1)).toNat + 1 := by omega
  rw [this, List.range_succ_eq_map, List.map_cons, List.map_map]
  congr 1
  · simp
  · apply List.map_congr_left
    intro a _
    simp only [Function.comp]
    congr 1
    omega
theorem rangeL_nat (n : Nat) : rangeL 0 (n : Nat) = (List.range n).map fun (i : Nat) => .int (i : Nat) := by
  unfold rangeL
  simp
/-- what a sign's number in a row asks for -/
def parV (s : Sg) : Val → Option Nat
  | .int i => if 0 ≤ i then (s[i.toNat]?).map (·.2) else none
  | _ => none
/-- how many places so many terms take -/
def skpV (s : Sg) : List Val → Nat → Option Nat
  | _, 0 => some 0
  | [], _ + 1 => none
  | v :: r, w + 1 => match parV s v with
    | some p => (skpV s r (w + p)).map (· + 1)
    | none => none
theorem parV_within {s : Sg} (hs : 1 ≤ s.length) (v : Val) : (parV s v).isSome = within v 0 ((s.length : Nat) - 1) := by
  cases v with
  | int i =>
    simp only [parV, within]
    by_cases h0 : 0 ≤ i
    · rw [if_pos h0]
      by_cases h1 : i.toNat < s.length
      · rw [List.getElem?_eq_getElem h1]
        have : i ≤ (s.length : Nat) - 1 := by omega
        simp [h0, this]
      · rw [List.getElem?_eq_none (by omega)]
        have : ¬ i ≤ (s.length : Nat) - 1 := by omega
        simp [h0, this]
    · rw [if_neg h0]; simp [h0]
  | _ => rfl
theorem parV_some {s : Sg} {v : Val} {p : Nat} (e : parV s v = some p) : ∃ (n : Nat) (x : Str), v = .int (n : Nat) ∧ s[n]? = some (x, p) := by
  cases v with
  | int i =>
    simp only [parV] at e
    by_cases h0 : 0 ≤ i
    · rw [if_pos h0] at e
      obtain ⟨q, h1, h2⟩ := Option.map_eq_some_iff.mp e
      refine ⟨i.toNat, q.1, by congr 1; omega, ?_⟩
      rw [h1, ← h2]
    · rw [if_neg h0] at e; cases e
  | _ => cases e
theorem atI_sg {s : Sg} {n p : Nat} {x : Str} (e : s[n]? = some (x, p)) : atI (s.map sgV) (n : Nat) = some (.tup [.str x, .int (p : Nat)]) := by
  rw [atI_nat, List.getElem?_map, e]; rfl
section
variable {T : Tab} (t : Ok_end_of T) (k : Nat) {s : Sg} (hs : 1 ≤ s.length) {vs : List Val} {h : VH} (hv : kds h vs = true)
include t hs hv
theorem end_loop (st : Option Val) : ∀ (r : List Val) (p w : Nat) (x : Option Val), vs.drop p = r →
    ((forL [] (gName 4) L1_end_of ⟨callN T (k + 2), none⟩ (rangeL (p : Nat) (vs.length : Nat)) [some (eSg s), some (.tup vs), st, some (.int (w + 1 : Nat)), x] h).seq fun _ h => .rt (.int (-1)) h) =
      .rt (.int (match skpV s r (w + 1) with
        | some c => ((p + c : Nat) : Int)
        | none => -1)) h
  | [], p, w, x, e => by
    have : vs.length ≤ p := by
      have := congrArg List.length e
      rw [List.length_drop] at this
      simp at this
      omega
    rw [rangeL_nil (by omega), forL_nil _ _ _ _ _ _ rfl]
    rfl
  | v :: r, p, w, x, e => by
    have hp : p < vs.length := by
      have := congrArg List.length e
      rw [List.length_drop] at this
      simp at this
      omega
    have e2 : vs.drop (p + 1) = r := by
      rw [← List.drop_drop, e]; rfl
    have ev0 : vs[p]? = some v := by
      have := congrArg (fun l => l[0]?) e
      simpa using this
    have hvk : kd h v = true := kds_all hv v (List.mem_of_getElem? ev0)
    obtain ⟨y, hy⟩ := kd_ty hvk
    have ix : atI vs (p : Nat) = some v := (atI_nat _ _).trans ev0
    have wi := sp_is_within t.is_within k none v 0 (((eSg s :: []).length : Nat) - 1) h hy
    rw [rangeL_cons (by omega)]
    have ln : ((List.map sgV s).length : Nat) = s.length := List.length_map _
    cases hq : parV s v with
    | none =>
      have e3 : within v 0 ((s.length : Nat) - 1) = false := by rw [← parV_within hs, hq]; rfl
      have wi := sp_is_within t.is_within k none v 0 ((s.length : Nat) - 1) h hy
      rw [e3] at wi
      rw [forL_rt (rho1 := [some (eSg s), some (.tup vs), st, some (.int (w + 1 : Nat)), some (.int (p : Nat))]) (h1 := h) (h2 := h) (u := .int (-1)) rfl (by simp only [ev]) (by
        simp only [ev, L1_end_of, eSg, ix, ln, wi, Bool.not_false])]
      simp only [skpV, hq]
      rfl
    | some q =>
      obtain ⟨n, y, rfl, hn⟩ := parV_some hq
      have e3 : within (.int (n : Nat)) 0 ((s.length : Nat) - 1) = true := by rw [← parV_within hs, hq]; rfl
      have wi := sp_is_within t.is_within k none (.int (n : Nat)) 0 ((s.length : Nat) - 1) h hy
      rw [e3] at wi
      have go : ∀ b : Bool, decide (((w + 1 : Nat) : Int) + ((q : Nat) - 1) = 0) = b → L1_end_of ⟨callN T (k + 2), none⟩ [some (eSg s), some (.tup vs), st, some (.int (w + 1 : Nat)), some (.int (p : Nat))] h = if b = true then .rt (.int ((p : Nat) + 1)) h else .nx [some (eSg s), some (.tup vs), st, some (.int (((w + 1 : Nat) : Int) + ((q : Nat) - 1))), some (.int (p : Nat))] h := fun b hb => by
        cases b <;> simp only [ev, L1_end_of, eSg, ix, ln, wi, Bool.not_true, atI_sg hn, atI_1, eq_int, hb]
      by_cases hz : w + q = 0
      · have g1 := go true (by simp; omega)
        rw [if_pos rfl] at g1
        rw [forL_rt (rho1 := [some (eSg s), some (.tup vs), st, some (.int (w + 1 : Nat)), some (.int (p : Nat))]) rfl (by simp only [ev]) g1]
        have : skpV s (.int (n : Nat) :: r) (w + 1) = some 1 := by
          simp only [skpV, hq, hz]; rfl
        rw [this]
        rfl
      · have g1 := go false (by simp; omega)
        rw [if_neg (by simp)] at g1
        rw [forL_nx (rho1 := [some (eSg s), some (.tup vs), st, some (.int (w + 1 : Nat)), some (.int (p : Nat))]) rfl (by simp only [ev]) (.inl g1)]
        obtain ⟨u, hu⟩ : ∃ u, w + q = u + 1 := ⟨w + q - 1, by omega⟩
        have e4 : (((w + 1 : Nat) : Int) + ((q : Nat) - 1)) = ((u + 1 : Nat) : Int) := by omega
        have e5 : ((p : Nat) : Int) + 1 = ((p + 1 : Nat) : Int) := by omega
        rw [e4, e5, end_loop st r (p + 1) u _ e2]
        simp only [skpV, hq, hu]
        cases skpV s r (u + 1) with
        | none => rfl
        | some c =>
          simp only [Option.map_some]
          congr 2
          omega
theorem sp_end_of (st : Nat) : callN T (k + 3) none 12 [eSg s, .tup vs, .int (st : Nat)] [] h = .ok (.int (match skpV s (vs.drop st) 1 with
        | some c => ((st + c : Nat) : Int)
        | none => -1)) h ∨ ¬ (vs.length < 2 ^ 60 ∧ st < 2 ^ 60) := by
  by_cases hb : vs.length < 2 ^ 60 ∧ st < 2 ^ 60
  · left
    rw [call_end_of t]
    have hk : (fun rho h => sSeq (sRet (eUn opNeg (eC (.int 1)))) sNx ⟨callN T (k + 2), none⟩ rho h) = fun (_ : Env) h => SO.rt (.int (-1)) h := by
      funext rho h; simp only [ev]
    have hr : (-BIG ≤ ((st : Nat) : Int) ∧ ((st : Nat) : Int) < BIG ∧ -BIG ≤ ((vs.length : Nat) : Int) ∧ ((vs.length : Nat) : Int) < BIG) = True := by
      simp only [BIG, eq_iff_iff, iff_true]
      omega
    simp only [ev, D_end_of, hr]
    rw [hk]
    exact (congrArg SO.out (end_loop t k hs hv (some (.int (st : Nat))) (vs.drop st) st 0 none rfl)).trans rfl
  · exact .inr hb
end
/-- the row of a term, of so many numbers at most -/
def rowB (s : Sg) (v : Val) (most : Nat) : Bool := match v with
  | .tup vs => decide (1 ≤ vs.length) && decide (vs.length ≤ most) && decide (skpV s vs 1 = some vs.length)
  | _ => false
theorem skpV_le (s : Sg) : ∀ (r : List Val) (w c : Nat), skpV s r w = some c → c ≤ r.length
  | _, 0, c, e => by simp [skpV] at e; omega
  | [], w + 1, c, e => by simp [skpV] at e
  | v :: r, w + 1, c, e => by
    simp only [skpV] at e
    split at e
    · obtain ⟨d, h1, h2⟩ := Option.map_eq_some_iff.mp e
      have := skpV_le s r _ d h1
      simp only [List.length_cons]; omega
    · cases e
theorem sp_is_row {T : Tab} (t : Ok_is_row T) (k : Nat) {s : Sg} (hs : 1 ≤ s.length) {v : Val} {h : VH} (hv : kd h v = true) {most : Nat} (hm : most ≤ 1000) : callN T (k + 4) none 13 [eSg s, v, .int (most : Nat)] [] h = .ok (.bl (rowB s v most)) h := by
  rw [call_is_row t]
  obtain ⟨y, hy⟩ := kd_ty hv
  cases v with
  | tup vs =>
    unfold kd at hv
    by_cases hl : 1 ≤ vs.length ∧ vs.length ≤ most
    · have h1 : (1 : Int) ≤ (vs.length : Nat) := by omega
      have h2 : ((vs.length : Nat) : Int) ≤ (most : Nat) := by omega
      have e := (sp_end_of t.end_of k hs hv 0).resolve_right (by omega)
      rw [List.drop_zero] at e
      have e2 : callN T (k + 3) none 12 [eSg s, .tup vs, .int 0] [] h = _ := e
      simp only [ev, D_is_row, isTy, h1, h2, decide_true, beq_self_eq_true, Bool.true_or, e2, eq_int]
      simp only [rowB, hl.1, hl.2, decide_true, Bool.true_and]
      congr 2
      cases hq : skpV s vs 1 with
      | none => simp <;> omega
      | some c => simp <;> omega
    · have e1 : (if (1 : Int) ≤ (vs.length : Nat) then decide (((vs.length : Nat) : Int) ≤ (most : Nat)) else false) = false := by
        rw [decide_and_iff]
        simp only [decide_eq_false_iff_not]
        omega
      have e2 : rowB s (.tup vs) most = false := by
        simp only [rowB]
        by_cases a : 1 ≤ vs.length
        · have : ¬ vs.length ≤ most := fun b => hl ⟨a, b⟩
          simp [this]
        · simp [a]
      simp only [ev, D_is_row, isTy, beq_self_eq_true, Bool.true_or, decide_eq_true_eq, ite_ok, ite_bl, e1, e2]
  | _ =>
    have e := ty_tup hy (by intro vs e; cases e)
    simp only [ev, D_is_row, hy, e, rowB]
theorem sp_is_row2 {T : Tab} (t : Ok_is_row T) (k : Nat) {s : Sg} (hs : 1 ≤ s.length) {v : Val} {h : VH} (hv : kd h v = true) : callN T (k + 4) none 13 [eSg s, v] [] h = .ok (.bl (rowB s v 30)) h := by
  have := sp_is_row t k hs hv (most := 30) (by omega)
  rw [← this]
  rw [call_eqD (D := D_is_row) (nm := ["signs", "thing", "most"]) (ko := []) (dfl := [.int 30]) (kwd := []) (n := 3) (zs := [eSg s, v, .int 30]) t.l (by kernel_rfl) rfl, call_is_row t]
  rfl
/-! ### typed rows -/
abbrev Row := List Nat
def eRow (t : Row) : Val := .tup (t.map fun n => .int (n : Nat))
def skp (s : Sg) : Row → Nat → Option Nat
  | _, 0 => some 0
  | [], _ + 1 => none
  | n :: r, w + 1 => match s[n]? with
    | some p => (skp s r (w + p.2)).map (· + 1)
    | none => none
/-- a term -/
def IsT (s : Sg) (t : Row) : Prop := skp s t 1 = some t.length
theorem skpV_row (s : Sg) : ∀ (t : Row) (w : Nat), skpV s (t.map fun n => .int (n : Nat)) w = skp s t w
  | [], 0 => rfl
  | _ :: _, 0 => rfl
  | [], w + 1 => rfl
  | n :: r, w + 1 => by
    rw [List.map_cons]
    simp only [skpV, skp, parV]
    rw [if_pos (by omega), Int.toNat_natCast]
    cases hq : s[n]? with
    | none => rfl
    | some p => simp only [Option.map_some, skpV_row s r (w + p.2)]
theorem kd_eRow (h : VH) (t : Row) : kd h (eRow t) = true := by
  unfold eRow kd
  refine kds_of fun v hv => ?_
  obtain ⟨n, _, rfl⟩ := List.mem_map.mp hv
  rfl
theorem rowB_iff {s : Sg} {v : Val} {most : Nat} : rowB s v most = true ↔ ∃ t : Row, v = eRow t ∧ IsT s t ∧ 1 ≤ t.length ∧ t.length ≤ most := by
  have mkInts : ∀ (vs : List Val) (w : Nat), skpV s vs w = some vs.length → ∃ t : Row, vs = t.map fun n => .int (n : Nat) := by
    intro vs
    induction vs with
    | nil => intro w _; exact ⟨[], rfl⟩
    | cons v vs ih =>
      intro w e
      cases w with
      | zero => simp [skpV] at e
      | succ w =>
        simp only [skpV] at e
        split at e
        · rename_i p hp
          obtain ⟨d, h1, h2⟩ := Option.map_eq_some_iff.mp e
          simp only [List.length_cons, Nat.add_right_cancel_iff] at h2
          subst h2
          obtain ⟨t, rfl⟩ := ih _ h1
          obtain ⟨n, x, rfl, _⟩ := parV_some hp
          exact ⟨n :: t, rfl⟩
        · cases e
  constructor
  · intro e
    cases v with
    | tup vs =>
      simp only [rowB, Bool.and_eq_true, decide_eq_true_eq] at e
      obtain ⟨t, rfl⟩ := mkInts vs 1 e.2
      refine ⟨t, rfl, ?_, ?_, ?_⟩
      · have := e.2
        rw [skpV_row, List.length_map] at this
        exact this
      · simpa using e.1.1
      · simpa using e.1.2
    | _ => cases e
  · rintro ⟨t, rfl, h1, h2, h3⟩
    simp only [eRow, rowB, Bool.and_eq_true, decide_eq_true_eq, List.length_map, skpV_row]
    exact ⟨⟨h2, h3⟩, h1⟩
theorem sp_end_row {T : Tab} (t : Ok_end_of T) (k : Nat) {s : Sg} (hs : 1 ≤ s.length) (r : Row) (hr : r.length ≤ 1000) (st : Nat) (hst : st ≤ 1000) (h : VH) {c : Nat} (e : skp s (r.drop st) 1 = some c) : callN T (k + 3) none 12 [eSg s, eRow r, .int (st : Nat)] [] h = .ok (.int ((st + c : Nat) : Int)) h := by
  have hv : kds h (r.map fun n => .int (n : Nat)) = true := by have := kd_eRow h r; unfold eRow kd at this; exact this
  have := (sp_end_of t k hs hv st).resolve_right (by rw [List.length_map]; omega)
  rw [← List.map_drop, skpV_row, e] at this
  exact this
end Pv
end
/-! PlPut -/
section
set_option Elab.async false
set_option linter.all false
set_option maxRecDepth 100000
set_option autoImplicit false
/-! Pl: terms refused, inner terms, terms put. -/
namespace Pv
open PySem PySem.Spec PyProof.Rows L2
def firstNo (s : Sg) : List Val → Nat → Option Nat
  | [], _ => none
  | v :: r, i => if rowB s v 30 = true then firstNo s r (i + 1) else some i
theorem xb_NoTerm_at (v : Val) : excBind X_NoTerm [] [("at", v)] = some [v] := by kernel_rfl
theorem xb_NoTerm_0 : excBind X_NoTerm [] [] = some [.int 0] := by kernel_rfl
theorem xb_TooMany (v w : Val) : excBind X_TooMany [v] [("most", w)] = some [v, w] := by kernel_rfl
theorem er_NoTerm (v : Val) (rho : Env) (h : VH) : (match some [v] with
  | some zs => if zs.length = X_NoTerm.fl.length ∧ ([] : List Val).length ≤ 1000 then SO.er "NoTerm" (X_NoTerm.fl.zip zs).reverse rho h else .bad
  | none => .bad) = SO.er "NoTerm" [("at", v)] rho h := by kernel_rfl
theorem er_TooMany (v w : Val) (rho : Env) (h : VH) : (match some [v, w] with
  | some zs => if zs.length = X_TooMany.fl.length ∧ ([v] : List Val).length ≤ 1000 then SO.er "TooMany" (X_TooMany.fl.zip zs).reverse rho h else .bad
  | none => .bad) = SO.er "TooMany" [("most", w), ("many", v)] rho h := by kernel_rfl
theorem need_loop {T : Tab} (t : Ok_need_terms T) (k : Nat) {s : Sg} (hs : 1 ≤ s.length) {w : Wat} {h : VH} (al : alive w h = true) (tv : Option Val) : ∀ (vs : List Val) (i : Nat) (x2 x3 : Option Val), kds h vs = true →
    (match firstNo s vs i with
      | none => ∃ rho, forL w (gTup 2 (gCons (gName 2) (gCons (gName 3) gNil))) L1_need_terms ⟨callN T (k + 4), none⟩ (enumL i vs) [some (eSg s), tv, x2, x3] h = .nx rho h
      | some j => ∃ rho, forL w (gTup 2 (gCons (gName 2) (gCons (gName 3) gNil))) L1_need_terms ⟨callN T (k + 4), none⟩ (enumL i vs) [some (eSg s), tv, x2, x3] h = .er "NoTerm" [("at", .int (j : Nat))] rho h)
  | [], i, x2, x3, _ => ⟨_, forL_nil _ _ _ _ _ _ al⟩
  | v :: r, i, x2, x3, hv => by
    unfold kds at hv
    rw [Bool.and_eq_true] at hv
    have ih := need_loop t k hs al tv r (i + 1) (some (.int (i : Nat))) (some v) hv.2
    have e1 : gTup 2 (gCons (gName 2) (gCons (gName 3) gNil)) (.tup [.int (i : Nat), v]) ⟨callN T (k + 4), none⟩ [some (eSg s), tv, x2, x3] h = .ok [some (eSg s), tv, some (.int (i : Nat)), some v] h := by
      simp only [ev, List.length_cons, List.length_nil]
    have e2 := sp_is_row2 t.is_row k hs hv.1
    simp only [firstNo]
    show (match (if rowB s v 30 = true then firstNo s r (i + 1) else some i) with
      | none => ∃ rho, forL w _ L1_need_terms ⟨callN T (k + 4), none⟩ (.tup [.int (i : Nat), v] :: enumL (i + 1) r) [some (eSg s), tv, x2, x3] h = .nx rho h
      | some j => ∃ rho, forL w _ L1_need_terms ⟨callN T (k + 4), none⟩ (.tup [.int (i : Nat), v] :: enumL (i + 1) r) [some (eSg s), tv, x2, x3] h = .er "NoTerm" [("at", .int (j : Nat))] rho h)
    cases hq : rowB s v 30 with
    | true =>
      rw [hq] at e2
      rw [if_pos rfl]
      rw [forL_nx al e1 (.inl (by simp only [ev, L1_need_terms, e2, Bool.not_true]; rfl))]
      exact ih
    | false =>
      rw [hq] at e2
      rw [if_neg (by simp)]
      refine ⟨[some (eSg s), tv, some (.int (i : Nat)), some v], ?_⟩
      rw [forL_er al e1 (by simp only [ev, L1_need_terms, e2, Bool.not_false, xb_NoTerm_at]; exact er_NoTerm _ _ _)]
theorem sp_need_terms {T : Tab} (t : Ok_need_terms T) (k : Nat) {s : Sg} (hs : 1 ≤ s.length) {w : Wat} {h : VH} {tv : Val} {vs : List Val} (al : alive w h = true) (hsrc : enSrc tv h = some (w, vs)) (hv : kds h vs = true) :
    callN T (k + 5) none 15 [eSg s] [("terms", tv)] h = match firstNo s vs 0 with
      | none => .ok .non h
      | some j => .er "NoTerm" [("at", .int (j : Nat))] h := by
  rw [call_need_terms t]
  have := need_loop t k hs al (some tv) vs 0 none none hv
  simp only [ev, D_need_terms, hsrc]
  cases hq : firstNo s vs 0 with
  | none =>
    rw [hq] at this
    obtain ⟨rho, e⟩ := this
    rw [e]; simp only [ev]
  | some j =>
    rw [hq] at this
    obtain ⟨rho, e⟩ := this
    rw [e]; simp only [ev]
theorem rowB_row {s : Sg} {t : Row} (h1 : IsT s t) (h2 : 1 ≤ t.length) (h3 : t.length ≤ 30) : rowB s (eRow t) 30 = true := rowB_iff.mpr ⟨t, rfl, h1, h2, h3⟩
/-- a term of one to thirty numbers -/
structure Tm1 (s : Sg) (t : Row) : Prop where
  is : IsT s t
  one : 1 ≤ t.length
  most : t.length ≤ 30
theorem Tm1.row {s : Sg} {t : Row} (h : Tm1 s t) : rowB s (eRow t) 30 = true := rowB_row h.is h.one h.most
theorem sp_need_place {T : Tab} (t : Ok_need_place T) (k : Nat) {s : Sg} (g : GoodSg s) {r : Row} (hr : Tm1 s r) {p : Nat} (hp : p < r.length) (h : VH) : ∃ h', callN T (k + 6) none 23 [eSg s, eRow r, .int (p : Nat)] [] h = .ok .non h' ∧ h <+: h' := by
  rw [call_need_place t]
  obtain ⟨h1, e1, g1⟩ := sp_need_signs t.need_signs k g h
  have e2 : callN T (k + 5) none 15 [eSg s] [("terms", .tup [eRow r])] h1 = .ok .non h1 := by
    rw [sp_need_terms t.need_terms k g.one (w := []) (vs := [eRow r]) rfl rfl (by unfold kds; rw [kd_eRow]; rfl)]
    simp only [firstNo, hr.row]
    rfl
  have e3 : callN T (k + 5) none 7 [.int (p : Nat), .int 0, .int ((r.length : Nat) - 1)] [] h1 = .ok (.bl true) h1 := by
    rw [show k + 5 = (k + 3) + 2 from rfl, sp_is_within t.is_within (k + 3) none _ 0 _ h1 rfl]
    congr 2
    simp only [within_int, Bool.and_eq_true, decide_eq_true_eq]
    omega
  have ln : ((List.map (fun n => Val.int (n : Nat)) r).length : Nat) = r.length := List.length_map _
  have e1' : callN T (k + 5) none 11 [eSg s] [] h = .ok .non h1 := e1
  refine ⟨h1, ?_, g1⟩
  have e2' : callN T (k + 5) none 15 [eSg s] [("terms", .tup [.tup (r.map fun n => .int (n : Nat))])] h1 = .ok .non h1 := e2
  simp only [ev, D_need_place, e1', eRow, e2', ln, e3, Bool.not_true]
/-! ### what terms take -/
theorem skp_app (s : Sg) : ∀ (a b : Row) (w : Nat), skp s a w = some a.length → ∀ v, skp s (a ++ b) (w + v) = (skp s b v).map (· + a.length)
  | [], b, w, e, v => by
    cases w with
    | zero => simp
    | succ w => simp [skp] at e
  | n :: a, b, w, e, v => by
    cases w with
    | zero => simp [skp] at e
    | succ w =>
      simp only [skp] at e
      rw [List.cons_append, show w + 1 + v = (w + v) + 1 from by omega]
      simp only [skp]
      cases hq : s[n]? with
      | none => rw [hq] at e; cases e
      | some p =>
        rw [hq] at e
        simp only at e ⊢
        obtain ⟨d, h1, h2⟩ := Option.map_eq_some_iff.mp e
        simp only [List.length_cons, Nat.add_right_cancel_iff] at h2
        subst h2
        rw [show w + v + p.2 = (w + p.2) + v from by omega, skp_app s a b _ h1 v]
        cases skp s b v with
        | none => rfl
        | some c => simp [Nat.add_assoc]
/-- a part of the walk: it may be cut -/
theorem skp_take (s : Sg) : ∀ (a : Row) (w c : Nat), skp s a w = some c → skp s (a.take c) w = some c ∧ (a.take c).length = c
  | a, 0, c, e => by
    have : c = 0 := by cases a <;> simp [skp] at e <;> omega
    subst this
    cases a <;> exact ⟨rfl, rfl⟩
  | [], w + 1, c, e => by simp [skp] at e
  | n :: a, w + 1, c, e => by
    simp only [skp] at e
    cases hq : s[n]? with
    | none => rw [hq] at e; cases e
    | some p =>
      rw [hq] at e
      simp only at e
      obtain ⟨d, h1, rfl⟩ := Option.map_eq_some_iff.mp e
      obtain ⟨h2, h3⟩ := skp_take s a _ d h1
      constructor
      · rw [List.take_succ_cons]
        simp only [skp, hq, h2, Option.map_some]
      · rw [List.take_succ_cons, List.length_cons, h3]
/-- in a whole row a term begins at each place -/
theorem skp_drop (s : Sg) : ∀ (a : Row) (w : Nat), skp s a w = some a.length → ∀ p, p < a.length → ∃ w', skp s (a.drop p) (w' + 1) = some (a.length - p)
  | [], w, e, p, hp => by simp at hp
  | n :: a, w, e, p, hp => by
    cases w with
    | zero => simp [skp] at e
    | succ w =>
      cases p with
      | zero => exact ⟨w, by simpa using e⟩
      | succ p =>
        simp only [skp] at e
        cases hq : s[n]? with
        | none => rw [hq] at e; cases e
        | some q =>
          rw [hq] at e
          simp only at e
          obtain ⟨d, h1, h2⟩ := Option.map_eq_some_iff.mp e
          simp only [List.length_cons, Nat.add_right_cancel_iff] at h2
          subst h2
          obtain ⟨w', h3⟩ := skp_drop s a _ h1 p (by simpa using hp)
          exact ⟨w', by simpa using h3⟩
theorem skp_less (s : Sg) : ∀ (a : Row) (w v c : Nat), skp s a (w + v) = some c → ∃ d, skp s a w = some d ∧ d ≤ c
  | a, 0, v, c, e => ⟨0, by cases a <;> rfl, Nat.zero_le _⟩
  | [], w + 1, v, c, e => by rw [show w + 1 + v = (w + v) + 1 from by omega] at e; simp [skp] at e
  | n :: a, w + 1, v, c, e => by
    rw [show w + 1 + v = (w + v) + 1 from by omega] at e
    simp only [skp] at e ⊢
    cases hq : s[n]? with
    | none => rw [hq] at e; cases e
    | some p =>
      rw [hq] at e
      simp only at e ⊢
      obtain ⟨d, h1, rfl⟩ := Option.map_eq_some_iff.mp e
      rw [show w + v + p.2 = (w + p.2) + v from by omega] at h1
      obtain ⟨c', h2, h3⟩ := skp_less s a _ v d h1
      exact ⟨c' + 1, by rw [h2]; rfl, by omega⟩
/-- the term at a place of a term -/
theorem IsT.at {s : Sg} {r : Row} (h : IsT s r) {p : Nat} (hp : p < r.length) : ∃ c, skp s (r.drop p) 1 = some c ∧ 1 ≤ c ∧ p + c ≤ r.length ∧ IsT s ((r.drop p).take c) ∧ ((r.drop p).take c).length = c := by
  obtain ⟨w, e⟩ := skp_drop s r 1 h p hp
  obtain ⟨c, h1, h2⟩ := skp_less s _ 1 w _ (by rw [Nat.add_comm]; exact e)
  obtain ⟨h3, h4⟩ := skp_take s _ 1 c h1
  refine ⟨c, h1, ?_, by omega, by unfold IsT; rw [h3, h4], h4⟩
  cases c with
  | zero =>
    exfalso
    cases hd : r.drop p with
    | nil => rw [hd] at h1; simp [skp] at h1
    | cons n a =>
      rw [hd] at h1
      simp only [skp] at h1
      split at h1
      · obtain ⟨d, _, z⟩ := Option.map_eq_some_iff.mp h1
        omega
      · cases h1
  | succ c => omega
/-! ### inner_at, put -/
theorem cutL_mid {α : Type} (xs : List α) (a c : Nat) (h : a + c ≤ xs.length) : cutL xs (some (a : Nat)) (some ((a + c : Nat) : Int)) = (xs.drop a).take c := by
  unfold cutL
  rw [HT.sIx_nat, HT.sIx_nat]
  congr 2
  · omega
  · omega
theorem cutL_to {α : Type} (xs : List α) (a : Nat) (h : a ≤ xs.length) : cutL xs none (some (a : Nat)) = xs.take a := by
  unfold cutL
  rw [HT.sIx_nat, HT.sIx_none, List.drop_zero]
  congr 1
  omega
theorem cutL_from {α : Type} (xs : List α) (a : Nat) (h : a ≤ xs.length) : cutL xs (some (a : Nat)) none = xs.drop a := by
  unfold cutL
  rw [HT.sIx_nat, HT.sIx_none, Nat.min_eq_left h]
  exact List.take_of_length_le (by rw [List.length_drop]; exact Nat.le_refl _)
/-- the term that begins at a place -/
def inAt (s : Sg) (r : Row) (p : Nat) : Row := (r.drop p).take ((skp s (r.drop p) 1).getD 0)
def endAt (s : Sg) (r : Row) (p : Nat) : Nat := p + (skp s (r.drop p) 1).getD 0
theorem sp_inner_at {T : Tab} (t : Ok_inner_at T) (k : Nat) {s : Sg} (g : GoodSg s) {r : Row} (hr : Tm1 s r) {p : Nat} (hp : p < r.length) (h : VH) : ∃ h', callN T (k + 7) none 24 [eSg s, eRow r, .int (p : Nat)] [] h = .ok (eRow (inAt s r p)) h' ∧ h <+: h' := by
  rw [call_inner_at t]
  obtain ⟨h1, e1, g1⟩ := sp_need_place t.need_place k g hr hp h
  obtain ⟨c, e2, c1, c2, c3, c4⟩ := hr.is.at hp
  have e3 : callN T (k + 6) none 12 [eSg s, eRow r, .int (p : Nat)] [] h1 = .ok (.int ((p + c : Nat) : Int)) h1 := sp_end_row t.end_of (k + 3) g.one r (by have := hr.most; omega) p (by have := hr.most; omega) h1 e2
  refine ⟨h1, ?_, g1⟩
  have cu : cutL (r.map fun n => Val.int (n : Nat)) (some (p : Nat)) (some ((p + c : Nat) : Int)) = (inAt s r p).map fun n => .int (n : Nat) := by
    rw [cutL_mid _ _ _ (by rw [List.length_map]; omega), inAt, e2, List.map_take, List.map_drop]; rfl
  unfold eRow at e1 e3 ⊢
  simp only [ev, D_inner_at, e1, e3, cu]
theorem opAdd_tup (x y : List Val) (h : VH) (hl : x.length + y.length ≤ LIM) : opAdd (.tup x) (.tup y) h = .ok (.tup (x ++ y)) h := by
  show (if x.length + y.length ≤ LIM then Out.ok (Val.tup (x ++ y)) h else .bad) = _
  rw [if_pos hl]
def putAt (s : Sg) (r : Row) (p : Nat) (o : Row) : Row := r.take p ++ o ++ r.drop (endAt s r p)
theorem sp_put {T : Tab} (t : Ok_put T) (k : Nat) {s : Sg} (g : GoodSg s) {r o : Row} (hr : Tm1 s r) (ho : Tm1 s o) {p : Nat} (hp : p < r.length) (h : VH) : ∃ h', h <+: h' ∧ callN T (k + 7) none 25 [eSg s, eRow r, .int (p : Nat), eRow o] [] h =
    if (putAt s r p o).length ≤ 30 then .ok (eRow (putAt s r p o)) h' else .er "TooMany" [("most", .int 30), ("many", .int ((putAt s r p o).length : Nat))] h' := by
  rw [call_put t]
  obtain ⟨h1, e1, g1⟩ := sp_need_place t.need_place k g hr hp h
  obtain ⟨c, e2, c1, c2, c3, c4⟩ := hr.is.at hp
  have e3 : callN T (k + 6) none 12 [eSg s, eRow r, .int (p : Nat)] [] h1 = .ok (.int ((p + c : Nat) : Int)) h1 := sp_end_row t.end_of (k + 3) g.one r (by have := hr.most; omega) p (by have := hr.most; omega) h1 e2
  have e4 : callN T (k + 6) none 13 [eSg s, eRow o] [] h1 = .ok (.bl true) h1 := by
    rw [show k + 6 = (k + 2) + 4 from rfl, sp_is_row2 t.is_row (k + 2) g.one (kd_eRow h1 o), ho.row]
  refine ⟨h1, g1, ?_⟩
  have hm := hr.most
  have hm2 := ho.most
  have u1 : cutL (r.map fun n => Val.int (n : Nat)) none (some (p : Nat)) = (r.take p).map fun n => .int (n : Nat) := by
    rw [cutL_to _ _ (by rw [List.length_map]; omega), List.map_take]
  have u2 : cutL (r.map fun n => Val.int (n : Nat)) (some ((p + c : Nat) : Int)) none = (r.drop (p + c)).map fun n => .int (n : Nat) := by
    rw [cutL_from _ _ (by rw [List.length_map]; omega), List.map_drop]
  have pe : putAt s r p o = r.take p ++ o ++ r.drop (p + c) := by unfold putAt endAt; rw [e2]; rfl
  have a1 : opAdd (.tup ((r.take p).map fun n => .int (n : Nat))) (.tup (o.map fun n => .int (n : Nat))) h1 = .ok (.tup ((r.take p ++ o).map fun n => .int (n : Nat))) h1 := by
    rw [opAdd_tup _ _ _ (by simp only [List.length_map, List.length_take]; unfold LIM; omega), List.map_append]
  have a2 : opAdd (.tup ((r.take p ++ o).map fun n => .int (n : Nat))) (.tup ((r.drop (p + c)).map fun n => .int (n : Nat))) h1 = .ok (.tup ((putAt s r p o).map fun n => .int (n : Nat))) h1 := by
    rw [opAdd_tup _ _ _ (by simp only [List.length_map, List.length_append, List.length_take, List.length_drop]; unfold LIM; omega), pe, ← List.map_append]
  have ln : (((putAt s r p o).map fun n => Val.int (n : Nat)).length : Nat) = (putAt s r p o).length := List.length_map _
  unfold eRow at e1 e3 e4 ⊢
  by_cases hz : (putAt s r p o).length ≤ 30
  · have d : decide ((30 : Int) < ((putAt s r p o).length : Nat)) = false := by simp; omega
    rw [if_pos hz]
    simp only [ev, D_put, e1, e4, Bool.not_true, e3, u1, u2, a1, a2, ln, d]
  · have d : decide ((30 : Int) < ((putAt s r p o).length : Nat)) = true := by simp; omega
    rw [if_neg hz]
    simp only [ev, D_put, e1, e4, Bool.not_true, e3, u1, u2, a1, a2, ln, d, xb_TooMany]
    exact congrArg SO.out (congrArg (fun o => SO.seq o _) (er_TooMany _ _ _ _))
end Pv
end
/-! PlDraw -/
section
set_option Elab.async false
set_option linter.all false
set_option maxRecDepth 100000
set_option autoImplicit false
/-! Pl: what laws draw: numbers, names, signs, terms. -/
namespace Pv
open PySem PySem.Spec PyProof.Rows L2
/-- what stood stands, but at S -/
structure Kp (S : Nat → Prop) (h h' : VH) : Prop where
  len : h.length ≤ h'.length
  get : ∀ l, l < h.length → ¬ S l → h'[l]? = h[l]?
theorem Kp.refl (S : Nat → Prop) (h : VH) : Kp S h h := ⟨Nat.le_refl _, fun _ _ _ => rfl⟩
theorem Kp.trans {S : Nat → Prop} {a b c : VH} (x : Kp S a b) (y : Kp S b c) : Kp S a c := ⟨Nat.le_trans x.len y.len, fun l hl hs => (y.get l (Nat.lt_of_lt_of_le hl x.len) hs).trans (x.get l hl hs)⟩
theorem Kp.mono {S S' : Nat → Prop} {a b : VH} (x : Kp S a b) (i : ∀ l, l < a.length → S l → S' l) : Kp S' a b := ⟨x.len, fun l hl hs => x.get l hl fun z => hs (i l hl z)⟩
theorem Kp.of_prefix {S : Nat → Prop} {a b : VH} (x : a <+: b) : Kp S a b := by
  obtain ⟨t, rfl⟩ := x
  exact ⟨by rw [List.length_append]; omega, fun l hl _ => List.getElem?_append_left hl⟩
theorem Kp.app {S : Nat → Prop} (a t : VH) : Kp S a (a ++ t) := .of_prefix (List.prefix_append _ _)
theorem Kp.set {S : Nat → Prop} {a : VH} {l : Nat} (o : VObj) (h : l < a.length → S l) : Kp S a (a.set l o) := ⟨by rw [List.length_set]; exact Nat.le_refl _, fun m hm hs => by
  rw [List.getElem?_set_ne]
  intro e; subst e; exact hs (h hm)⟩
theorem Kp.at {S : Nat → Prop} {a b : VH} (x : Kp S a b) {l : Nat} {o : VObj} (e : a[l]? = some o) (n : ¬ S l) : b[l]? = some o := (x.get l (List.getElem?_eq_some_iff.mp e).1 n).trans e
theorem lt_of_at {h : VH} {l : Nat} {o : VObj} (e : h[l]? = some o) : l < h.length := (List.getElem?_eq_some_iff.mp e).1
/-- a pot of draws -/
def Pot (p : Nat) (h : VH) : Prop := ∃ n : Int, h[p]? = some (.lst [.int n])
/-- nothing but the pot moved -/
structure Pm (p : Nat) (h h' : VH) : Prop where
  kp : Kp (· = p) h h'
  pot : Pot p h'
theorem Pm.refl {p : Nat} {h : VH} (e : Pot p h) : Pm p h h := ⟨.refl _ _, e⟩
theorem Pm.trans {p : Nat} {a b c : VH} (x : Pm p a b) (y : Pm p b c) : Pm p a c := ⟨x.kp.trans y.kp, y.pot⟩
theorem Pot.lt {p : Nat} {h : VH} (e : Pot p h) : p < h.length := let ⟨_, e⟩ := e; lt_of_at e
theorem Pot.app {p : Nat} {h : VH} (e : Pot p h) (t : VH) : Pot p (h ++ t) := by
  obtain ⟨n, e⟩ := e
  exact ⟨n, by rw [List.getElem?_append_left (lt_of_at e)]; exact e⟩
theorem Pm.app {p : Nat} {a b : VH} (x : Pm p a b) (t : VH) : Pm p a (b ++ t) := ⟨x.kp.trans (.app _ _), x.pot.app t⟩
theorem Pm.new {p : Nat} {a t b : VH} (x : Pm p (a ++ t) b) : Pm p a b := ⟨(Kp.app a t).trans x.kp, x.pot⟩
theorem ix_ref {h : VH} {l n : Nat} {vs : List Val} {v : Val} (e : h[l]? = some (.lst vs)) (g : vs[n]? = some v) : opIdx (.ref l) (.int (n : Nat)) h = .ok v h := by
  show (match h[l]? with
    | some (.lst vs) => got (atI vs (n : Nat)) h
    | some (.frz vs) => got (atI vs (n : Nat)) h
    | _ => .bad) = _
  rw [e]
  show got (atI vs (n : Nat)) h = _
  rw [atI_nat, g]; rfl
theorem log2_lt9000 {f : Nat} (h : f < 2 ^ 64) : f.log2 < 9000 := by
  by_cases h0 : f = 0
  · subst h0; decide
  · have := (Nat.log2_lt h0).mpr h
    omega
theorem set_ref {h : VH} {l n : Nat} {vs : List Val} (v : Val) (e : h[l]? = some (.lst vs)) (g : n < vs.length) : opSet (.ref l) (.int (n : Nat)) v h = .ok () (h.set l (.lst (vs.set n v))) := by
  show (match h[l]? with
    | some (.lst vs) => (match ixN vs.length (n : Nat) with
      | some n => Out.ok () (h.set l (.lst (vs.set n v)))
      | none => Out.bad)
    | _ => Out.bad) = _
  rw [e]
  have : ixN vs.length (n : Nat) = some n := by
    unfold ixN
    rw [if_pos (by omega), if_pos (by omega), Int.toNat_natCast]
  show (match ixN vs.length (n : Nat) with
      | some n => Out.ok () (h.set l (.lst (vs.set n v)))
      | none => .bad) = _
  rw [this]
theorem sp_take {T : Tab} (t : Ok_law_take T) (k : Nat) (hot : Option Nat) {p : Nat} {h : VH} (hp : Pot p h) {f : Nat} (h0 : 0 < f) (h1 : f < 2 ^ 64) :
    ∃ (n : Nat) (h' : VH), callN T (k + 1) hot 1002 [.ref p, .int (f : Nat)] [] h = .ok (.int (n : Nat)) h' ∧ n < f ∧ Pm p h h' := by
  obtain ⟨z, e⟩ := hp
  rw [call_law_take t]
  have i1 : opIdx (.ref p) (.int 0) h = .ok (.int z) h := ix_ref (n := 0) e rfl
  have i2 : ∀ v, opSet (.ref p) (.int 0) v h = .ok () (h.set p (.lst [v])) := fun v => set_ref (n := 0) v e (by simp)
  have f0 : (0 : Int) < (f : Nat) := by omega
  have d1 : opDiv (.int z) (.int (f : Nat)) h = .ok (.int (z / (f : Nat))) h := by
    show (if 0 < ((f : Nat) : Int) ∧ ((f : Nat) : Int).natAbs.log2 < 9000 then Out.ok (Val.int (z / (f : Nat))) h else .bad) = _
    rw [if_pos ⟨f0, by rw [Int.natAbs_natCast]; exact log2_lt9000 h1⟩]
  have m0 := Int.emod_nonneg z (show ((f : Nat) : Int) ≠ 0 by omega)
  have m1 := Int.emod_lt_of_pos z f0
  refine ⟨(z % (f : Nat)).toNat, h.set p (.lst [.int (z / (f : Nat))]), ?_, by omega, .set _ fun _ => rfl, z / (f : Nat), ?_⟩
  · have : (((z % (f : Nat)).toNat : Nat) : Int) = z % (f : Nat) := by omega
    rw [this]
    simp only [ev, D_law_take, i1, f0, d1, i2]
  · rw [List.getElem?_set_self (lt_of_at e)]
/-! ### the pot -/
theorem opMul_small {i j : Int} {a b : Nat} (h : VH) (hi : i.natAbs < 2 ^ a) (hj : j.natAbs < 2 ^ b) (hab : a + b ≤ 900000) (ha : 0 < a) (hb : 0 < b) : opMul (.int i) (.int j) h = .ok (.int (i * j)) h := by
  have lg : ∀ (n c : Nat), 0 < c → n < 2 ^ c → n.log2 < c := fun n c hc hn => by
    by_cases h0 : n = 0
    · subst h0; simpa using hc
    · exact (Nat.log2_lt h0).mpr hn
  have h1 := lg _ _ ha hi
  have h2 := lg _ _ hb hj
  show (if i.natAbs.log2 + j.natAbs.log2 < 900000 then Out.ok (Val.int (i * j)) h else .bad) = _
  rw [if_pos (by omega)]
theorem pow18 (h : VH) : opPow (.int 10) (.int 18) h = .ok (.int (10 ^ 18)) h := by
  show (if (0 : Int) ≤ 18 ∧ (18 : Int) ≤ 1000000 ∧ (10 : Int).natAbs < 2 ^ 64 then Out.ok (Val.int (10 ^ (18 : Int).toNat)) h else .bad) = _
  rw [if_pos (by decide)]; rfl
theorem sp_pot {T : Tab} (t : Ok_law_pot T) (k : Nat) (c : Int) (h : VH) : ∃ n : Int, callN T (k + 1) none 1001 [.int c] [] h = .ok (.ref h.length) (h ++ [.lst [.int n]]) := by
  rw [call_law_pot t]
  by_cases hc : (10 : Int) ^ 18 ≤ c
  · exact ⟨c - 10 ^ 18, by simp only [ev, D_law_pot, pow18, hc, decide_true]⟩
  · have hr : (-BIG ≤ (64 : Int) ∧ (64 : Int) < BIG) = True := by simp [BIG]
    obtain ⟨rho, h', e, rfl, n, x2, x3, rfl, _, _⟩ := forL_inv (w := []) (g := gName 2) (b := L1_law_pot) (c := ⟨callN T k, none⟩)
      (fun d rho h' => h' = h ∧ ∃ (n : Int) (x2 x3 : Option Val), rho = [some (.int c), some (.int n), x2, x3] ∧ 0 ≤ n ∧ n < 2 ^ (31 * d.length))
      (rangeL 0 64) [some (.int c), some (.int 0), none, none] h (fun _ _ _ _ => rfl) ⟨rfl, 0, none, none, rfl, by omega, by simp⟩ (by
        rintro d v r rho h' e ⟨rfl, n, x2, x3, rfl, n0, n1⟩
        have hd : d.length < 64 := by
          have := congrArg List.length e
          simp [rangeL] at this
          omega
        obtain ⟨j, rfl, j0, j1⟩ : ∃ j : Int, v = .int j ∧ 0 ≤ j ∧ j < 64 := by
          have : v ∈ rangeL 0 64 := by rw [e]; simp
          unfold rangeL at this
          obtain ⟨i, hi, rfl⟩ := List.mem_map.mp this
          rw [List.mem_range] at hi
          exact ⟨_, rfl, by omega, by omega⟩
        have a0 := Int.emod_nonneg c (show (2147483629 : Int) ≠ 0 by decide)
        have a1 := Int.emod_lt_of_pos c (show (0 : Int) < 2147483629 by decide)
        generalize hA : c % 2147483629 = A at a0 a1
        have u1 : opMul (.int 7919) (.int j) h' = .ok (.int (7919 * j)) h' := opMul_small (a := 13) (b := 7) h' (by decide) (by omega) (by omega) (by omega) (by omega)
        have u2 : opMul (.int (A + 7919 * j + 1)) (.int 48271) h' = .ok (.int ((A + 7919 * j + 1) * 48271)) h' := opMul_small (a := 40) (b := 17) h' (by omega) (by omega) (by omega) (by omega) (by omega)
        generalize hB : (A + 7919 * j + 1) * 48271 % 2147483647 = B
        have b0 : 0 ≤ B := by rw [← hB]; exact Int.emod_nonneg _ (by decide)
        have b1 : B < 2147483647 := by rw [← hB]; exact Int.emod_lt_of_pos _ (by decide)
        have u3 : opMul (.int B) (.int B) h' = .ok (.int (B * B)) h' := opMul_small (a := 32) (b := 32) h' (by omega) (by omega) (by omega) (by omega) (by omega)
        have u4 : opMul (.int 69621) (.int j) h' = .ok (.int (69621 * j)) h' := opMul_small (a := 17) (b := 7) h' (by decide) (by omega) (by omega) (by omega) (by omega)
        generalize hC : (B * B + 69621 * j + 7) % 2147483587 = C
        have c0 : 0 ≤ C := by rw [← hC]; exact Int.emod_nonneg _ (by decide)
        have c1 : C < 2147483587 := by rw [← hC]; exact Int.emod_lt_of_pos _ (by decide)
        have u5 : opMul (.int n) (.int 2147483587) h' = .ok (.int (n * 2147483587)) h' := opMul_small (a := 31 * d.length + 1) (b := 32) h' (by
          have : n.natAbs < 2 ^ (31 * d.length) := by
            have : (n.natAbs : Int) < ((2 ^ (31 * d.length) : Nat) : Int) := by push_cast; omega
            exact Int.ofNat_lt.mp this
          exact Nat.lt_of_lt_of_le this (Nat.pow_le_pow_right (by omega) (by omega))) (by omega) (by omega) (by omega) (by omega)
        have q1 : (0 : Int) < 2147483629 := by decide
        have q2 : (0 : Int) < 2147483647 := by decide
        have q3 : (0 : Int) < 2147483587 := by decide
        refine ⟨_, _, _, _, by simp only [ev]; rfl, .inl (by simp only [ev, L1_law_pot, q1, q2, q3, hA, u1, u2, hB, u3, u4, hC, u5]; rfl), rfl, _, _, _, rfl, by omega, ?_⟩
        rw [List.length_append, List.length_singleton, Nat.mul_add, Int.pow_add]
        have : n + 1 ≤ 2 ^ (31 * d.length) := n1
        have h31 : (2 : Int) ^ (31 * 1) = 2147483648 := by decide
        rw [h31]
        omega)
    refine ⟨n, ?_⟩
    have hc' : decide ((10 : Int) ^ 18 ≤ c) = false := by simpa using hc
    simp only [ev, D_law_pot, pow18, hc', hr, e]
end Pv
end
/-! PlDraw2 -/
section
set_option Elab.async false
set_option linter.all false
set_option maxRecDepth 100000
set_option autoImplicit false
/-! Pl: names and signs drawn. -/
namespace Pv
open PySem PySem.Spec PyProof.Rows L2 TL
theorem some_of_all {vs : List Val} {P : Val → Prop} (hP : ∀ v ∈ vs, P v) {n : Nat} (hn : n < vs.length) : ∃ v, vs[n]? = some v ∧ P v :=
  ⟨vs[n], List.getElem?_eq_getElem hn, hP _ (List.getElem_mem hn)⟩
/-- an item of a list that is written -/
theorem lit_at {h h' : VH} {p : Nat} {vs : List Val} (m : Pm p (h ++ [.lst vs]) h') (hp : p < h.length) : h'[h.length]? = some (.lst vs) := by
  rw [m.kp.get h.length (by rw [List.length_append]; simp) (by omega), List.getElem?_concat_length]
theorem join_nil (xs : List Str) : tl (Txt.join ⟨#[]⟩ xs) = (xs.map tl).flatten := by
  rw [join_eq, tl_join]
  have : ∀ l : List (List Nat), joinL (tl (⟨#[]⟩ : Str)) l = l.flatten := by
    intro l
    induction l with
    | nil => rfl
    | cons a l ih =>
      cases l with
      | nil => simp [joinL]
      | cons b l =>
        show a ++ (tl (⟨#[]⟩ : Str) ++ joinL _ (b :: l)) = _
        rw [ih]; rfl
  exact this _
theorem isLow_iff (x : Str) : isLow x = true ↔ ∀ c ∈ tl x, c ∈ LETT := by
  unfold isLow
  rw [List.all_eq_true]
  simp only [decide_eq_true_eq]
  rfl
/-- a letter, as a text -/
def LetV (v : Val) : Prop := ∃ c, v = .str ⟨#[c]⟩ ∧ c ∈ LETT
theorem letters_str {ys : List Val} (h : ∀ y ∈ ys, LetV y) : ∃ xs : List Str, ys = xs.map .str ∧ strL ys = some xs ∧ (∀ x ∈ xs, ∃ c, x = ⟨#[c]⟩ ∧ c ∈ LETT) := by
  induction ys with
  | nil => exact ⟨[], rfl, rfl, fun x hx => by cases hx⟩
  | cons y ys ih =>
    obtain ⟨c, rfl, hc⟩ := h y (by simp)
    obtain ⟨xs, rfl, e, hx⟩ := ih fun z hz => h z (by simp [hz])
    refine ⟨⟨#[c]⟩ :: xs, rfl, ?_, fun x hx' => ?_⟩
    · show (strL (xs.map .str)).map (_ :: ·) = _
      rw [e]; rfl
    · rcases List.mem_cons.mp hx' with rfl | hx'
      · exact ⟨c, rfl, hc⟩
      · exact hx x hx'
theorem one_flat {xs : List Str} (h : ∀ x ∈ xs, ∃ c, x = ⟨#[c]⟩ ∧ c ∈ LETT) : (xs.map tl).flatten.length = xs.length ∧ (∀ c ∈ (xs.map tl).flatten, c ∈ LETT) ∧ (xs.map (·.length)).sum = xs.length := by
  induction xs with
  | nil => exact ⟨rfl, fun c hc => by simp at hc, rfl⟩
  | cons x xs ih =>
    obtain ⟨c, rfl, hc⟩ := h x (by simp)
    obtain ⟨i1, i2, i3⟩ := ih fun z hz => h z (by simp [hz])
    refine ⟨?_, fun d hd => ?_, ?_⟩
    · have e1 : (tl (⟨#[c]⟩ : Str)).length = 1 := rfl
      rw [List.map_cons, List.flatten_cons, List.length_append, i1, e1, List.length_cons]
      omega
    · rw [List.map_cons, List.flatten_cons, List.mem_append] at hd
      rcases hd with hd | hd
      · have : d ∈ [c] := hd
        rw [List.mem_singleton] at this
        subst this; exact hc
      · exact i2 d hd
    · have e1 : (⟨#[c]⟩ : Str).length = 1 := rfl
      rw [List.map_cons, List.sum_cons, i3, e1, List.length_cons]
      omega
/-- letters joined -/
theorem join_letters {ys : List Val} {l : Nat} {h : VH} (e : h[l]? = some (.lst ys)) (hy : ∀ y ∈ ys, LetV y) (h1 : 1 ≤ ys.length) (h6 : ys.length ≤ 6) : ∃ x, mJoin (.str "") [.ref l] h = .ok (.str x) h ∧ okName x := by
  obtain ⟨xs, rfl, e2, hx⟩ := letters_str hy
  rw [List.length_map] at h1 h6
  obtain ⟨f1, f2, f3⟩ := one_flat hx
  refine ⟨Txt.join "" xs, ?_, ?_⟩
  · have i1 : itemsOf (.ref l) h = some (xs.map .str) := by
      show (match h[l]? with
        | some (.lst vs) => some vs
        | some (.frz vs) => some vs
        | _ => none) = _
      rw [e]
    unfold mJoin
    simp only [i1, Option.bind_some, e2, f3]
    rw [if_pos (by show xs.length + xs.length * 0 ≤ 16777216; omega)]
  · have ej : tl (Txt.join "" xs) = (xs.map tl).flatten := join_nil xs
    refine ⟨?_, ?_, ?_⟩
    · rw [len_tl, ej, f1]; exact h1
    · rw [len_tl, ej, f1]; exact h6
    · rw [isLow_iff, ej]; exact f2
theorem str_at {x : Str} {n : Nat} {c : Nat} (e : (tl x)[n]? = some c) (h : VH) : opIdx (.str x) (.int (n : Nat)) h = .ok (.str ⟨#[c]⟩) h := by
  show (got (atI x.cps.toList (n : Nat)) h).bind (fun c h => Out.ok (Val.str ⟨#[c]⟩) h) = _
  rw [atI_nat]
  have e' : x.cps.toList[n]? = some c := e
  rw [e']; rfl
theorem eq_int3 (i j : Int) (h : VH) : opEq (.int i) (.int j) h = .ok (.bl (decide (i = j))) h := eq_int i j h
theorem letter_at {n : Nat} (h : n < 26) : ∃ c, (tl "abcdefghijklmnopqrstuvwxyz")[n]? = some c := by
  have e : (tl "abcdefghijklmnopqrstuvwxyz").length = 26 := by decide +kernel
  exact ⟨_, List.getElem?_eq_getElem (by rw [e]; exact h)⟩
theorem nine : ["a", "f", "g", "aa", "ab", "ba", "ffffff", "fffffg"].all (fun x => isName (.str x)) = true := by decide +kernel
theorem sp_name {T : Tab} (t : Ok_law_name T) (k : Nat) {p : Nat} {h : VH} (hp : Pot p h) : ∃ (x : Str) (h' : VH), callN T (k + 2) none 1003 [.ref p] [] h = .ok (.str x) h' ∧ okName x ∧ Pm p h h' := by
  rw [call_law_name t]
  obtain ⟨n1, h1, e1, l1, m1⟩ := sp_take t.law_take k none hp (f := 3) (by decide) (by decide)
  have e1' : callN T (k + 1) none 1002 [.ref p, .int 3] [] h = _ := e1
  by_cases h0 : ((n1 : Nat) : Int) = 0
  · have hp2 := m1.pot.app [.lst [.str "a", .str "f", .str "g", .str "aa", .str "ab", .str "ba", .str "ffffff", .str "fffffg"]]
    obtain ⟨n2, h2, e2, l2, m2⟩ := sp_take t.law_take k none hp2 (f := 8) (by decide) (by decide)
    have e2' : callN T (k + 1) none 1002 [.ref p, .int 8] [] (h1 ++ [.lst [.str "a", .str "f", .str "g", .str "aa", .str "ab", .str "ba", .str "ffffff", .str "fffffg"]]) = _ := e2
    obtain ⟨v, hv, hn⟩ := some_of_all (vs := [.str "a", .str "f", .str "g", .str "aa", .str "ab", .str "ba", .str "ffffff", .str "fffffg"]) (P := fun v => isName v = true) (fun v hv => by
      have := nine
      simp only [List.all_cons, List.all_nil, Bool.and_eq_true] at this
      simp only [List.mem_cons, List.not_mem_nil, or_false] at hv
      rcases hv with rfl | rfl | rfl | rfl | rfl | rfl | rfl | rfl <;> simp only [this]) l2
    obtain ⟨x, rfl, hx⟩ := (isName_iff v).mp hn
    refine ⟨x, h2, ?_, hx, m1.trans (Pm.new m2)⟩
    have i2 := ix_ref (lit_at m2 m1.pot.lt) hv
    simp only [ev, D_law_name, e1', eq_int, h0, decide_true, e2', i2]
  · obtain ⟨n2, h2, e2, l2, m2⟩ := sp_take t.law_take k none m1.pot (f := 6) (by decide) (by decide)
    have e2' : callN T (k + 1) none 1002 [.ref p, .int 6] [] h1 = _ := e2
    have hr : (-BIG ≤ 1 + ((n2 : Nat) : Int) ∧ 1 + ((n2 : Nat) : Int) < BIG) = True := by
      simp only [BIG, eq_iff_iff, iff_true]; omega
    obtain ⟨ys, h3, e3, m3, q3⟩ := lcL_rel (w := []) (g := gName 2) (e := C1_law_name) (c := ⟨callN T (k + 1), none⟩) (rho := [some (.ref p), some (.str "abcdefghijklmnopqrstuvwxyz"), none]) (fun h' => Pm p h2 h') (fun _ y => LetV y) (fun _ _ => rfl) (rangeL 0 (1 + ((n2 : Nat) : Int))) h2 (.refl m2.pot) (fun v _ h3 m3 => by
      obtain ⟨n4, h4, e4, l4, m4⟩ := sp_take t.law_take k none m3.pot (f := 26) (by decide) (by decide)
      have e4' : callN T (k + 1) none 1002 [.ref p, .int 26] [] h3 = _ := e4
      obtain ⟨c, hc⟩ := letter_at l4
      refine ⟨_, h3, .str ⟨#[c]⟩, h4, by simp only [ev]; rfl, ?_, m3.trans m4, c, rfl, List.mem_of_getElem? hc⟩
      simp only [ev, C1_law_name, e4', str_at hc])
    have ly : ys.length = n2 + 1 := by
      have := Paired.length q3
      rw [← this]
      simp [rangeL]; omega
    have qy : ∀ y ∈ ys, LetV y := by
      have : ∀ {a b : List Val}, Paired (fun _ y => LetV y) a b → ∀ y ∈ b, LetV y := by
        intro a b q
        induction q with
        | nil => intro y hy; cases hy
        | cons q _ ih =>
          intro y hy
          rcases List.mem_cons.mp hy with rfl | hy
          · exact q
          · exact ih y hy
      exact this q3
    obtain ⟨x, e5, hx⟩ := join_letters (l := h3.length) (h := h3 ++ [.lst ys]) (by rw [List.getElem?_concat_length]) qy (by omega) (by omega)
    have lr : (rangeL 0 (1 + ((n2 : Nat) : Int))).length ≤ LIM := by
      simp [rangeL]; unfold LIM; omega
    refine ⟨x, h3 ++ [.lst ys], ?_, hx, (m1.trans (m2.trans m3)).app _⟩
    simp only [ev, D_law_name, e1', eq_int, h0, decide_false, e2', hr, lr, wipeE, List.set_cons_succ, List.set_cons_zero, e3, e5]
end Pv
end
/-! PlHeap -/
section
set_option Elab.async false
set_option linter.all false
set_option maxRecDepth 100000
set_option autoImplicit false
/-! Pl: lists in the heap. -/
namespace Pv
open PySem PySem.Spec PyProof.Rows L2 TL
section
variable {h : VH} {l : Nat} {vs : List Val} (e : h[l]? = some (.lst vs))
include e
theorem tyl : tyIs "list" (.ref l) h = true := by
  unfold tyIs
  simp only [e]
  rfl
theorem append_ref (y : Val) (b : vs.length < LIM) : mAppend (.ref l) [y] h = .ok .non (h.set l (.lst (vs ++ [y]))) := by
  unfold mAppend
  simp only [e]
  rw [if_pos b]
theorem src_ref : srcOf (.ref l) h = some ([(l, .lst vs)], vs) := by
  show (match h[l]? with
    | some (.lst vs) => some ([(l, VObj.lst vs)], vs)
    | some (.frz vs) => some ([(l, VObj.frz vs)], vs)
    | _ => none) = _
  rw [e]
theorem alive_ref : alive [(l, .lst vs)] h = true := by
  unfold alive
  simp [e]
theorem len_ref : bLen [.ref l] h = .ok (.int (vs.length : Nat)) h := by
  show (got (match h[l]? with
    | some (.lst vs) => some vs.length
    | some (.frz vs) => some vs.length
    | _ => none) h).bind (fun n h => Out.ok (Val.int (n : Nat)) h) = _
  rw [e]; rfl
theorem tuple_ref : bTuple [.ref l] h = .ok (.tup vs) h := by
  show (got (match h[l]? with
    | some (.lst vs) => some vs
    | some (.frz vs) => some vs
    | _ => none) h).bind (fun vs h => Out.ok (Val.tup vs) h) = _
  rw [e]; rfl
theorem list_ref : bList [.ref l] h = .ok (.ref h.length) (h ++ [.lst vs]) := by
  show (got (match h[l]? with
    | some (.lst vs) => some vs
    | some (.frz vs) => some vs
    | _ => none) h).bind (fun vs h => Out.ok (Val.ref h.length) (h ++ [.lst vs])) = _
  rw [e]; rfl
theorem truth_ref : truth (.ref l) h = some (!vs.isEmpty) := by
  show (match h[l]? with
    | some (.lst vs) => some (!vs.isEmpty)
    | some (.frz vs) => some (!vs.isEmpty)
    | _ => none) = _
  rw [e]
end
theorem alive_of {l : Nat} {o : VObj} {h : VH} (e : h[l]? = some o) : alive [(l, o)] h = true := by
  unfold alive
  simp [e]
theorem pre_at {h h' : VH} (g : h <+: h') {l : Nat} {o : VObj} (e : h[l]? = some o) : h'[l]? = some o := by
  obtain ⟨t, rfl⟩ := g
  rw [List.getElem?_append_left (lt_of_at e)]; exact e
theorem new_at (h : VH) (o : VObj) : (h ++ [o])[h.length]? = some o := List.getElem?_concat_length
theorem mapM_str (h : VH) : ∀ ns : List Str, (ns.map Val.str).mapM (toD DEEP h) = some (ns.map PyData.str)
  | [] => rfl
  | n :: ns => by
    rw [List.map_cons, List.mapM_cons, mapM_str h ns]; rfl
theorem any_str (i : Str) : ∀ ns : List Str, ((ns.map PyData.str).any fun z => PyData.eqv z (.str i)) = decide (i ∈ ns)
  | [] => rfl
  | n :: ns => by
    rw [List.map_cons, List.any_cons, any_str i ns]
    show ((n == i) || decide (i ∈ ns)) = _
    rw [Bool.eq_iff_iff]
    simp only [Bool.or_eq_true, beq_iff_eq, decide_eq_true_eq, List.mem_cons]
    constructor
    · rintro (h | h)
      · exact .inl h.symm
      · exact .inr h
    · rintro (h | h)
      · exact .inl h.symm
      · exact .inr h
theorem isin_strs {i : Str} {l : Nat} {ns : List Str} {h : VH} (e : h[l]? = some (.lst (ns.map .str))) : isIn (.str i) (.ref l) h = some (decide (i ∈ ns)) := by
  unfold isIn
  simp only [e]
  show (match some (PyData.str i), (ns.map Val.str).mapM (toD DEEP h) with
      | some d, some ds => some (ds.any fun z => PyData.eqv z d)
      | _, _ => none) = _
  rw [mapM_str]
  show some ((ns.map PyData.str).any fun z => PyData.eqv z (.str i)) = _
  rw [any_str]
theorem isin_ints {i : Int} {l : Nat} {ns : List Int} {h : VH} (e : h[l]? = some (.lst (ns.map .int))) : isIn (.int i) (.ref l) h = some (decide (i ∈ ns)) := by
  unfold isIn
  simp only [e]
  show (match some (PyData.int i), (ns.map Val.int).mapM (toD DEEP h) with
      | some d, some ds => some (ds.any fun z => PyData.eqv z d)
      | _, _ => none) = _
  rw [mapM_int]
  show some ((ns.map PyData.int).any fun z => PyData.eqv z (.int i)) = _
  rw [any_int]
theorem opIn_of {a b : Val} {h : VH} {x : Bool} (e : isIn a b h = some x) : opIn a b h = .ok (.bl x) h := by
  unfold opIn; rw [e]; rfl
theorem opNotIn_of {a b : Val} {h : VH} {x : Bool} (e : isIn a b h = some x) : opNotIn a b h = .ok (.bl (!x)) h := by
  unfold opNotIn; rw [e]; rfl
end Pv
end
/-! PlKinds -/
section
set_option Elab.async false
set_option linter.all false
set_option maxRecDepth 100000
set_option autoImplicit false
/-! Pl: signs drawn. -/
namespace Pv
open PySem PySem.Spec PyProof.Rows L2 TL
theorem names_of (s : Sg) : (s.map sgV).map (fun v => match v with
    | .tup [a, _] => a
    | _ => Val.non) = (s.map (·.1)).map .str := by rw [List.map_map, List.map_map]; rfl
theorem parts_of' (s : Sg) : (s.map sgV).map (fun v => match v with
    | .tup [_, a] => a
    | _ => Val.non) = (s.map fun p => (p.2 : Int)).map .int := by rw [List.map_map, List.map_map]; rfl
theorem Pm.of_prefix {p : Nat} {a b : VH} (hp : Pot p a) (x : a <+: b) : Pm p a b := by
  obtain ⟨t, rfl⟩ := x
  exact (Pm.refl hp).app t
/-- a column of a list of signs -/
theorem col_names {cfg : Cfg} (hc : cfg.hot = none) {F : Nat} {s : Sg} {i j : Nat} {g : Tg} {e : Tm} {rho : Env} {h : VH} (hF : h[F]? = some (.lst (s.map sgV)))
    (hs : ∀ (p : Str × Nat) (h : VH), ∃ rho1, g (sgV p) cfg rho h = .ok rho1 h ∧ e cfg rho1 h = .ok (.str p.1) h) :
    ∃ h', lcL [(F, .lst (s.map sgV))] g tYes e cfg rho (s.map sgV) h = .ok ((s.map (·.1)).map .str) h' ∧ h <+: h' := by
  obtain ⟨h', e1, p1⟩ := lcL_map (w := [(F, .lst (s.map sgV))]) (g := g) (e := e) (c := cfg) (rho := rho) (fun h' => h <+: h') (fun v => match v with
    | .tup [a, _] => a
    | _ => Val.non) (fun h' p => alive_of (pre_at p hF)) (s.map sgV) h (List.prefix_refl _) (fun v hv h1 p1 => by
      obtain ⟨q, _, rfl⟩ := List.mem_map.mp hv
      obtain ⟨rho1, e1, e2⟩ := hs q h1
      exact ⟨rho1, h1, h1, e1, e2, p1⟩)
  rw [names_of] at e1
  exact ⟨h', e1, p1⟩
theorem col_parts {cfg : Cfg} (hc : cfg.hot = none) {F : Nat} {s : Sg} {i j : Nat} {g : Tg} {e : Tm} {rho : Env} {h : VH} (hF : h[F]? = some (.lst (s.map sgV)))
    (hs : ∀ (p : Str × Nat) (h : VH), ∃ rho1, g (sgV p) cfg rho h = .ok rho1 h ∧ e cfg rho1 h = .ok (.int (p.2 : Nat)) h) :
    ∃ h', lcL [(F, .lst (s.map sgV))] g tYes e cfg rho (s.map sgV) h = .ok ((s.map fun p => (p.2 : Int)).map .int) h' ∧ h <+: h' := by
  obtain ⟨h', e1, p1⟩ := lcL_map (w := [(F, .lst (s.map sgV))]) (g := g) (e := e) (c := cfg) (rho := rho) (fun h' => h <+: h') (fun v => match v with
    | .tup [_, a] => a
    | _ => Val.non) (fun h' p => alive_of (pre_at p hF)) (s.map sgV) h (List.prefix_refl _) (fun v hv h1 p1 => by
      obtain ⟨q, _, rfl⟩ := List.mem_map.mp hv
      obtain ⟨rho1, e1, e2⟩ := hs q h1
      exact ⟨rho1, h1, h1, e1, e2, p1⟩)
  rw [parts_of'] at e1
  exact ⟨h', e1, p1⟩
/-- a draw of a list that is written: which one, and what moved -/
theorem draw_of {T : Tab} (t : Ok_law_take T) (k : Nat) {p : Nat} {h : VH} (hp : Pot p h) (vs : List Val) (P : Val → Prop) (hP : ∀ v ∈ vs, P v) (h0 : 0 < vs.length) (h1 : vs.length < 2 ^ 64) :
    ∃ (n : Nat) (v : Val) (h' : VH), callN T (k + 1) none 1002 [.ref p, .int (vs.length : Nat)] [] (h ++ [.lst vs]) = .ok (.int (n : Nat)) h' ∧ opIdx (.ref h.length) (.int (n : Nat)) h' = .ok v h' ∧ P v ∧ Pm p h h' := by
  obtain ⟨n, h', e, l, m⟩ := sp_take t k none (hp.app [.lst vs]) h0 h1
  obtain ⟨v, hv, pv⟩ := some_of_all hP l
  exact ⟨n, v, h', e, ix_ref (lit_at m hp.lt) hv, pv, Pm.new m⟩
/-- signs being drawn -/
structure Gr (s : Sg) : Prop where
  name : ∀ p ∈ s, okName p.1
  parts : ∀ p ∈ s, p.2 ≤ 3
  nodup : (s.map (·.1)).Nodup
theorem Gr.snoc {s : Sg} (g : Gr s) {x : Str} {n : Nat} (hx : okName x) (hn : n ≤ 3) (hm : x ∉ s.map (·.1)) : Gr (s ++ [(x, n)]) := by
  refine ⟨fun p hp => ?_, fun p hp => ?_, ?_⟩
  · rcases List.mem_append.mp hp with hp | hp
    · exact g.name p hp
    · rw [List.mem_singleton] at hp; subst hp; exact hx
  · rcases List.mem_append.mp hp with hp | hp
    · exact g.parts p hp
    · rw [List.mem_singleton] at hp; subst hp; exact hn
  · rw [List.map_append, List.nodup_append]
    refine ⟨g.nodup, by simp, fun a ha b hb => ?_⟩
    simp only [List.map_cons, List.map_nil, List.mem_singleton] at hb
    subst hb
    exact fun e => hm (e ▸ ha)
theorem Gr.set {s : Sg} (g : Gr s) {i : Nat} {x : Str} {n : Nat} (hi : s[i]? = some (x, n)) : Gr (s.set i (x, 0)) := by
  have mem : (x, n) ∈ s := List.mem_of_getElem? hi
  have em : (s.set i (x, 0)).map (·.1) = s.map (·.1) := by
    rw [List.map_set]
    apply List.ext_getElem?
    intro j
    by_cases hj : i = j
    · subst hj
      rw [List.getElem?_set_self (by rw [List.length_map]; exact (List.getElem?_eq_some_iff.mp hi).1), List.getElem?_map, hi]; rfl
    · rw [List.getElem?_set_ne hj]
  refine ⟨fun p hp => ?_, fun p hp => ?_, by rw [em]; exact g.nodup⟩
  · rcases List.mem_or_eq_of_mem_set hp with hp | rfl
    · exact g.name p hp
    · exact g.name (x, n) mem
  · rcases List.mem_or_eq_of_mem_set hp with hp | rfl
    · exact g.parts p hp
    · simp
structure KI (p F : Nat) (h0 : VH) (s : Sg) (h : VH) : Prop where
  at_ : h[F]? = some (.lst (s.map sgV))
  kp : Kp (fun l => l = p ∨ l = F) h0 h
  pot : Pot p h
  gr : Gr s
theorem KI.step {p F : Nat} {h0 h h' : VH} {s : Sg} (x : KI p F h0 s h) (hF : F ≠ p) (m : Pm p h h') : KI p F h0 s h' :=
  ⟨m.kp.at x.at_ hF, x.kp.trans (m.kp.mono fun l _ e => .inl e), m.pot, x.gr⟩
theorem kinds_turn {T : Tab} (t : Ok_law_kinds T) (k : Nat) {p F : Nat} (hF : F ≠ p) {h0 h : VH} {s : Sg} (x : KI p F h0 s h) (hl : s.length < 8) (x2 x3 : Option Val) :
    ∃ (s' : Sg) (h' : VH) (x3' : Option Val), L1_law_kinds ⟨callN T (k + 2), none⟩ [some (.ref p), some (.ref F), x2, x3, none, none, none] h = .nx [some (.ref p), some (.ref F), x2, x3', none, none, none] h' ∧ KI p F h0 s' h' ∧ 1 ≤ s'.length ∧ s'.length ≤ s.length + 1 := by
  obtain ⟨nm, h1, e1, on, m1⟩ := sp_name t.law_name k x.pot
  have x1 := x.step hF m1
  obtain ⟨h2, e2, g2⟩ := col_names (cfg := ⟨callN T (k + 2), none⟩) rfl (i := 0) (j := 0) (g := gTup 2 (gCons (gName 5) (gCons (gName 6) gNil))) (e := eV 5) (rho := [some (.ref p), some (.ref F), x2, some (.str nm), none, none, none]) x1.at_ (fun q h => ⟨[some (.ref p), some (.ref F), x2, some (.str nm), none, some (.str q.1), some (.int (q.2 : Nat))], by simp only [ev, sgV, List.length_cons, List.length_nil], by simp only [ev]⟩)
  have m2 : Pm p h1 (h2 ++ [.lst ((s.map (·.1)).map .str)]) := Pm.of_prefix x1.pot (g2.trans (List.prefix_append _ _))
  have x2' := x1.step hF m2
  have isn := opNotIn_of (isin_strs (i := nm) (new_at h2 (.lst ((s.map (·.1)).map .str))))
  have ll : (s.map sgV).length ≤ LIM := by rw [List.length_map]; unfold LIM; omega
  by_cases hn : nm ∈ s.map (·.1)
  · rw [decide_eq_true hn] at isn
    refine ⟨s, _, some (.str nm), ?_, x2', ?_, Nat.le_succ _⟩
    · simp only [ev, L1_law_kinds, e1, src_ref x1.at_, ll, wipeE, List.set_cons_succ, List.set_cons_zero, e2, isn, Bool.not_true]
    · cases s with
      | nil => cases hn
      | cons a s => simp
  · rw [decide_eq_false hn] at isn
    have tl1 := tyl x2'.at_
    obtain ⟨n3, v3, h3, e3, i3, p3, m3⟩ := draw_of t.law_take (k + 1) x2'.pot [.int 0, .int 1, .int 2, .int 3, .int 2, .int 0] (fun v => ∃ n : Nat, v = .int (n : Nat) ∧ n ≤ 3) (fun v hv => by
      simp only [List.mem_cons, List.not_mem_nil, or_false] at hv
      rcases hv with rfl | rfl | rfl | rfl | rfl | rfl
      · exact ⟨0, rfl, by omega⟩
      · exact ⟨1, rfl, by omega⟩
      · exact ⟨2, rfl, by omega⟩
      · exact ⟨3, rfl, by omega⟩
      · exact ⟨2, rfl, by omega⟩
      · exact ⟨0, rfl, by omega⟩) (by simp) (by simp)
    obtain ⟨n, rfl, hn3⟩ := p3
    have e3' : callN T (k + 2) none 1002 [.ref p, .int 6] [] (h2 ++ [.lst ((s.map (·.1)).map .str)] ++ [.lst [.int 0, .int 1, .int 2, .int 3, .int 2, .int 0]]) = .ok (.int (n3 : Nat)) h3 := e3
    have x3' := x2'.step hF m3
    have ap := append_ref x3'.at_ (.tup [.str nm, .int (n : Nat)]) (by rw [List.length_map]; unfold LIM; omega)
    refine ⟨s ++ [(nm, n)], h3.set F (.lst (s.map sgV ++ [.tup [.str nm, .int (n : Nat)]])), some (.str nm), ?_, ⟨?_, ?_, ?_, x3'.gr.snoc on hn3 hn⟩, by simp, by simp⟩
    · simp only [ev, L1_law_kinds, e1, src_ref x1.at_, ll, wipeE, List.set_cons_succ, List.set_cons_zero, e2, isn, Bool.not_false, tl1, e3', i3, ap]
    · rw [List.getElem?_set_self (lt_of_at x3'.at_), List.map_append]; rfl
    · exact x3'.kp.trans (.set _ fun _ => .inr rfl)
    · obtain ⟨z, ez⟩ := x3'.pot
      exact ⟨z, by rw [List.getElem?_set_ne hF]; exact ez⟩
theorem sp_kinds {T : Tab} (t : Ok_law_kinds T) (k : Nat) {p : Nat} {h : VH} (hp : Pot p h) : ∃ (s : Sg) (h' : VH), callN T (k + 3) none 1004 [.ref p] [] h = .ok (eSg s) h' ∧ GoodSg s ∧ Pm p h h' := by
  rw [call_law_kinds t]
  have hF : h.length ≠ p := by have := hp.lt; omega
  -- how many
  have hp1 := hp.app [.lst []]
  obtain ⟨n1, v1, h1, e1, i1, ⟨f, rfl, f0, f8⟩, m1⟩ := draw_of t.law_take (k + 1) hp1 [.int 3, .int 5, .int 8] (fun v => ∃ n : Nat, v = .int (n : Nat) ∧ 0 < n ∧ n ≤ 8) (fun v hv => by
      simp only [List.mem_cons, List.not_mem_nil, or_false] at hv
      rcases hv with rfl | rfl | rfl
      · exact ⟨3, rfl, by omega, by omega⟩
      · exact ⟨5, rfl, by omega, by omega⟩
      · exact ⟨8, rfl, by omega, by omega⟩) (by simp) (by simp)
  have e1' : callN T (k + 2) none 1002 [.ref p, .int 3] [] (h ++ [.lst []] ++ [.lst [.int 3, .int 5, .int 8]]) = _ := e1
  obtain ⟨n2, h2, e2, l2, m2⟩ := sp_take t.law_take (k + 1) none m1.pot f0 (by omega)
  have hr : (-BIG ≤ 1 + ((n2 : Nat) : Int) ∧ 1 + ((n2 : Nat) : Int) < BIG) = True := by
    simp only [BIG, eq_iff_iff, iff_true]; omega
  have m12 := m1.trans m2
  have KI0 : KI p h.length (h ++ [.lst []]) [] h2 := ⟨m12.kp.at (new_at _ _) hF, m12.kp.mono fun l _ e => .inl e, m12.pot, ⟨(fun q hq => by cases hq), (fun q hq => by cases hq), by simp⟩⟩
  have lr : (rangeL 0 (1 + ((n2 : Nat) : Int))).length = n2 + 1 := by simp [rangeL]; omega
  obtain ⟨rho, h3, e3, s, x2, x3, rfl, x, s1, s2⟩ := forL_inv (w := []) (g := gName 2) (b := L1_law_kinds) (c := ⟨callN T (k + 2), none⟩)
    (fun d rho h' => ∃ (s : Sg) (x2 x3 : Option Val), rho = [some (.ref p), some (.ref h.length), x2, x3, none, none, none] ∧ KI p h.length (h ++ [.lst []]) s h' ∧ (d ≠ [] → 1 ≤ s.length) ∧ s.length ≤ d.length)
    (rangeL 0 (1 + ((n2 : Nat) : Int))) [some (.ref p), some (.ref h.length), none, none, none, none, none] h2 (fun _ _ _ _ => rfl) ⟨[], none, none, rfl, KI0, fun z => absurd rfl z, by simp⟩ (by
      rintro d v r rho h' e ⟨s, x2, x3, rfl, x, s1, s2⟩
      have hd : d.length < 8 := by
        have := congrArg List.length e
        rw [lr] at this
        simp at this
        omega
      obtain ⟨s', h4, x3', e4, x4, q1, q2⟩ := kinds_turn t k hF x (by omega) (some v) x3
      exact ⟨_, _, _, _, (by simp only [ev]), .inl e4, s', some v, x3', rfl, x4, fun _ => q1, by simp; omega⟩)
  have s1' : 1 ≤ s.length := s1 (by
    intro z
    rw [z] at lr
    simp at lr)
  have s2' : s.length ≤ 8 := by rw [lr] at s2; omega
  have ll : (s.map sgV).length ≤ LIM := by rw [List.length_map]; unfold LIM; omega
  obtain ⟨h4, e4, g4⟩ := col_parts (cfg := ⟨callN T (k + 2), none⟩) rfl (i := 0) (j := 0) (g := gTup 2 (gCons (gName 3) (gCons (gName 6) gNil))) (e := eV 6) (rho := [some (.ref p), some (.ref h.length), x2, none, none, none, none]) x.at_ (fun q h' => ⟨[some (.ref p), some (.ref h.length), x2, some (.str q.1), none, none, some (.int (q.2 : Nat))], by simp only [ev, sgV, List.length_cons, List.length_nil], by simp only [ev]⟩)
  have m4 : Pm p h3 (h4 ++ [.lst ((s.map fun p => (p.2 : Int)).map .int)]) := Pm.of_prefix x.pot (g4.trans (List.prefix_append _ _))
  have x4 := x.step hF m4
  have isn := opNotIn_of (isin_ints (i := 0) (new_at h4 (.lst ((s.map fun p => (p.2 : Int)).map .int))))
  have fin : ∀ {s' : Sg} {h' : VH}, KI p h.length (h ++ [.lst []]) s' h' → Pm p h h' := fun y => ⟨(Kp.app h _).trans y.kp |>.mono fun l hl e => by
    rcases e with e | e
    · exact e
    · omega, y.pot⟩
  by_cases hz : (0 : Int) ∈ s.map fun p => (p.2 : Int)
  · rw [decide_eq_true hz] at isn
    obtain ⟨q, hq, z⟩ := List.mem_map.mp hz
    refine ⟨s, _, ?_, ⟨s1', s2', x.gr.name, x.gr.parts, x.gr.nodup, q, hq, by omega⟩, fin x4⟩
    simp only [ev, D_law_kinds, e1', i1, e2, hr, e3, src_ref x.at_, ll, wipeE, List.set_cons_succ, List.set_cons_zero, e4, isn, Bool.not_true, tuple_ref x4.at_, eSg]
  · rw [decide_eq_false hz] at isn
    obtain ⟨n5, h5, e5, l5, m5⟩ := sp_take t.law_take (k + 1) none x4.pot (f := (s.map sgV).length) (by rw [List.length_map]; omega) (by rw [List.length_map]; omega)
    have x5 := x4.step hF m5
    rw [List.length_map] at l5
    obtain ⟨q, hq⟩ : ∃ q, s[n5]? = some q := ⟨_, List.getElem?_eq_getElem l5⟩
    have hq' : (s.map sgV)[n5]? = some (.tup [.str q.1, .int (q.2 : Nat)]) := by rw [List.getElem?_map, hq]; rfl
    have st := set_ref (n := n5) (.tup [.str q.1, .int 0]) x5.at_ (by rw [List.length_map]; exact l5)
    have em : (s.map sgV).set n5 (.tup [.str q.1, .int 0]) = (s.set n5 (q.1, 0)).map sgV := by rw [List.map_set]; rfl
    rw [em] at st
    have x6 : KI p h.length (h ++ [.lst []]) (s.set n5 (q.1, 0)) (h5.set h.length (.lst ((s.set n5 (q.1, 0)).map sgV))) := by
      refine ⟨?_, x5.kp.trans (.set _ fun _ => .inr rfl), ?_, x5.gr.set (n := q.2) hq⟩
      · rw [List.getElem?_set_self (lt_of_at x5.at_)]
      · obtain ⟨z, ez⟩ := x5.pot
        exact ⟨z, by rw [List.getElem?_set_ne hF]; exact ez⟩
    refine ⟨s.set n5 (q.1, 0), h5.set h.length (.lst ((s.set n5 (q.1, 0)).map sgV)), ?_, ⟨by simpa using s1', by simpa using s2', x6.gr.name, x6.gr.parts, x6.gr.nodup, (q.1, 0), ?_, rfl⟩, fin x6⟩
    · simp only [ev, D_law_kinds, e1', i1, e2, hr, e3, src_ref x.at_, ll, wipeE, List.set_cons_succ, List.set_cons_zero, e4, isn, Bool.not_false, len_ref x4.at_, e5, ix_ref x5.at_ hq', atI_0, st, tuple_ref x6.at_, eSg]
    · exact List.mem_iff_getElem?.mpr ⟨n5, List.getElem?_set_self l5⟩
end Pv
end
/-! PlDrawT -/
section
set_option Elab.async false
set_option linter.all false
set_option maxRecDepth 100000
set_option autoImplicit false
/-! Pl: terms drawn; where they end. -/
namespace Pv
open PySem PySem.Spec PyProof.Rows L2 TL
theorem sWhile_eq (t : Tt) (b : Ts) (c : Cfg) (rho : Env) (h : VH) : sWhile t b c rho h = whileN t b c FUEL rho h := rfl
/-- a while that goes on while its measure falls -/
theorem whileN_inv {t : Tt} {b : Ts} {c : Cfg} (I : Nat → Env → VH → Prop) (D : Env → VH → Prop)
    (st : ∀ m rho h, I m rho h → ∃ k h1, t c rho h = .ok k h1 ∧ ((k = false ∧ D rho h1) ∨ (k = true ∧ ∃ rho2 h2 m', (b c rho h1 = .nx rho2 h2 ∨ b c rho h1 = .ct rho2 h2) ∧ m' < m ∧ I m' rho2 h2))) :
    ∀ (n m : Nat) (rho : Env) (h : VH), m < n → I m rho h → ∃ rho' h', whileN t b c n rho h = .nx rho' h' ∧ D rho' h'
  | 0, m, _, _, hm, _ => absurd hm (Nat.not_lt_zero m)
  | n + 1, m, rho, h, hm, i => by
    obtain ⟨k, h1, e1, ⟨rfl, d⟩ | ⟨rfl, rho2, h2, m', e2, l, i2⟩⟩ := st m rho h i
    · exact ⟨rho, h1, by unfold whileN; rw [e1]; rfl, d⟩
    · obtain ⟨rho', h', e, d⟩ := whileN_inv I D st n m' rho2 h2 (by omega) i2
      refine ⟨rho', h', ?_, d⟩
      unfold whileN
      rw [e1]
      rcases e2 with e2 | e2
      · simp [e2, e]
      · simp [e2, e]
theorem sWhile_inv {t : Tt} {b : Ts} {c : Cfg} (I : Nat → Env → VH → Prop) (D : Env → VH → Prop) (m : Nat) (rho : Env) (h : VH) (hm : m < FUEL) (i : I m rho h)
    (st : ∀ m rho h, I m rho h → ∃ k h1, t c rho h = .ok k h1 ∧ ((k = false ∧ D rho h1) ∨ (k = true ∧ ∃ rho2 h2 m', (b c rho h1 = .nx rho2 h2 ∨ b c rho h1 = .ct rho2 h2) ∧ m' < m ∧ I m' rho2 h2))) :
    ∃ rho' h', sWhile t b c rho h = .nx rho' h' ∧ D rho' h' := whileN_inv I D st FUEL m rho h hm i
/-! ### law_end -/
theorem atI_row {r : Row} {n v : Nat} (e : r[n]? = some v) : atI (r.map fun n => Val.int (n : Nat)) (n : Nat) = some (.int (v : Nat)) := by
  rw [atI_nat, List.getElem?_map, e]; rfl
theorem end_while {s : Sg} {r : Row} (f : Option Nat → Nat → List Val → List (Str × Val) → VH → Out Val) (x2 : Option Val) (h : VH) : ∀ (n : Nat) (q : Row) (p w c : Nat), r.drop p = q → skp s q w = some c → c < n →
    whileN (tVal (eOp opGt (eV 3) (eC (.int 0)))) W1_law_end ⟨f, none⟩ n [some (eSg s), some (eRow r), x2, some (.int (w : Nat)), some (.int (p : Nat))] h = .nx [some (eSg s), some (eRow r), x2, some (.int 0), some (.int ((p + c : Nat) : Int))] h
  | 0, _, _, _, c, _, _, hc => absurd hc (Nat.not_lt_zero c)
  | n + 1, q, p, 0, c, _, e, _ => by
    have : c = 0 := by cases q <;> simp [skp] at e <;> omega
    subst this
    unfold whileN
    simp only [ev]
    rfl
  | n + 1, [], p, w + 1, c, _, e, _ => by simp [skp] at e
  | n + 1, v :: q, p, w + 1, c, hd, e, hc => by
    simp only [skp] at e
    cases hs : s[v]? with
    | none => rw [hs] at e; cases e
    | some y =>
      obtain ⟨x, a⟩ := y
      rw [hs] at e
      simp only at e
      obtain ⟨d, h1, rfl⟩ := Option.map_eq_some_iff.mp e
      have hv : r[p]? = some v := by
        have := congrArg (fun l => l[0]?) hd
        simpa using this
      have hd2 : r.drop (p + 1) = q := by
        rw [← List.drop_drop, hd]; rfl
      have g0 : (0 : Int) < ((w + 1 : Nat) : Int) := by omega
      have a1 : (((w + 1 : Nat) : Int) - 1 + ((a : Nat) : Int)) = ((w + a : Nat) : Int) := by omega
      have a2 : ((p : Nat) : Int) + 1 = ((p + 1 : Nat) : Int) := by omega
      have ih := end_while f x2 h n q (p + 1) (w + a) d hd2 h1 (by omega)
      unfold eSg eRow at ih
      rw [show ((p + (d + 1) : Nat) : Int) = ((p + 1 + d : Nat) : Int) from by omega]
      unfold whileN
      simp only [ev, g0, decide_true, W1_law_end, eSg, eRow, atI_row hv, atI_sg hs, atI_1, a1, a2]
      exact ih
theorem sp_end {T : Tab} (t : Ok_law_end T) (k : Nat) {s : Sg} {r : Row} {p c : Nat} (e : skp s (r.drop p) 1 = some c) (hc : c < 1000) (h : VH) : callN T (k + 1) none 1006 [eSg s, eRow r, .int (p : Nat)] [] h = .ok (.int ((p + c : Nat) : Int)) h := by
  rw [call_law_end t]
  have := end_while (s := s) (r := r) (callN T k) (some (.int (p : Nat))) h FUEL (r.drop p) p 1 c rfl e (by unfold FUEL; omega)
  have this' : whileN (tVal (eOp opGt (eV 3) (eC (.int 0)))) W1_law_end ⟨callN T k, none⟩ FUEL [some (eSg s), some (eRow r), some (.int (p : Nat)), some (.int 1), some (.int (p : Nat))] h = _ := this
  simp only [ev, D_law_end, List.set_cons_succ, List.set_cons_zero, sWhile_eq, this']
/-! ### law_term -/
theorem filter_range {s : Sg} (room : Nat) : (rangeL 0 (s.length : Nat)).filterMap (fun v => match v with
    | .int i => match s[i.toNat]? with
      | some q => if q.2 ≤ room then some (.int i) else none
      | none => none
    | _ => none) = ((List.range s.length).filter fun i => match s[i]? with
      | some q => decide (q.2 ≤ room)
      | none => false).map fun (i : Nat) => Val.int (i : Nat) := by
  rw [rangeL_nat]
  generalize List.range s.length = l
  induction l with
  | nil => rfl
  | cons i l ih =>
    rw [List.map_cons, List.filterMap_cons, List.filter_cons, ih]
    simp only [Int.toNat_natCast]
    cases s[i]? with
    | none => simp
    | some q =>
      by_cases hq : q.2 ≤ room
      · simp [hq]
      · simp [hq]
structure TI (s : Sg) (p R top : Nat) (h0 : VH) (t : Row) (w : Nat) (h : VH) : Prop where
  at_ : h[R]? = some (.lst (t.map fun n => .int (n : Nat)))
  kp : Kp (fun l => l = p ∨ l = R) h0 h
  pot : Pot p h
  sk : ∀ r : Row, skp s (t ++ r) 1 = (skp s r w).map (· + t.length)
  le : t.length + w ≤ top
theorem TI.step {s : Sg} {p R top : Nat} {h0 h h' : VH} {t : Row} {w : Nat} (x : TI s p R top h0 t w h) (hR : R ≠ p) (m : Pm p h h') : TI s p R top h0 t w h' :=
  ⟨m.kp.at x.at_ hR, x.kp.trans (m.kp.mono fun l _ e => .inl e), m.pot, x.sk, x.le⟩
theorem term_turn {T : Tab} (tk : Ok_law_term T) (k : Nat) {s : Sg} (g : GoodSg s) {p R top : Nat} (hR : R ≠ p) (ht : top ≤ 1000) {h0 h : VH} {t : Row} {w : Nat} (x : TI s p R top h0 t (w + 1) h) (x5 x6 x7 : Option Val) :
    ∃ (n w' : Nat) (h' : VH) (y5 y6 y7 : Option Val), W2_law_term ⟨callN T (k + 1), none⟩ [some (.ref p), some (eSg s), some (.int (top : Nat)), some (.ref R), some (.int (w + 1 : Nat)), x5, x6, x7] h = .nx [some (.ref p), some (eSg s), some (.int (top : Nat)), some (.ref R), some (.int (w' : Nat)), y5, y6, y7] h' ∧ TI s p R top h0 (t ++ [n]) w' h' := by
  have le := x.le
  obtain ⟨room, hroom⟩ : ∃ room : Nat, ((top : Nat) : Int) - (((t.map fun n => Val.int (n : Nat)).length : Nat) : Int) - ((w + 1 : Nat) : Int) = (room : Nat) := ⟨top - t.length - (w + 1), by rw [List.length_map]; omega⟩
  have hroom2 : t.length + (w + 1) + room = top := by rw [List.length_map] at hroom; omega
  obtain ⟨h1, e1, p1⟩ := lcL_fm (w := []) (g := gName 7) (t := T1_law_term) (e := eV 7) (c := ⟨callN T (k + 1), none⟩) (rho := [some (.ref p), some (eSg s), some (.int (top : Nat)), some (.ref R), some (.int (w + 1 : Nat)), some (.int (room : Nat)), x6, none]) (fun h' => h' = h) (fun v => match v with
    | .int i => match s[i.toNat]? with
      | some q => if q.2 ≤ room then some (.int i) else none
      | none => none
    | _ => none) (fun _ _ => rfl) (rangeL 0 (s.length : Nat)) h rfl (by
      rintro v hv h' rfl
      rw [rangeL_nat] at hv
      obtain ⟨i, hi, rfl⟩ := List.mem_map.mp hv
      rw [List.mem_range] at hi
      have hq : s[i]? = some (s[i].1, s[i].2) := List.getElem?_eq_getElem hi
      refine ⟨_, h', h', by simp only [ev]; rfl, ?_⟩
      simp only [Int.toNat_natCast, hq]
      by_cases hz : s[i].2 ≤ room
      · right
        have d : decide (((s[i].2 : Nat) : Int) ≤ (room : Nat)) = true := by simpa using hz
        refine ⟨.int (i : Nat), h', by rw [if_pos hz], ?_, by simp only [ev], (by first | rfl | trivial)⟩
        simp only [ev, T1_law_term, eSg, atI_sg hq, atI_1, d]
      · left
        have d : decide (((s[i].2 : Nat) : Int) ≤ (room : Nat)) = false := by simpa using hz
        refine ⟨by rw [if_neg hz], ?_, (by first | rfl | trivial)⟩
        simp only [ev, T1_law_term, eSg, atI_sg hq, atI_1, d])
  subst p1
  rw [filter_range] at e1
  generalize hL : ((List.range s.length).filter fun i => match s[i]? with
      | some q => decide (q.2 ≤ room)
      | none => false) = L at e1
  have memL : ∀ i ∈ L, ∃ q, s[i]? = some q ∧ q.2 ≤ room := fun i hi => by
    rw [← hL, List.mem_filter] at hi
    obtain ⟨_, hi⟩ := hi
    cases hq : s[i]? with
    | none => rw [hq] at hi; cases hi
    | some q => rw [hq] at hi; exact ⟨q, rfl, of_decide_eq_true hi⟩
  have L0 : 0 < L.length := by
    obtain ⟨q, hq, z⟩ := g.zero
    obtain ⟨i, hi⟩ := List.mem_iff_getElem?.mp hq
    have hlt : i < s.length := (List.getElem?_eq_some_iff.mp hi).1
    have : i ∈ L := by
      rw [← hL, List.mem_filter]
      exact ⟨List.mem_range.mpr hlt, by rw [hi]; exact decide_eq_true (by omega)⟩
    exact List.length_pos_of_mem this
  have L8 : L.length ≤ 8 := by
    rw [← hL]
    refine Nat.le_trans (List.length_filter_le _ _) ?_
    rw [List.length_range]; exact g.most
  have nw := new_at h1 (.lst (L.map fun (i : Nat) => Val.int (i : Nat)))
  have x1 : TI s p R top h0 t (w + 1) (h1 ++ [.lst (L.map fun (i : Nat) => Val.int (i : Nat))]) := x.step hR ((Pm.refl x.pot).app _)
  obtain ⟨n2, h2, e2, l2, m2⟩ := sp_take tk.law_take k none x1.pot (f := (L.map fun (i : Nat) => Val.int (i : Nat)).length) (by rw [List.length_map]; exact L0) (by rw [List.length_map]; omega)
  have x2 := x1.step hR m2
  rw [List.length_map] at l2
  obtain ⟨n, hn⟩ : ∃ n, L[n2]? = some n := ⟨_, List.getElem?_eq_getElem l2⟩
  obtain ⟨q, hq, hq2⟩ := memL n (List.mem_of_getElem? hn)
  have i2 : opIdx (.ref h1.length) (.int (n2 : Nat)) h2 = .ok (.int (n : Nat)) h2 := ix_ref (m2.kp.at nw (by have := x.pot.lt; omega)) (by rw [List.getElem?_map, hn]; rfl)
  have ap := append_ref x2.at_ (.int (n : Nat)) (by rw [List.length_map]; unfold LIM; omega)
  have sgl : (((s.map sgV).length : Nat) : Int) = (s.length : Nat) := by rw [List.length_map]
  have hr : (-BIG ≤ ((s.length : Nat) : Int) ∧ ((s.length : Nat) : Int) < BIG) = True := by
    have := g.most
    simp only [BIG, eq_iff_iff, iff_true]; omega
  have lr : (rangeL 0 (s.length : Nat)).length ≤ LIM := by
    have := g.most
    simp [rangeL]; unfold LIM; omega
  have a1 : (((w + 1 : Nat) : Int) - 1 + ((q.2 : Nat) : Int)) = ((w + q.2 : Nat) : Int) := by omega
  have hq' : s[n]? = some (q.1, q.2) := hq
  refine ⟨n, w + q.2, h2.set R (.lst (t.map (fun n => .int (n : Nat)) ++ [.int (n : Nat)])), some (.int (room : Nat)), some (.ref h1.length), some (.int (n : Nat)), ?_, ⟨?_, x2.kp.trans (.set _ fun _ => .inr rfl), ?_, ?_, ?_⟩⟩
  · have tl2 := tyl x2.at_
    unfold eSg at e1 ⊢
    simp only [ev, W2_law_term, len_ref x.at_, hroom, sgl, hr, lr, wipeE, List.set_cons_succ, List.set_cons_zero, e1, len_ref nw, e2, i2, tl2, ap, atI_sg hq', atI_1, a1]
  · rw [List.getElem?_set_self (lt_of_at x2.at_), List.map_append]; rfl
  · obtain ⟨z, ez⟩ := x2.pot
    exact ⟨z, by rw [List.getElem?_set_ne hR]; exact ez⟩
  · intro r
    rw [List.append_assoc, x.sk ([n] ++ r)]
    show (skp s (n :: r) (w + 1)).map _ = _
    simp only [skp, hq]
    cases skp s r (w + q.2) with
    | none => rfl
    | some c => simp; omega
  · rw [List.length_append, List.length_singleton]; omega
theorem sp_term {T : Tab} (tk : Ok_law_term T) (k : Nat) {s : Sg} (g : GoodSg s) {p top : Nat} (h1 : 1 ≤ top) (ht : top ≤ 1000) {h : VH} (hp : Pot p h) :
    ∃ (t : Row) (h' : VH), callN T (k + 2) none 1005 [.ref p, eSg s, .int (top : Nat)] [] h = .ok (eRow t) h' ∧ IsT s t ∧ 1 ≤ t.length ∧ t.length ≤ top ∧ Pm p h h' := by
  rw [call_law_term tk]
  have hR : h.length ≠ p := by have := hp.lt; omega
  obtain ⟨rho, h2, e, t, x3, x4, x5, rfl, x⟩ := sWhile_inv (t := tVal (eOp opGt (eV 4) (eC (.int 0)))) (b := W2_law_term) (c := ⟨callN T (k + 1), none⟩)
    (fun m rho h' => ∃ (t : Row) (w : Nat) (x5 x6 x7 : Option Val), rho = [some (.ref p), some (eSg s), some (.int (top : Nat)), some (.ref h.length), some (.int (w : Nat)), x5, x6, x7] ∧ TI s p h.length top (h ++ [.lst []]) t w h' ∧ m = top - t.length)
    (fun rho h' => ∃ (t : Row) (x5 x6 x7 : Option Val), rho = [some (.ref p), some (eSg s), some (.int (top : Nat)), some (.ref h.length), some (.int 0), x5, x6, x7] ∧ TI s p h.length top (h ++ [.lst []]) t 0 h')
    top [some (.ref p), some (eSg s), some (.int (top : Nat)), some (.ref h.length), some (.int 1), none, none, none] (h ++ [.lst []]) (by unfold FUEL; omega) ⟨[], 1, none, none, none, rfl, ⟨new_at _ _, .refl _ _, hp.app _, fun r => by simp, by simpa using h1⟩, by simp⟩ (by
      rintro m rho h' ⟨t, w, x5, x6, x7, rfl, x, rfl⟩
      cases w with
      | zero => exact ⟨false, h', by simp only [ev]; rfl, .inl ⟨rfl, t, x5, x6, x7, rfl, x⟩⟩
      | succ w =>
        have g0 : (0 : Int) < ((w + 1 : Nat) : Int) := by omega
        obtain ⟨n, w', h2, y5, y6, y7, e, x'⟩ := term_turn tk k g hR ht x x5 x6 x7
        refine ⟨true, h', by simp only [ev, g0, decide_true], .inr ⟨rfl, _, h2, _, .inl e, ?_, t ++ [n], w', y5, y6, y7, rfl, x', rfl⟩⟩
        have := x.le
        rw [List.length_append, List.length_singleton]; omega)
  refine ⟨t, h2, ?_, ?_, ?_, ?_, ?_⟩
  · have tu := tuple_ref x.at_
    simp only [ev, D_law_term, List.set_cons_succ, List.set_cons_zero, e, tu, eRow]
  · have := x.sk []
    rw [List.append_nil] at this
    unfold IsT
    rw [this]; simp [skp]
  · have := x.sk []
    rw [List.append_nil] at this
    cases t with
    | nil => simp [skp] at this
    | cons a t => simp
  · have := x.le; omega
  · exact ⟨((Kp.app h _).trans x.kp).mono fun l hl e => by
      rcases e with e | e
      · exact e
      · omega, x.pot⟩
end Pv
end
/-! PlWord -/
section
set_option Elab.async false
set_option linter.all false
set_option autoImplicit false
set_option maxRecDepth 100000
namespace Pv
open PySem PySem.Spec PyProof.Rows L2 TL
theorem sTry_er {b m : Ts} {cl : List Str} {i : Nat} {f : Option Nat → Nat → List Val → List (Str × Val) → VH → Out Val} {rho rho1 : Env} {h h1 h2 : VH} {n : Str} {fs : Flds} {v : Val} (hb : b ⟨f, none⟩ rho h = .er n fs rho1 h1) (hc : clB XN n cl = some true)
    (hm : m ⟨f, some h1.length⟩ (rho1.set i (some (.ref h1.length))) (h1 ++ [.exo n fs]) = .rt v h2) : sTry XN b [⟨cl, some i, m⟩] ⟨f, none⟩ rho h = .rt v h2 := by
  show (match b ⟨f, none⟩ rho h with
    | .er c fs rho h => catchH XN [⟨cl, some i, m⟩] ⟨f, none⟩ c fs rho h
    | o => o) = _
  rw [hb]
  show catchH XN [⟨cl, some i, m⟩] ⟨f, none⟩ n fs rho1 h1 = _
  have hf : findH XN n [⟨cl, some i, m⟩] = some (some ⟨cl, some i, m⟩) := by
    show (match clB XN n cl with
      | some true => some (some (⟨cl, some i, m⟩ : Hd))
      | some false => findH XN n []
      | none => none) = _
    rw [hc]
  unfold catchH
  rw [hf]
  show unhot (some i) (noEr (m ⟨f, some h1.length⟩ (rho1.set i (some (.ref h1.length))) (h1 ++ [.exo n fs]))) = _
  rw [hm]; rfl
theorem getA0 {α : Type} (h : List α) (a : α) (t : List α) : (h ++ a :: t)[h.length]? = some a := by
  rw [List.getElem?_append_right (Nat.le_refl _), Nat.sub_self]; rfl
theorem getA {α : Type} (h : List α) (t : List α) (n : Nat) : (h ++ t)[h.length + n]? = t[n]? := by
  rw [List.getElem?_append_right (by omega)]; congr 1; omega
/-- an exception that is handled, or one that was made -/
def ExAt (hot : Option Nat) (l : Nat) (h : VH) (c : Str) (fs : Flds) : Prop := (hot = some l ∧ h[l]? = some (.exo c fs)) ∨ h[l]? = some (.xob c fs)
theorem hotX_of {f : Option Nat → Nat → List Val → List (Str × Val) → VH → Out Val} {hot : Option Nat} {l : Nat} {h : VH} {c : Str} {fs : Flds} (e : ExAt hot l h c fs) (t : VH) : hotX ⟨f, hot⟩ (.ref l) (h ++ t) = some (c, fs) := by
  show (match (h ++ t)[l]? with
    | some (.exo n fs) => if hot = some l then some (n, fs) else none
    | some (.xob n fs) => some (n, fs)
    | _ => none) = _
  rcases e with ⟨rfl, e⟩ | e
  · rw [List.getElem?_append_left (lt_of_at e), e]
    exact if_pos rfl
  · rw [List.getElem?_append_left (lt_of_at e), e]
theorem hotX_of0 {f : Option Nat → Nat → List Val → List (Str × Val) → VH → Out Val} {hot : Option Nat} {l : Nat} {h : VH} {c : Str} {fs : Flds} (e : ExAt hot l h c fs) : hotX ⟨f, hot⟩ (.ref l) h = some (c, fs) := by
  have := hotX_of (f := f) e []
  rwa [List.append_nil] at this
theorem toD_bools (n : Nat) (h : VH) : ∀ bs : List Bool, (bs.map Val.bl).mapM (toD (n + 1) h) = some (bs.map PyData.bool)
  | [] => rfl
  | b :: bs => by rw [List.map_cons, List.mapM_cons, toD_bools n h bs]; rfl
theorem eqv_bool (b : Bool) : PyData.eqv (.bool b) (.bool true) = b := by cases b <;> rfl
theorem ok_W {o : Out Val} {a : Val} {h : VH} (x : o.W (fun v h' => v = a ∧ h <+: h') fun _ _ _ => False) : ∃ h', o = .ok a h' ∧ h <+: h' := by
  cases o with
  | ok v h' => obtain ⟨rfl, p⟩ := x; exact ⟨h', rfl, p⟩
  | er c f h' => exact x.elim
  | bad => exact x.elim

def blsOf : List Val → List Bool
  | [] => []
  | .bl b :: r => b :: blsOf r
  | _ :: r => blsOf r
def allBl : Option VObj → Bool
  | some (.lst vs) => vs.all fun v => match v with
    | .bl _ => true
    | _ => false
  | _ => false
theorem allBl_of {o : Option VObj} (h : allBl o = true) : ∃ bs : List Bool, o = some (.lst (bs.map .bl)) ∧ ∀ vs, o = some (.lst vs) → blsOf vs = bs := by
  unfold allBl at h
  split at h
  · rename_i vs
    have : ∀ vs : List Val, (vs.all fun v => match v with
      | .bl _ => true
      | _ => false) = true → ∃ bs : List Bool, vs = bs.map .bl ∧ blsOf vs = bs := by
      intro vs
      induction vs with
      | nil => intro _; exact ⟨[], rfl, rfl⟩
      | cons v vs ih =>
        intro h
        rw [List.all_cons, Bool.and_eq_true] at h
        obtain ⟨bs, rfl, e⟩ := ih h.2
        cases v with
        | bl b => exact ⟨b :: bs, rfl, by show b :: blsOf _ = _; rw [e]⟩
        | _ => cases h.1
    obtain ⟨bs, rfl, e⟩ := this vs h
    exact ⟨bs, rfl, fun vs' e' => by cases e'; exact e⟩
  · cases h
def cntO : Option VObj → VH → Out Val
  | some (.lst vs), h => .ok (.int ((blsOf vs).countP id : Nat)) h
  | _, _ => .bad
def firO : Option VObj → VH → Out Val
  | some (.lst vs), h => (got ((blsOf vs).findIdx? id) h).bind fun n h => .ok (.int (n : Nat)) h
  | _, _ => .bad
def neO : Option VObj → Option VObj → VH → Out Val
  | some (.lst vs), some (.lst ws), h => .ok (.bl (!(blsOf vs == blsOf ws))) h
  | _, _, _ => .bad
theorem toD_bl {l : Nat} {h : VH} {bs : List Bool} (e : h[l]? = some (.lst (bs.map .bl))) : toD DEEP h (.ref l) = some (.list (bs.map PyData.bool)) := by
  show (match h[l]? with
    | some (.lst vs) => (vs.mapM (toD 39 h)).map PyData.list
    | some (.frz vs) => (vs.mapM (toD 39 h)).map PyData.list
    | _ => none) = _
  rw [e]
  show (((bs.map Val.bl).mapM (toD 39 h)).map PyData.list) = _
  rw [toD_bools]; rfl
theorem mCount_bl (l : Nat) (h : VH) (a : allBl h[l]? = true) : mCount (.ref l) [.bl true] h = cntO h[l]? h := by
  obtain ⟨bs, e, eb⟩ := allBl_of a
  rw [e]
  unfold mCount
  simp only [toD_bl e]
  show Out.ok (Val.int ((bs.map PyData.bool).countP fun z => PyData.eqv z (.bool true) : Nat)) h = Out.ok (Val.int ((blsOf (bs.map .bl)).countP id : Nat)) h
  rw [eb _ e]
  have : ((fun z => PyData.eqv z (.bool true)) ∘ PyData.bool) = id := by
    funext b; exact eqv_bool b
  rw [List.countP_map, this]
theorem mIndex_bl (l : Nat) (h : VH) (a : allBl h[l]? = true) : mIndex (.ref l) [.bl true] h = firO h[l]? h := by
  obtain ⟨bs, e, eb⟩ := allBl_of a
  rw [e]
  unfold mIndex
  simp only [toD_bl e]
  show (got (idxOf (.bool true) (bs.map PyData.bool)) h).bind (fun j h => Out.ok (Val.int (j : Nat)) h) = (got ((blsOf (bs.map .bl)).findIdx? id) h).bind fun n h => Out.ok (Val.int (n : Nat)) h
  rw [eb _ e]
  congr 2
  clear e eb a
  induction bs with
  | nil => rfl
  | cons b bs ih =>
    rw [List.map_cons, List.findIdx?_cons]
    show (if PyData.eqv (.bool b) (.bool true) then some 0 else (idxOf (.bool true) (bs.map PyData.bool)).map (· + 1)) = _
    rw [eqv_bool, ih]; rfl
theorem opNe_bl (l m : Nat) (h : VH) (a : allBl h[l]? = true) (a' : allBl h[m]? = true) : opNe (.ref l) (.ref m) h = neO h[l]? h[m]? h := by
  obtain ⟨bs, e, eb⟩ := allBl_of a
  obtain ⟨cs, e', eb'⟩ := allBl_of a'
  rw [e, e']
  unfold opNe
  simp only [toD_bl e, toD_bl e']
  show Out.ok (Val.bl (!PyData.eqvAll (bs.map PyData.bool) (cs.map PyData.bool))) h = Out.ok (Val.bl (!(blsOf (bs.map .bl) == blsOf (cs.map .bl)))) h
  rw [eb _ e, eb' _ e']
  congr 3
  clear e eb a e' eb' a'
  induction bs generalizing cs with
  | nil => cases cs <;> rfl
  | cons b bs ih =>
    cases cs with
    | nil => rfl
    | cons c cs =>
      show (PyData.eqv (.bool b) (.bool c) && PyData.eqvAll (bs.map PyData.bool) (cs.map PyData.bool)) = _
      rw [ih cs]
      rfl
theorem evW : (∀ vs : List Val, ∀ h, cntO (some (.lst vs)) h = .ok (.int ((blsOf vs).countP id : Nat)) h) ∧ (∀ vs : List Val, ∀ h, firO (some (.lst vs)) h = (got ((blsOf vs).findIdx? id) h).lz fun n h => .ok (.int (n : Nat)) h) ∧
    (∀ (vs ws : List Val) (h : VH), neO (some (.lst vs)) (some (.lst ws)) h = .ok (.bl (!(blsOf vs == blsOf ws))) h) ∧ (∀ (b : Bool) (r : List Val), blsOf (.bl b :: r) = b :: blsOf r) ∧ blsOf [] = [] ∧ (∀ (b : Bool) (r : List Val), allBl (some (.lst (.bl b :: r))) = allBl (some (.lst r))) ∧ allBl (some (.lst [])) = true :=
  ⟨fun _ _ => rfl, fun _ _ => rfl, fun _ _ _ => rfl, fun _ _ => rfl, rfl, fun b r => by unfold allBl; simp, rfl⟩
theorem isIntEq (i j : Int) (h : VH) : opEq (.int i) (.int j) h = .ok (.bl (decide (i = j))) h := eq_int i j h
theorem repN1 (n : Nat) (v : Val) : repN n [v] = List.replicate n v := by
  unfold repN
  induction n with
  | zero => rfl
  | succ n ih => rw [List.replicate_succ, List.flatten_cons, ih, List.replicate_succ]; rfl
theorem atI_litS : (∀ (a : Val) (r : List Val), atI (a :: r) 0 = some a) ∧ (∀ (a b : Val) (r : List Val), atI (a :: b :: r) 1 = some b) ∧ (∀ (x0 x1 a : Val) (r : List Val), atI (x0 :: x1 :: a :: r) 2 = some a) ∧ (∀ (x0 x1 x2 a : Val) (r : List Val), atI (x0 :: x1 :: x2 :: a :: r) 3 = some a) ∧ (∀ (x0 x1 x2 x3 a : Val) (r : List Val), atI (x0 :: x1 :: x2 :: x3 :: a :: r) 4 = some a) ∧ (∀ (x0 x1 x2 x3 x4 a : Val) (r : List Val), atI (x0 :: x1 :: x2 :: x3 :: x4 :: a :: r) 5 = some a) ∧ (∀ (x0 x1 x2 x3 x4 x5 a : Val) (r : List Val), atI (x0 :: x1 :: x2 :: x3 :: x4 :: x5 :: a :: r) 6 = some a) ∧ (∀ (x0 x1 x2 x3 x4 x5 x6 a : Val) (r : List Val), atI (x0 :: x1 :: x2 :: x3 :: x4 :: x5 :: x6 :: a :: r) 7 = some a) ∧ (∀ (x0 x1 x2 x3 x4 x5 x6 x7 a : Val) (r : List Val), atI (x0 :: x1 :: x2 :: x3 :: x4 :: x5 :: x6 :: x7 :: a :: r) 8 = some a) ∧ (∀ (x0 x1 x2 x3 x4 x5 x6 x7 x8 a : Val) (r : List Val), atI (x0 :: x1 :: x2 :: x3 :: x4 :: x5 :: x6 :: x7 :: x8 :: a :: r) 9 = some a) ∧ (∀ (x0 x1 x2 x3 x4 x5 x6 x7 x8 x9 a : Val) (r : List Val), atI (x0 :: x1 :: x2 :: x3 :: x4 :: x5 :: x6 :: x7 :: x8 :: x9 :: a :: r) 10 = some a) :=
  ⟨fun _ _ => atI_nat _ 0, fun _ _ _ => atI_nat _ 1, fun _ _ _ _ => atI_nat _ 2, fun _ _ _ _ _ => atI_nat _ 3, fun _ _ _ _ _ _ => atI_nat _ 4, fun _ _ _ _ _ _ _ => atI_nat _ 5, fun _ _ _ _ _ _ _ _ => atI_nat _ 6, fun _ _ _ _ _ _ _ _ _ => atI_nat _ 7, fun _ _ _ _ _ _ _ _ _ _ => atI_nat _ 8, fun _ _ _ _ _ _ _ _ _ _ _ => atI_nat _ 9, fun _ _ _ _ _ _ _ _ _ _ _ _ => atI_nat _ 10⟩
theorem b22 : (([true, true] : List Bool) == [true, true]) = true ∧ (([true, true] : List Bool) == [false, false]) = false ∧ (([false, false] : List Bool) == [true, true]) = false ∧ (([false, false] : List Bool) == [false, false]) = true := by decide
theorem castN : (((0 : Nat) : Int) = 0) ∧ (((1 : Nat) : Int) = 1) ∧ (((2 : Nat) : Int) = 2) ∧ (((3 : Nat) : Int) = 3) ∧ (((4 : Nat) : Int) = 4) ∧ (((5 : Nat) : Int) = 5) ∧ (((6 : Nat) : Int) = 6) ∧ (((7 : Nat) : Int) = 7) ∧ (((8 : Nat) : Int) = 8) ∧ (((9 : Nat) : Int) = 9) ∧ (((10 : Nat) : Int) = 10) ∧ (((11 : Nat) : Int) = 11) ∧ (((12 : Nat) : Int) = 12) ∧ (((13 : Nat) : Int) = 13) ∧ (((14 : Nat) : Int) = 14) ∧ (((15 : Nat) : Int) = 15) ∧ (((16 : Nat) : Int) = 16) ∧ (((17 : Nat) : Int) = 17) := by decide
theorem sp_word_NoSigns {T : Tab} (t : Ok_law_word T) (k : Nat) {hot : Option Nat} {l : Nat} {h : VH}  (e : ExAt hot l h "NoSigns" []) : ∃ h', callN T (k + 1) hot 1007 [.ref l] [] h = .ok (.tup [.str "signs"]) h' ∧ h <+: h' := by
  rw [call_law_word t]
  apply ok_W
  have f0 : isxOf XN "NoSigns" "NoSigns" = some true := by decide +kernel
  have f1 : isxOf XN "NoSigns" "NoPlace" = some false := by decide +kernel
  have f2 : isxOf XN "NoSigns" "NoGivens" = some false := by decide +kernel
  have f3 : isxOf XN "NoSigns" "NoUnlikes" = some false := by decide +kernel
  have f4 : isxOf XN "NoSigns" "NoLines" = some false := by decide +kernel
  have f5 : isxOf XN "NoSigns" "NoModel" = some false := by decide +kernel
  have f6 : isxOf XN "NoSigns" "NoPattern" = some false := by decide +kernel
  have f7 : isxOf XN "NoSigns" "NoRules" = some false := by decide +kernel
  have f8 : isxOf XN "NoSigns" "NoRounds" = some false := by decide +kernel
  have f9 : isxOf XN "NoSigns" "NoCosts" = some false := by decide +kernel
  have f10 : isxOf XN "NoSigns" "NoLine" = some false := by decide +kernel
  have f11 : isxOf XN "NoSigns" "NoTerm" = some false := by decide +kernel
  have f12 : isxOf XN "NoSigns" "TooMany" = some false := by decide +kernel
  have f13 : isxOf XN "NoSigns" "NoText" = some false := by decide +kernel
  have f14 : isxOf XN "NoSigns" "NoLevel" = some false := by decide +kernel
  have f15 : isxOf XN "NoSigns" "NotKnown" = some false := by decide +kernel
  have f16 : isxOf XN "NoSigns" "NotAlike" = some false := by decide +kernel
  have g0 : isxOf XN "NoSigns" "NestError" = some true := by decide +kernel
  have g1 : isxOf XN "NoSigns" "ValueError" = some true := by decide +kernel
  have g2 : isxOf XN "NoSigns" "AbsentError" = some false := by decide +kernel
  have g3 : isxOf XN "NoSigns" "LookupError" = some false := by decide +kernel
  have hl : ∀ n : Nat, n ≤ 17 → (n ≤ LIM) = True := fun n hn => by unfold LIM; simp; omega
  have hm : (1 * (2 : Int).toNat ≤ LIM ∧ (2 : Int) < 2 ^ 62 ∧ -(2 ^ 62) < (2 : Int)) = True := by unfold LIM; simp
  have rp : ∀ v : Val, repN (2 : Int).toNat [v] = [v, v] := fun v => rfl
  simp only [ev, evW, D_law_word, hotX_of e, hotX_of0 e, Option.bind_some, f0, f1, f2, f3, f4, f5, f6, f7, f8, f9, f10, f11, f12, f13, f14, f15, f16, g0, g1, g2, g3, List.append_assoc, List.cons_append, List.nil_append, List.length_append, List.length_cons, List.length_nil, Nat.reduceAdd, Nat.zero_add, getA0, getA, List.getElem?_cons_succ, List.getElem?_cons_zero, hl _ (show 8 ≤ 17 by decide), hl _ (show 12 ≤ 17 by decide), hl _ (show 16 ≤ 17 by decide), hl _ (show 17 ≤ 17 by decide), hm, rp, mCount_bl, mIndex_bl, opNe_bl, ne_int, eq_int, List.countP_cons, List.countP_nil, id, ite_true, ite_false, reduceIte, castN, atI_litS, got_some, b22, Int.reduceLT, Int.reduceEq, decide_true, decide_false, Bool.not_true, Bool.not_false, List.findIdx?_cons, Option.map_some, Bool.false_eq_true]
  first | exact ⟨rfl, List.prefix_append _ _⟩ | exact ⟨trivial, List.prefix_append _ _⟩
theorem sp_word_NoPlace {T : Tab} (t : Ok_law_word T) (k : Nat) {hot : Option Nat} {l : Nat} {h : VH}  (e : ExAt hot l h "NoPlace" []) : ∃ h', callN T (k + 1) hot 1007 [.ref l] [] h = .ok (.tup [.str "place"]) h' ∧ h <+: h' := by
  rw [call_law_word t]
  apply ok_W
  have f0 : isxOf XN "NoPlace" "NoSigns" = some false := by decide +kernel
  have f1 : isxOf XN "NoPlace" "NoPlace" = some true := by decide +kernel
  have f2 : isxOf XN "NoPlace" "NoGivens" = some false := by decide +kernel
  have f3 : isxOf XN "NoPlace" "NoUnlikes" = some false := by decide +kernel
  have f4 : isxOf XN "NoPlace" "NoLines" = some false := by decide +kernel
  have f5 : isxOf XN "NoPlace" "NoModel" = some false := by decide +kernel
  have f6 : isxOf XN "NoPlace" "NoPattern" = some false := by decide +kernel
  have f7 : isxOf XN "NoPlace" "NoRules" = some false := by decide +kernel
  have f8 : isxOf XN "NoPlace" "NoRounds" = some false := by decide +kernel
  have f9 : isxOf XN "NoPlace" "NoCosts" = some false := by decide +kernel
  have f10 : isxOf XN "NoPlace" "NoLine" = some false := by decide +kernel
  have f11 : isxOf XN "NoPlace" "NoTerm" = some false := by decide +kernel
  have f12 : isxOf XN "NoPlace" "TooMany" = some false := by decide +kernel
  have f13 : isxOf XN "NoPlace" "NoText" = some false := by decide +kernel
  have f14 : isxOf XN "NoPlace" "NoLevel" = some false := by decide +kernel
  have f15 : isxOf XN "NoPlace" "NotKnown" = some false := by decide +kernel
  have f16 : isxOf XN "NoPlace" "NotAlike" = some false := by decide +kernel
  have g0 : isxOf XN "NoPlace" "NestError" = some true := by decide +kernel
  have g1 : isxOf XN "NoPlace" "ValueError" = some true := by decide +kernel
  have g2 : isxOf XN "NoPlace" "AbsentError" = some false := by decide +kernel
  have g3 : isxOf XN "NoPlace" "LookupError" = some false := by decide +kernel
  have hl : ∀ n : Nat, n ≤ 17 → (n ≤ LIM) = True := fun n hn => by unfold LIM; simp; omega
  have hm : (1 * (2 : Int).toNat ≤ LIM ∧ (2 : Int) < 2 ^ 62 ∧ -(2 ^ 62) < (2 : Int)) = True := by unfold LIM; simp
  have rp : ∀ v : Val, repN (2 : Int).toNat [v] = [v, v] := fun v => rfl
  simp only [ev, evW, D_law_word, hotX_of e, hotX_of0 e, Option.bind_some, f0, f1, f2, f3, f4, f5, f6, f7, f8, f9, f10, f11, f12, f13, f14, f15, f16, g0, g1, g2, g3, List.append_assoc, List.cons_append, List.nil_append, List.length_append, List.length_cons, List.length_nil, Nat.reduceAdd, Nat.zero_add, getA0, getA, List.getElem?_cons_succ, List.getElem?_cons_zero, hl _ (show 8 ≤ 17 by decide), hl _ (show 12 ≤ 17 by decide), hl _ (show 16 ≤ 17 by decide), hl _ (show 17 ≤ 17 by decide), hm, rp, mCount_bl, mIndex_bl, opNe_bl, ne_int, eq_int, List.countP_cons, List.countP_nil, id, ite_true, ite_false, reduceIte, castN, atI_litS, got_some, b22, Int.reduceLT, Int.reduceEq, decide_true, decide_false, Bool.not_true, Bool.not_false, List.findIdx?_cons, Option.map_some, Bool.false_eq_true]
  first | exact ⟨rfl, List.prefix_append _ _⟩ | exact ⟨trivial, List.prefix_append _ _⟩
theorem sp_word_NoGivens {T : Tab} (t : Ok_law_word T) (k : Nat) {hot : Option Nat} {l : Nat} {h : VH}  (e : ExAt hot l h "NoGivens" []) : ∃ h', callN T (k + 1) hot 1007 [.ref l] [] h = .ok (.tup [.str "givens"]) h' ∧ h <+: h' := by
  rw [call_law_word t]
  apply ok_W
  have f0 : isxOf XN "NoGivens" "NoSigns" = some false := by decide +kernel
  have f1 : isxOf XN "NoGivens" "NoPlace" = some false := by decide +kernel
  have f2 : isxOf XN "NoGivens" "NoGivens" = some true := by decide +kernel
  have f3 : isxOf XN "NoGivens" "NoUnlikes" = some false := by decide +kernel
  have f4 : isxOf XN "NoGivens" "NoLines" = some false := by decide +kernel
  have f5 : isxOf XN "NoGivens" "NoModel" = some false := by decide +kernel
  have f6 : isxOf XN "NoGivens" "NoPattern" = some false := by decide +kernel
  have f7 : isxOf XN "NoGivens" "NoRules" = some false := by decide +kernel
  have f8 : isxOf XN "NoGivens" "NoRounds" = some false := by decide +kernel
  have f9 : isxOf XN "NoGivens" "NoCosts" = some false := by decide +kernel
  have f10 : isxOf XN "NoGivens" "NoLine" = some false := by decide +kernel
  have f11 : isxOf XN "NoGivens" "NoTerm" = some false := by decide +kernel
  have f12 : isxOf XN "NoGivens" "TooMany" = some false := by decide +kernel
  have f13 : isxOf XN "NoGivens" "NoText" = some false := by decide +kernel
  have f14 : isxOf XN "NoGivens" "NoLevel" = some false := by decide +kernel
  have f15 : isxOf XN "NoGivens" "NotKnown" = some false := by decide +kernel
  have f16 : isxOf XN "NoGivens" "NotAlike" = some false := by decide +kernel
  have g0 : isxOf XN "NoGivens" "NestError" = some true := by decide +kernel
  have g1 : isxOf XN "NoGivens" "ValueError" = some true := by decide +kernel
  have g2 : isxOf XN "NoGivens" "AbsentError" = some false := by decide +kernel
  have g3 : isxOf XN "NoGivens" "LookupError" = some false := by decide +kernel
  have hl : ∀ n : Nat, n ≤ 17 → (n ≤ LIM) = True := fun n hn => by unfold LIM; simp; omega
  have hm : (1 * (2 : Int).toNat ≤ LIM ∧ (2 : Int) < 2 ^ 62 ∧ -(2 ^ 62) < (2 : Int)) = True := by unfold LIM; simp
  have rp : ∀ v : Val, repN (2 : Int).toNat [v] = [v, v] := fun v => rfl
  simp only [ev, evW, D_law_word, hotX_of e, hotX_of0 e, Option.bind_some, f0, f1, f2, f3, f4, f5, f6, f7, f8, f9, f10, f11, f12, f13, f14, f15, f16, g0, g1, g2, g3, List.append_assoc, List.cons_append, List.nil_append, List.length_append, List.length_cons, List.length_nil, Nat.reduceAdd, Nat.zero_add, getA0, getA, List.getElem?_cons_succ, List.getElem?_cons_zero, hl _ (show 8 ≤ 17 by decide), hl _ (show 12 ≤ 17 by decide), hl _ (show 16 ≤ 17 by decide), hl _ (show 17 ≤ 17 by decide), hm, rp, mCount_bl, mIndex_bl, opNe_bl, ne_int, eq_int, List.countP_cons, List.countP_nil, id, ite_true, ite_false, reduceIte, castN, atI_litS, got_some, b22, Int.reduceLT, Int.reduceEq, decide_true, decide_false, Bool.not_true, Bool.not_false, List.findIdx?_cons, Option.map_some, Bool.false_eq_true]
  first | exact ⟨rfl, List.prefix_append _ _⟩ | exact ⟨trivial, List.prefix_append _ _⟩
theorem sp_word_NoUnlikes {T : Tab} (t : Ok_law_word T) (k : Nat) {hot : Option Nat} {l : Nat} {h : VH}  (e : ExAt hot l h "NoUnlikes" []) : ∃ h', callN T (k + 1) hot 1007 [.ref l] [] h = .ok (.tup [.str "unlikes"]) h' ∧ h <+: h' := by
  rw [call_law_word t]
  apply ok_W
  have f0 : isxOf XN "NoUnlikes" "NoSigns" = some false := by decide +kernel
  have f1 : isxOf XN "NoUnlikes" "NoPlace" = some false := by decide +kernel
  have f2 : isxOf XN "NoUnlikes" "NoGivens" = some false := by decide +kernel
  have f3 : isxOf XN "NoUnlikes" "NoUnlikes" = some true := by decide +kernel
  have f4 : isxOf XN "NoUnlikes" "NoLines" = some false := by decide +kernel
  have f5 : isxOf XN "NoUnlikes" "NoModel" = some false := by decide +kernel
  have f6 : isxOf XN "NoUnlikes" "NoPattern" = some false := by decide +kernel
  have f7 : isxOf XN "NoUnlikes" "NoRules" = some false := by decide +kernel
  have f8 : isxOf XN "NoUnlikes" "NoRounds" = some false := by decide +kernel
  have f9 : isxOf XN "NoUnlikes" "NoCosts" = some false := by decide +kernel
  have f10 : isxOf XN "NoUnlikes" "NoLine" = some false := by decide +kernel
  have f11 : isxOf XN "NoUnlikes" "NoTerm" = some false := by decide +kernel
  have f12 : isxOf XN "NoUnlikes" "TooMany" = some false := by decide +kernel
  have f13 : isxOf XN "NoUnlikes" "NoText" = some false := by decide +kernel
  have f14 : isxOf XN "NoUnlikes" "NoLevel" = some false := by decide +kernel
  have f15 : isxOf XN "NoUnlikes" "NotKnown" = some false := by decide +kernel
  have f16 : isxOf XN "NoUnlikes" "NotAlike" = some false := by decide +kernel
  have g0 : isxOf XN "NoUnlikes" "NestError" = some true := by decide +kernel
  have g1 : isxOf XN "NoUnlikes" "ValueError" = some true := by decide +kernel
  have g2 : isxOf XN "NoUnlikes" "AbsentError" = some false := by decide +kernel
  have g3 : isxOf XN "NoUnlikes" "LookupError" = some false := by decide +kernel
  have hl : ∀ n : Nat, n ≤ 17 → (n ≤ LIM) = True := fun n hn => by unfold LIM; simp; omega
  have hm : (1 * (2 : Int).toNat ≤ LIM ∧ (2 : Int) < 2 ^ 62 ∧ -(2 ^ 62) < (2 : Int)) = True := by unfold LIM; simp
  have rp : ∀ v : Val, repN (2 : Int).toNat [v] = [v, v] := fun v => rfl
  simp only [ev, evW, D_law_word, hotX_of e, hotX_of0 e, Option.bind_some, f0, f1, f2, f3, f4, f5, f6, f7, f8, f9, f10, f11, f12, f13, f14, f15, f16, g0, g1, g2, g3, List.append_assoc, List.cons_append, List.nil_append, List.length_append, List.length_cons, List.length_nil, Nat.reduceAdd, Nat.zero_add, getA0, getA, List.getElem?_cons_succ, List.getElem?_cons_zero, hl _ (show 8 ≤ 17 by decide), hl _ (show 12 ≤ 17 by decide), hl _ (show 16 ≤ 17 by decide), hl _ (show 17 ≤ 17 by decide), hm, rp, mCount_bl, mIndex_bl, opNe_bl, ne_int, eq_int, List.countP_cons, List.countP_nil, id, ite_true, ite_false, reduceIte, castN, atI_litS, got_some, b22, Int.reduceLT, Int.reduceEq, decide_true, decide_false, Bool.not_true, Bool.not_false, List.findIdx?_cons, Option.map_some, Bool.false_eq_true]
  first | exact ⟨rfl, List.prefix_append _ _⟩ | exact ⟨trivial, List.prefix_append _ _⟩
theorem sp_word_NoLines {T : Tab} (t : Ok_law_word T) (k : Nat) {hot : Option Nat} {l : Nat} {h : VH}  (e : ExAt hot l h "NoLines" []) : ∃ h', callN T (k + 1) hot 1007 [.ref l] [] h = .ok (.tup [.str "lines"]) h' ∧ h <+: h' := by
  rw [call_law_word t]
  apply ok_W
  have f0 : isxOf XN "NoLines" "NoSigns" = some false := by decide +kernel
  have f1 : isxOf XN "NoLines" "NoPlace" = some false := by decide +kernel
  have f2 : isxOf XN "NoLines" "NoGivens" = some false := by decide +kernel
  have f3 : isxOf XN "NoLines" "NoUnlikes" = some false := by decide +kernel
  have f4 : isxOf XN "NoLines" "NoLines" = some true := by decide +kernel
  have f5 : isxOf XN "NoLines" "NoModel" = some false := by decide +kernel
  have f6 : isxOf XN "NoLines" "NoPattern" = some false := by decide +kernel
  have f7 : isxOf XN "NoLines" "NoRules" = some false := by decide +kernel
  have f8 : isxOf XN "NoLines" "NoRounds" = some false := by decide +kernel
  have f9 : isxOf XN "NoLines" "NoCosts" = some false := by decide +kernel
  have f10 : isxOf XN "NoLines" "NoLine" = some false := by decide +kernel
  have f11 : isxOf XN "NoLines" "NoTerm" = some false := by decide +kernel
  have f12 : isxOf XN "NoLines" "TooMany" = some false := by decide +kernel
  have f13 : isxOf XN "NoLines" "NoText" = some false := by decide +kernel
  have f14 : isxOf XN "NoLines" "NoLevel" = some false := by decide +kernel
  have f15 : isxOf XN "NoLines" "NotKnown" = some false := by decide +kernel
  have f16 : isxOf XN "NoLines" "NotAlike" = some false := by decide +kernel
  have g0 : isxOf XN "NoLines" "NestError" = some true := by decide +kernel
  have g1 : isxOf XN "NoLines" "ValueError" = some true := by decide +kernel
  have g2 : isxOf XN "NoLines" "AbsentError" = some false := by decide +kernel
  have g3 : isxOf XN "NoLines" "LookupError" = some false := by decide +kernel
  have hl : ∀ n : Nat, n ≤ 17 → (n ≤ LIM) = True := fun n hn => by unfold LIM; simp; omega
  have hm : (1 * (2 : Int).toNat ≤ LIM ∧ (2 : Int) < 2 ^ 62 ∧ -(2 ^ 62) < (2 : Int)) = True := by unfold LIM; simp
  have rp : ∀ v : Val, repN (2 : Int).toNat [v] = [v, v] := fun v => rfl
  simp only [ev, evW, D_law_word, hotX_of e, hotX_of0 e, Option.bind_some, f0, f1, f2, f3, f4, f5, f6, f7, f8, f9, f10, f11, f12, f13, f14, f15, f16, g0, g1, g2, g3, List.append_assoc, List.cons_append, List.nil_append, List.length_append, List.length_cons, List.length_nil, Nat.reduceAdd, Nat.zero_add, getA0, getA, List.getElem?_cons_succ, List.getElem?_cons_zero, hl _ (show 8 ≤ 17 by decide), hl _ (show 12 ≤ 17 by decide), hl _ (show 16 ≤ 17 by decide), hl _ (show 17 ≤ 17 by decide), hm, rp, mCount_bl, mIndex_bl, opNe_bl, ne_int, eq_int, List.countP_cons, List.countP_nil, id, ite_true, ite_false, reduceIte, castN, atI_litS, got_some, b22, Int.reduceLT, Int.reduceEq, decide_true, decide_false, Bool.not_true, Bool.not_false, List.findIdx?_cons, Option.map_some, Bool.false_eq_true]
  first | exact ⟨rfl, List.prefix_append _ _⟩ | exact ⟨trivial, List.prefix_append _ _⟩
theorem sp_word_NoModel {T : Tab} (t : Ok_law_word T) (k : Nat) {hot : Option Nat} {l : Nat} {h : VH}  (e : ExAt hot l h "NoModel" []) : ∃ h', callN T (k + 1) hot 1007 [.ref l] [] h = .ok (.tup [.str "model"]) h' ∧ h <+: h' := by
  rw [call_law_word t]
  apply ok_W
  have f0 : isxOf XN "NoModel" "NoSigns" = some false := by decide +kernel
  have f1 : isxOf XN "NoModel" "NoPlace" = some false := by decide +kernel
  have f2 : isxOf XN "NoModel" "NoGivens" = some false := by decide +kernel
  have f3 : isxOf XN "NoModel" "NoUnlikes" = some false := by decide +kernel
  have f4 : isxOf XN "NoModel" "NoLines" = some false := by decide +kernel
  have f5 : isxOf XN "NoModel" "NoModel" = some true := by decide +kernel
  have f6 : isxOf XN "NoModel" "NoPattern" = some false := by decide +kernel
  have f7 : isxOf XN "NoModel" "NoRules" = some false := by decide +kernel
  have f8 : isxOf XN "NoModel" "NoRounds" = some false := by decide +kernel
  have f9 : isxOf XN "NoModel" "NoCosts" = some false := by decide +kernel
  have f10 : isxOf XN "NoModel" "NoLine" = some false := by decide +kernel
  have f11 : isxOf XN "NoModel" "NoTerm" = some false := by decide +kernel
  have f12 : isxOf XN "NoModel" "TooMany" = some false := by decide +kernel
  have f13 : isxOf XN "NoModel" "NoText" = some false := by decide +kernel
  have f14 : isxOf XN "NoModel" "NoLevel" = some false := by decide +kernel
  have f15 : isxOf XN "NoModel" "NotKnown" = some false := by decide +kernel
  have f16 : isxOf XN "NoModel" "NotAlike" = some false := by decide +kernel
  have g0 : isxOf XN "NoModel" "NestError" = some true := by decide +kernel
  have g1 : isxOf XN "NoModel" "ValueError" = some true := by decide +kernel
  have g2 : isxOf XN "NoModel" "AbsentError" = some false := by decide +kernel
  have g3 : isxOf XN "NoModel" "LookupError" = some false := by decide +kernel
  have hl : ∀ n : Nat, n ≤ 17 → (n ≤ LIM) = True := fun n hn => by unfold LIM; simp; omega
  have hm : (1 * (2 : Int).toNat ≤ LIM ∧ (2 : Int) < 2 ^ 62 ∧ -(2 ^ 62) < (2 : Int)) = True := by unfold LIM; simp
  have rp : ∀ v : Val, repN (2 : Int).toNat [v] = [v, v] := fun v => rfl
  simp only [ev, evW, D_law_word, hotX_of e, hotX_of0 e, Option.bind_some, f0, f1, f2, f3, f4, f5, f6, f7, f8, f9, f10, f11, f12, f13, f14, f15, f16, g0, g1, g2, g3, List.append_assoc, List.cons_append, List.nil_append, List.length_append, List.length_cons, List.length_nil, Nat.reduceAdd, Nat.zero_add, getA0, getA, List.getElem?_cons_succ, List.getElem?_cons_zero, hl _ (show 8 ≤ 17 by decide), hl _ (show 12 ≤ 17 by decide), hl _ (show 16 ≤ 17 by decide), hl _ (show 17 ≤ 17 by decide), hm, rp, mCount_bl, mIndex_bl, opNe_bl, ne_int, eq_int, List.countP_cons, List.countP_nil, id, ite_true, ite_false, reduceIte, castN, atI_litS, got_some, b22, Int.reduceLT, Int.reduceEq, decide_true, decide_false, Bool.not_true, Bool.not_false, List.findIdx?_cons, Option.map_some, Bool.false_eq_true]
  first | exact ⟨rfl, List.prefix_append _ _⟩ | exact ⟨trivial, List.prefix_append _ _⟩
theorem sp_word_NoPattern {T : Tab} (t : Ok_law_word T) (k : Nat) {hot : Option Nat} {l : Nat} {h : VH}  (e : ExAt hot l h "NoPattern" []) : ∃ h', callN T (k + 1) hot 1007 [.ref l] [] h = .ok (.tup [.str "pattern"]) h' ∧ h <+: h' := by
  rw [call_law_word t]
  apply ok_W
  have f0 : isxOf XN "NoPattern" "NoSigns" = some false := by decide +kernel
  have f1 : isxOf XN "NoPattern" "NoPlace" = some false := by decide +kernel
  have f2 : isxOf XN "NoPattern" "NoGivens" = some false := by decide +kernel
  have f3 : isxOf XN "NoPattern" "NoUnlikes" = some false := by decide +kernel
  have f4 : isxOf XN "NoPattern" "NoLines" = some false := by decide +kernel
  have f5 : isxOf XN "NoPattern" "NoModel" = some false := by decide +kernel
  have f6 : isxOf XN "NoPattern" "NoPattern" = some true := by decide +kernel
  have f7 : isxOf XN "NoPattern" "NoRules" = some false := by decide +kernel
  have f8 : isxOf XN "NoPattern" "NoRounds" = some false := by decide +kernel
  have f9 : isxOf XN "NoPattern" "NoCosts" = some false := by decide +kernel
  have f10 : isxOf XN "NoPattern" "NoLine" = some false := by decide +kernel
  have f11 : isxOf XN "NoPattern" "NoTerm" = some false := by decide +kernel
  have f12 : isxOf XN "NoPattern" "TooMany" = some false := by decide +kernel
  have f13 : isxOf XN "NoPattern" "NoText" = some false := by decide +kernel
  have f14 : isxOf XN "NoPattern" "NoLevel" = some false := by decide +kernel
  have f15 : isxOf XN "NoPattern" "NotKnown" = some false := by decide +kernel
  have f16 : isxOf XN "NoPattern" "NotAlike" = some false := by decide +kernel
  have g0 : isxOf XN "NoPattern" "NestError" = some true := by decide +kernel
  have g1 : isxOf XN "NoPattern" "ValueError" = some true := by decide +kernel
  have g2 : isxOf XN "NoPattern" "AbsentError" = some false := by decide +kernel
  have g3 : isxOf XN "NoPattern" "LookupError" = some false := by decide +kernel
  have hl : ∀ n : Nat, n ≤ 17 → (n ≤ LIM) = True := fun n hn => by unfold LIM; simp; omega
  have hm : (1 * (2 : Int).toNat ≤ LIM ∧ (2 : Int) < 2 ^ 62 ∧ -(2 ^ 62) < (2 : Int)) = True := by unfold LIM; simp
  have rp : ∀ v : Val, repN (2 : Int).toNat [v] = [v, v] := fun v => rfl
  simp only [ev, evW, D_law_word, hotX_of e, hotX_of0 e, Option.bind_some, f0, f1, f2, f3, f4, f5, f6, f7, f8, f9, f10, f11, f12, f13, f14, f15, f16, g0, g1, g2, g3, List.append_assoc, List.cons_append, List.nil_append, List.length_append, List.length_cons, List.length_nil, Nat.reduceAdd, Nat.zero_add, getA0, getA, List.getElem?_cons_succ, List.getElem?_cons_zero, hl _ (show 8 ≤ 17 by decide), hl _ (show 12 ≤ 17 by decide), hl _ (show 16 ≤ 17 by decide), hl _ (show 17 ≤ 17 by decide), hm, rp, mCount_bl, mIndex_bl, opNe_bl, ne_int, eq_int, List.countP_cons, List.countP_nil, id, ite_true, ite_false, reduceIte, castN, atI_litS, got_some, b22, Int.reduceLT, Int.reduceEq, decide_true, decide_false, Bool.not_true, Bool.not_false, List.findIdx?_cons, Option.map_some, Bool.false_eq_true]
  first | exact ⟨rfl, List.prefix_append _ _⟩ | exact ⟨trivial, List.prefix_append _ _⟩
theorem sp_word_NoRules {T : Tab} (t : Ok_law_word T) (k : Nat) {hot : Option Nat} {l : Nat} {h : VH}  (e : ExAt hot l h "NoRules" []) : ∃ h', callN T (k + 1) hot 1007 [.ref l] [] h = .ok (.tup [.str "rules"]) h' ∧ h <+: h' := by
  rw [call_law_word t]
  apply ok_W
  have f0 : isxOf XN "NoRules" "NoSigns" = some false := by decide +kernel
  have f1 : isxOf XN "NoRules" "NoPlace" = some false := by decide +kernel
  have f2 : isxOf XN "NoRules" "NoGivens" = some false := by decide +kernel
  have f3 : isxOf XN "NoRules" "NoUnlikes" = some false := by decide +kernel
  have f4 : isxOf XN "NoRules" "NoLines" = some false := by decide +kernel
  have f5 : isxOf XN "NoRules" "NoModel" = some false := by decide +kernel
  have f6 : isxOf XN "NoRules" "NoPattern" = some false := by decide +kernel
  have f7 : isxOf XN "NoRules" "NoRules" = some true := by decide +kernel
  have f8 : isxOf XN "NoRules" "NoRounds" = some false := by decide +kernel
  have f9 : isxOf XN "NoRules" "NoCosts" = some false := by decide +kernel
  have f10 : isxOf XN "NoRules" "NoLine" = some false := by decide +kernel
  have f11 : isxOf XN "NoRules" "NoTerm" = some false := by decide +kernel
  have f12 : isxOf XN "NoRules" "TooMany" = some false := by decide +kernel
  have f13 : isxOf XN "NoRules" "NoText" = some false := by decide +kernel
  have f14 : isxOf XN "NoRules" "NoLevel" = some false := by decide +kernel
  have f15 : isxOf XN "NoRules" "NotKnown" = some false := by decide +kernel
  have f16 : isxOf XN "NoRules" "NotAlike" = some false := by decide +kernel
  have g0 : isxOf XN "NoRules" "NestError" = some true := by decide +kernel
  have g1 : isxOf XN "NoRules" "ValueError" = some true := by decide +kernel
  have g2 : isxOf XN "NoRules" "AbsentError" = some false := by decide +kernel
  have g3 : isxOf XN "NoRules" "LookupError" = some false := by decide +kernel
  have hl : ∀ n : Nat, n ≤ 17 → (n ≤ LIM) = True := fun n hn => by unfold LIM; simp; omega
  have hm : (1 * (2 : Int).toNat ≤ LIM ∧ (2 : Int) < 2 ^ 62 ∧ -(2 ^ 62) < (2 : Int)) = True := by unfold LIM; simp
  have rp : ∀ v : Val, repN (2 : Int).toNat [v] = [v, v] := fun v => rfl
  simp only [ev, evW, D_law_word, hotX_of e, hotX_of0 e, Option.bind_some, f0, f1, f2, f3, f4, f5, f6, f7, f8, f9, f10, f11, f12, f13, f14, f15, f16, g0, g1, g2, g3, List.append_assoc, List.cons_append, List.nil_append, List.length_append, List.length_cons, List.length_nil, Nat.reduceAdd, Nat.zero_add, getA0, getA, List.getElem?_cons_succ, List.getElem?_cons_zero, hl _ (show 8 ≤ 17 by decide), hl _ (show 12 ≤ 17 by decide), hl _ (show 16 ≤ 17 by decide), hl _ (show 17 ≤ 17 by decide), hm, rp, mCount_bl, mIndex_bl, opNe_bl, ne_int, eq_int, List.countP_cons, List.countP_nil, id, ite_true, ite_false, reduceIte, castN, atI_litS, got_some, b22, Int.reduceLT, Int.reduceEq, decide_true, decide_false, Bool.not_true, Bool.not_false, List.findIdx?_cons, Option.map_some, Bool.false_eq_true]
  first | exact ⟨rfl, List.prefix_append _ _⟩ | exact ⟨trivial, List.prefix_append _ _⟩
theorem sp_word_NoRounds {T : Tab} (t : Ok_law_word T) (k : Nat) {hot : Option Nat} {l : Nat} {h : VH}  (e : ExAt hot l h "NoRounds" []) : ∃ h', callN T (k + 1) hot 1007 [.ref l] [] h = .ok (.tup [.str "rounds"]) h' ∧ h <+: h' := by
  rw [call_law_word t]
  apply ok_W
  have f0 : isxOf XN "NoRounds" "NoSigns" = some false := by decide +kernel
  have f1 : isxOf XN "NoRounds" "NoPlace" = some false := by decide +kernel
  have f2 : isxOf XN "NoRounds" "NoGivens" = some false := by decide +kernel
  have f3 : isxOf XN "NoRounds" "NoUnlikes" = some false := by decide +kernel
  have f4 : isxOf XN "NoRounds" "NoLines" = some false := by decide +kernel
  have f5 : isxOf XN "NoRounds" "NoModel" = some false := by decide +kernel
  have f6 : isxOf XN "NoRounds" "NoPattern" = some false := by decide +kernel
  have f7 : isxOf XN "NoRounds" "NoRules" = some false := by decide +kernel
  have f8 : isxOf XN "NoRounds" "NoRounds" = some true := by decide +kernel
  have f9 : isxOf XN "NoRounds" "NoCosts" = some false := by decide +kernel
  have f10 : isxOf XN "NoRounds" "NoLine" = some false := by decide +kernel
  have f11 : isxOf XN "NoRounds" "NoTerm" = some false := by decide +kernel
  have f12 : isxOf XN "NoRounds" "TooMany" = some false := by decide +kernel
  have f13 : isxOf XN "NoRounds" "NoText" = some false := by decide +kernel
  have f14 : isxOf XN "NoRounds" "NoLevel" = some false := by decide +kernel
  have f15 : isxOf XN "NoRounds" "NotKnown" = some false := by decide +kernel
  have f16 : isxOf XN "NoRounds" "NotAlike" = some false := by decide +kernel
  have g0 : isxOf XN "NoRounds" "NestError" = some true := by decide +kernel
  have g1 : isxOf XN "NoRounds" "ValueError" = some true := by decide +kernel
  have g2 : isxOf XN "NoRounds" "AbsentError" = some false := by decide +kernel
  have g3 : isxOf XN "NoRounds" "LookupError" = some false := by decide +kernel
  have hl : ∀ n : Nat, n ≤ 17 → (n ≤ LIM) = True := fun n hn => by unfold LIM; simp; omega
  have hm : (1 * (2 : Int).toNat ≤ LIM ∧ (2 : Int) < 2 ^ 62 ∧ -(2 ^ 62) < (2 : Int)) = True := by unfold LIM; simp
  have rp : ∀ v : Val, repN (2 : Int).toNat [v] = [v, v] := fun v => rfl
  simp only [ev, evW, D_law_word, hotX_of e, hotX_of0 e, Option.bind_some, f0, f1, f2, f3, f4, f5, f6, f7, f8, f9, f10, f11, f12, f13, f14, f15, f16, g0, g1, g2, g3, List.append_assoc, List.cons_append, List.nil_append, List.length_append, List.length_cons, List.length_nil, Nat.reduceAdd, Nat.zero_add, getA0, getA, List.getElem?_cons_succ, List.getElem?_cons_zero, hl _ (show 8 ≤ 17 by decide), hl _ (show 12 ≤ 17 by decide), hl _ (show 16 ≤ 17 by decide), hl _ (show 17 ≤ 17 by decide), hm, rp, mCount_bl, mIndex_bl, opNe_bl, ne_int, eq_int, List.countP_cons, List.countP_nil, id, ite_true, ite_false, reduceIte, castN, atI_litS, got_some, b22, Int.reduceLT, Int.reduceEq, decide_true, decide_false, Bool.not_true, Bool.not_false, List.findIdx?_cons, Option.map_some, Bool.false_eq_true]
  first | exact ⟨rfl, List.prefix_append _ _⟩ | exact ⟨trivial, List.prefix_append _ _⟩
theorem sp_word_NoCosts {T : Tab} (t : Ok_law_word T) (k : Nat) {hot : Option Nat} {l : Nat} {h : VH}  (e : ExAt hot l h "NoCosts" []) : ∃ h', callN T (k + 1) hot 1007 [.ref l] [] h = .ok (.tup [.str "costs"]) h' ∧ h <+: h' := by
  rw [call_law_word t]
  apply ok_W
  have f0 : isxOf XN "NoCosts" "NoSigns" = some false := by decide +kernel
  have f1 : isxOf XN "NoCosts" "NoPlace" = some false := by decide +kernel
  have f2 : isxOf XN "NoCosts" "NoGivens" = some false := by decide +kernel
  have f3 : isxOf XN "NoCosts" "NoUnlikes" = some false := by decide +kernel
  have f4 : isxOf XN "NoCosts" "NoLines" = some false := by decide +kernel
  have f5 : isxOf XN "NoCosts" "NoModel" = some false := by decide +kernel
  have f6 : isxOf XN "NoCosts" "NoPattern" = some false := by decide +kernel
  have f7 : isxOf XN "NoCosts" "NoRules" = some false := by decide +kernel
  have f8 : isxOf XN "NoCosts" "NoRounds" = some false := by decide +kernel
  have f9 : isxOf XN "NoCosts" "NoCosts" = some true := by decide +kernel
  have f10 : isxOf XN "NoCosts" "NoLine" = some false := by decide +kernel
  have f11 : isxOf XN "NoCosts" "NoTerm" = some false := by decide +kernel
  have f12 : isxOf XN "NoCosts" "TooMany" = some false := by decide +kernel
  have f13 : isxOf XN "NoCosts" "NoText" = some false := by decide +kernel
  have f14 : isxOf XN "NoCosts" "NoLevel" = some false := by decide +kernel
  have f15 : isxOf XN "NoCosts" "NotKnown" = some false := by decide +kernel
  have f16 : isxOf XN "NoCosts" "NotAlike" = some false := by decide +kernel
  have g0 : isxOf XN "NoCosts" "NestError" = some true := by decide +kernel
  have g1 : isxOf XN "NoCosts" "ValueError" = some true := by decide +kernel
  have g2 : isxOf XN "NoCosts" "AbsentError" = some false := by decide +kernel
  have g3 : isxOf XN "NoCosts" "LookupError" = some false := by decide +kernel
  have hl : ∀ n : Nat, n ≤ 17 → (n ≤ LIM) = True := fun n hn => by unfold LIM; simp; omega
  have hm : (1 * (2 : Int).toNat ≤ LIM ∧ (2 : Int) < 2 ^ 62 ∧ -(2 ^ 62) < (2 : Int)) = True := by unfold LIM; simp
  have rp : ∀ v : Val, repN (2 : Int).toNat [v] = [v, v] := fun v => rfl
  simp only [ev, evW, D_law_word, hotX_of e, hotX_of0 e, Option.bind_some, f0, f1, f2, f3, f4, f5, f6, f7, f8, f9, f10, f11, f12, f13, f14, f15, f16, g0, g1, g2, g3, List.append_assoc, List.cons_append, List.nil_append, List.length_append, List.length_cons, List.length_nil, Nat.reduceAdd, Nat.zero_add, getA0, getA, List.getElem?_cons_succ, List.getElem?_cons_zero, hl _ (show 8 ≤ 17 by decide), hl _ (show 12 ≤ 17 by decide), hl _ (show 16 ≤ 17 by decide), hl _ (show 17 ≤ 17 by decide), hm, rp, mCount_bl, mIndex_bl, opNe_bl, ne_int, eq_int, List.countP_cons, List.countP_nil, id, ite_true, ite_false, reduceIte, castN, atI_litS, got_some, b22, Int.reduceLT, Int.reduceEq, decide_true, decide_false, Bool.not_true, Bool.not_false, List.findIdx?_cons, Option.map_some, Bool.false_eq_true]
  first | exact ⟨rfl, List.prefix_append _ _⟩ | exact ⟨trivial, List.prefix_append _ _⟩
theorem sp_word_NoLine {T : Tab} (t : Ok_law_word T) (k : Nat) {hot : Option Nat} {l : Nat} {h : VH}  (e : ExAt hot l h "NoLine" []) : ∃ h', callN T (k + 1) hot 1007 [.ref l] [] h = .ok (.tup [.str "line"]) h' ∧ h <+: h' := by
  rw [call_law_word t]
  apply ok_W
  have f0 : isxOf XN "NoLine" "NoSigns" = some false := by decide +kernel
  have f1 : isxOf XN "NoLine" "NoPlace" = some false := by decide +kernel
  have f2 : isxOf XN "NoLine" "NoGivens" = some false := by decide +kernel
  have f3 : isxOf XN "NoLine" "NoUnlikes" = some false := by decide +kernel
  have f4 : isxOf XN "NoLine" "NoLines" = some false := by decide +kernel
  have f5 : isxOf XN "NoLine" "NoModel" = some false := by decide +kernel
  have f6 : isxOf XN "NoLine" "NoPattern" = some false := by decide +kernel
  have f7 : isxOf XN "NoLine" "NoRules" = some false := by decide +kernel
  have f8 : isxOf XN "NoLine" "NoRounds" = some false := by decide +kernel
  have f9 : isxOf XN "NoLine" "NoCosts" = some false := by decide +kernel
  have f10 : isxOf XN "NoLine" "NoLine" = some true := by decide +kernel
  have f11 : isxOf XN "NoLine" "NoTerm" = some false := by decide +kernel
  have f12 : isxOf XN "NoLine" "TooMany" = some false := by decide +kernel
  have f13 : isxOf XN "NoLine" "NoText" = some false := by decide +kernel
  have f14 : isxOf XN "NoLine" "NoLevel" = some false := by decide +kernel
  have f15 : isxOf XN "NoLine" "NotKnown" = some false := by decide +kernel
  have f16 : isxOf XN "NoLine" "NotAlike" = some false := by decide +kernel
  have g0 : isxOf XN "NoLine" "NestError" = some true := by decide +kernel
  have g1 : isxOf XN "NoLine" "ValueError" = some true := by decide +kernel
  have g2 : isxOf XN "NoLine" "AbsentError" = some false := by decide +kernel
  have g3 : isxOf XN "NoLine" "LookupError" = some false := by decide +kernel
  have hl : ∀ n : Nat, n ≤ 17 → (n ≤ LIM) = True := fun n hn => by unfold LIM; simp; omega
  have hm : (1 * (2 : Int).toNat ≤ LIM ∧ (2 : Int) < 2 ^ 62 ∧ -(2 ^ 62) < (2 : Int)) = True := by unfold LIM; simp
  have rp : ∀ v : Val, repN (2 : Int).toNat [v] = [v, v] := fun v => rfl
  simp only [ev, evW, D_law_word, hotX_of e, hotX_of0 e, Option.bind_some, f0, f1, f2, f3, f4, f5, f6, f7, f8, f9, f10, f11, f12, f13, f14, f15, f16, g0, g1, g2, g3, List.append_assoc, List.cons_append, List.nil_append, List.length_append, List.length_cons, List.length_nil, Nat.reduceAdd, Nat.zero_add, getA0, getA, List.getElem?_cons_succ, List.getElem?_cons_zero, hl _ (show 8 ≤ 17 by decide), hl _ (show 12 ≤ 17 by decide), hl _ (show 16 ≤ 17 by decide), hl _ (show 17 ≤ 17 by decide), hm, rp, mCount_bl, mIndex_bl, opNe_bl, ne_int, eq_int, List.countP_cons, List.countP_nil, id, ite_true, ite_false, reduceIte, castN, atI_litS, got_some, b22, Int.reduceLT, Int.reduceEq, decide_true, decide_false, Bool.not_true, Bool.not_false, List.findIdx?_cons, Option.map_some, Bool.false_eq_true]
  first | exact ⟨rfl, List.prefix_append _ _⟩ | exact ⟨trivial, List.prefix_append _ _⟩
theorem sp_word_NoTerm {T : Tab} (t : Ok_law_word T) (k : Nat) {hot : Option Nat} {l : Nat} {h : VH} (a : Val) (e : ExAt hot l h "NoTerm" [("at", a)]) : ∃ h', callN T (k + 1) hot 1007 [.ref l] [] h = .ok (.tup [.str "term", a]) h' ∧ h <+: h' := by
  rw [call_law_word t]
  apply ok_W
  have f0 : isxOf XN "NoTerm" "NoSigns" = some false := by decide +kernel
  have f1 : isxOf XN "NoTerm" "NoPlace" = some false := by decide +kernel
  have f2 : isxOf XN "NoTerm" "NoGivens" = some false := by decide +kernel
  have f3 : isxOf XN "NoTerm" "NoUnlikes" = some false := by decide +kernel
  have f4 : isxOf XN "NoTerm" "NoLines" = some false := by decide +kernel
  have f5 : isxOf XN "NoTerm" "NoModel" = some false := by decide +kernel
  have f6 : isxOf XN "NoTerm" "NoPattern" = some false := by decide +kernel
  have f7 : isxOf XN "NoTerm" "NoRules" = some false := by decide +kernel
  have f8 : isxOf XN "NoTerm" "NoRounds" = some false := by decide +kernel
  have f9 : isxOf XN "NoTerm" "NoCosts" = some false := by decide +kernel
  have f10 : isxOf XN "NoTerm" "NoLine" = some false := by decide +kernel
  have f11 : isxOf XN "NoTerm" "NoTerm" = some true := by decide +kernel
  have f12 : isxOf XN "NoTerm" "TooMany" = some false := by decide +kernel
  have f13 : isxOf XN "NoTerm" "NoText" = some false := by decide +kernel
  have f14 : isxOf XN "NoTerm" "NoLevel" = some false := by decide +kernel
  have f15 : isxOf XN "NoTerm" "NotKnown" = some false := by decide +kernel
  have f16 : isxOf XN "NoTerm" "NotAlike" = some false := by decide +kernel
  have g0 : isxOf XN "NoTerm" "NestError" = some true := by decide +kernel
  have g1 : isxOf XN "NoTerm" "ValueError" = some true := by decide +kernel
  have g2 : isxOf XN "NoTerm" "AbsentError" = some false := by decide +kernel
  have g3 : isxOf XN "NoTerm" "LookupError" = some false := by decide +kernel
  have x0 : (if XN.contains ("NoTerm" : Str) && fieldNames.contains ("at" : Str) then List.lookup ("at" : Str) ([("at", a)] : Flds) else none) = some a := by kernel_rfl
  have hl : ∀ n : Nat, n ≤ 17 → (n ≤ LIM) = True := fun n hn => by unfold LIM; simp; omega
  have hm : (1 * (2 : Int).toNat ≤ LIM ∧ (2 : Int) < 2 ^ 62 ∧ -(2 ^ 62) < (2 : Int)) = True := by unfold LIM; simp
  have rp : ∀ v : Val, repN (2 : Int).toNat [v] = [v, v] := fun v => rfl
  simp only [ev, evW, D_law_word, hotX_of e, hotX_of0 e, Option.bind_some, f0, f1, f2, f3, f4, f5, f6, f7, f8, f9, f10, f11, f12, f13, f14, f15, f16, g0, g1, g2, g3, x0, List.append_assoc, List.cons_append, List.nil_append, List.length_append, List.length_cons, List.length_nil, Nat.reduceAdd, Nat.zero_add, getA0, getA, List.getElem?_cons_succ, List.getElem?_cons_zero, hl _ (show 8 ≤ 17 by decide), hl _ (show 12 ≤ 17 by decide), hl _ (show 16 ≤ 17 by decide), hl _ (show 17 ≤ 17 by decide), hm, rp, mCount_bl, mIndex_bl, opNe_bl, ne_int, eq_int, List.countP_cons, List.countP_nil, id, ite_true, ite_false, reduceIte, castN, atI_litS, got_some, b22, Int.reduceLT, Int.reduceEq, decide_true, decide_false, Bool.not_true, Bool.not_false, List.findIdx?_cons, Option.map_some, Bool.false_eq_true]
  first | exact ⟨rfl, List.prefix_append _ _⟩ | exact ⟨trivial, List.prefix_append _ _⟩
theorem sp_word_TooMany {T : Tab} (t : Ok_law_word T) (k : Nat) {hot : Option Nat} {l : Nat} {h : VH} (a b : Val) (e : ExAt hot l h "TooMany" [("most", b), ("many", a)]) : ∃ h', callN T (k + 1) hot 1007 [.ref l] [] h = .ok (.tup [.str "many", a, b]) h' ∧ h <+: h' := by
  rw [call_law_word t]
  apply ok_W
  have f0 : isxOf XN "TooMany" "NoSigns" = some false := by decide +kernel
  have f1 : isxOf XN "TooMany" "NoPlace" = some false := by decide +kernel
  have f2 : isxOf XN "TooMany" "NoGivens" = some false := by decide +kernel
  have f3 : isxOf XN "TooMany" "NoUnlikes" = some false := by decide +kernel
  have f4 : isxOf XN "TooMany" "NoLines" = some false := by decide +kernel
  have f5 : isxOf XN "TooMany" "NoModel" = some false := by decide +kernel
  have f6 : isxOf XN "TooMany" "NoPattern" = some false := by decide +kernel
  have f7 : isxOf XN "TooMany" "NoRules" = some false := by decide +kernel
  have f8 : isxOf XN "TooMany" "NoRounds" = some false := by decide +kernel
  have f9 : isxOf XN "TooMany" "NoCosts" = some false := by decide +kernel
  have f10 : isxOf XN "TooMany" "NoLine" = some false := by decide +kernel
  have f11 : isxOf XN "TooMany" "NoTerm" = some false := by decide +kernel
  have f12 : isxOf XN "TooMany" "TooMany" = some true := by decide +kernel
  have f13 : isxOf XN "TooMany" "NoText" = some false := by decide +kernel
  have f14 : isxOf XN "TooMany" "NoLevel" = some false := by decide +kernel
  have f15 : isxOf XN "TooMany" "NotKnown" = some false := by decide +kernel
  have f16 : isxOf XN "TooMany" "NotAlike" = some false := by decide +kernel
  have g0 : isxOf XN "TooMany" "NestError" = some true := by decide +kernel
  have g1 : isxOf XN "TooMany" "ValueError" = some true := by decide +kernel
  have g2 : isxOf XN "TooMany" "AbsentError" = some false := by decide +kernel
  have g3 : isxOf XN "TooMany" "LookupError" = some false := by decide +kernel
  have x0 : (if XN.contains ("TooMany" : Str) && fieldNames.contains ("many" : Str) then List.lookup ("many" : Str) ([("most", b), ("many", a)] : Flds) else none) = some a := by kernel_rfl
  have x1 : (if XN.contains ("TooMany" : Str) && fieldNames.contains ("most" : Str) then List.lookup ("most" : Str) ([("most", b), ("many", a)] : Flds) else none) = some b := by kernel_rfl
  have hl : ∀ n : Nat, n ≤ 17 → (n ≤ LIM) = True := fun n hn => by unfold LIM; simp; omega
  have hm : (1 * (2 : Int).toNat ≤ LIM ∧ (2 : Int) < 2 ^ 62 ∧ -(2 ^ 62) < (2 : Int)) = True := by unfold LIM; simp
  have rp : ∀ v : Val, repN (2 : Int).toNat [v] = [v, v] := fun v => rfl
  simp only [ev, evW, D_law_word, hotX_of e, hotX_of0 e, Option.bind_some, f0, f1, f2, f3, f4, f5, f6, f7, f8, f9, f10, f11, f12, f13, f14, f15, f16, g0, g1, g2, g3, x0, x1, List.append_assoc, List.cons_append, List.nil_append, List.length_append, List.length_cons, List.length_nil, Nat.reduceAdd, Nat.zero_add, getA0, getA, List.getElem?_cons_succ, List.getElem?_cons_zero, hl _ (show 8 ≤ 17 by decide), hl _ (show 12 ≤ 17 by decide), hl _ (show 16 ≤ 17 by decide), hl _ (show 17 ≤ 17 by decide), hm, rp, mCount_bl, mIndex_bl, opNe_bl, ne_int, eq_int, List.countP_cons, List.countP_nil, id, ite_true, ite_false, reduceIte, castN, atI_litS, got_some, b22, Int.reduceLT, Int.reduceEq, decide_true, decide_false, Bool.not_true, Bool.not_false, List.findIdx?_cons, Option.map_some, Bool.false_eq_true]
  first | exact ⟨rfl, List.prefix_append _ _⟩ | exact ⟨trivial, List.prefix_append _ _⟩
theorem sp_word_NoText {T : Tab} (t : Ok_law_word T) (k : Nat) {hot : Option Nat} {l : Nat} {h : VH} (a : Val) (e : ExAt hot l h "NoText" [("row", a)]) : ∃ h', callN T (k + 1) hot 1007 [.ref l] [] h = .ok (.tup [.str "text", a]) h' ∧ h <+: h' := by
  rw [call_law_word t]
  apply ok_W
  have f0 : isxOf XN "NoText" "NoSigns" = some false := by decide +kernel
  have f1 : isxOf XN "NoText" "NoPlace" = some false := by decide +kernel
  have f2 : isxOf XN "NoText" "NoGivens" = some false := by decide +kernel
  have f3 : isxOf XN "NoText" "NoUnlikes" = some false := by decide +kernel
  have f4 : isxOf XN "NoText" "NoLines" = some false := by decide +kernel
  have f5 : isxOf XN "NoText" "NoModel" = some false := by decide +kernel
  have f6 : isxOf XN "NoText" "NoPattern" = some false := by decide +kernel
  have f7 : isxOf XN "NoText" "NoRules" = some false := by decide +kernel
  have f8 : isxOf XN "NoText" "NoRounds" = some false := by decide +kernel
  have f9 : isxOf XN "NoText" "NoCosts" = some false := by decide +kernel
  have f10 : isxOf XN "NoText" "NoLine" = some false := by decide +kernel
  have f11 : isxOf XN "NoText" "NoTerm" = some false := by decide +kernel
  have f12 : isxOf XN "NoText" "TooMany" = some false := by decide +kernel
  have f13 : isxOf XN "NoText" "NoText" = some true := by decide +kernel
  have f14 : isxOf XN "NoText" "NoLevel" = some false := by decide +kernel
  have f15 : isxOf XN "NoText" "NotKnown" = some false := by decide +kernel
  have f16 : isxOf XN "NoText" "NotAlike" = some false := by decide +kernel
  have g0 : isxOf XN "NoText" "NestError" = some true := by decide +kernel
  have g1 : isxOf XN "NoText" "ValueError" = some true := by decide +kernel
  have g2 : isxOf XN "NoText" "AbsentError" = some false := by decide +kernel
  have g3 : isxOf XN "NoText" "LookupError" = some false := by decide +kernel
  have x0 : (if XN.contains ("NoText" : Str) && fieldNames.contains ("row" : Str) then List.lookup ("row" : Str) ([("row", a)] : Flds) else none) = some a := by kernel_rfl
  have hl : ∀ n : Nat, n ≤ 17 → (n ≤ LIM) = True := fun n hn => by unfold LIM; simp; omega
  have hm : (1 * (2 : Int).toNat ≤ LIM ∧ (2 : Int) < 2 ^ 62 ∧ -(2 ^ 62) < (2 : Int)) = True := by unfold LIM; simp
  have rp : ∀ v : Val, repN (2 : Int).toNat [v] = [v, v] := fun v => rfl
  simp only [ev, evW, D_law_word, hotX_of e, hotX_of0 e, Option.bind_some, f0, f1, f2, f3, f4, f5, f6, f7, f8, f9, f10, f11, f12, f13, f14, f15, f16, g0, g1, g2, g3, x0, List.append_assoc, List.cons_append, List.nil_append, List.length_append, List.length_cons, List.length_nil, Nat.reduceAdd, Nat.zero_add, getA0, getA, List.getElem?_cons_succ, List.getElem?_cons_zero, hl _ (show 8 ≤ 17 by decide), hl _ (show 12 ≤ 17 by decide), hl _ (show 16 ≤ 17 by decide), hl _ (show 17 ≤ 17 by decide), hm, rp, mCount_bl, mIndex_bl, opNe_bl, ne_int, eq_int, List.countP_cons, List.countP_nil, id, ite_true, ite_false, reduceIte, castN, atI_litS, got_some, b22, Int.reduceLT, Int.reduceEq, decide_true, decide_false, Bool.not_true, Bool.not_false, List.findIdx?_cons, Option.map_some, Bool.false_eq_true]
  first | exact ⟨rfl, List.prefix_append _ _⟩ | exact ⟨trivial, List.prefix_append _ _⟩
theorem sp_word_NoLevel {T : Tab} (t : Ok_law_word T) (k : Nat) {hot : Option Nat} {l : Nat} {h : VH} (a : Val) (e : ExAt hot l h "NoLevel" [("left", a)]) : ∃ h', callN T (k + 1) hot 1007 [.ref l] [] h = .ok (.tup [.str "level", a]) h' ∧ h <+: h' := by
  rw [call_law_word t]
  apply ok_W
  have f0 : isxOf XN "NoLevel" "NoSigns" = some false := by decide +kernel
  have f1 : isxOf XN "NoLevel" "NoPlace" = some false := by decide +kernel
  have f2 : isxOf XN "NoLevel" "NoGivens" = some false := by decide +kernel
  have f3 : isxOf XN "NoLevel" "NoUnlikes" = some false := by decide +kernel
  have f4 : isxOf XN "NoLevel" "NoLines" = some false := by decide +kernel
  have f5 : isxOf XN "NoLevel" "NoModel" = some false := by decide +kernel
  have f6 : isxOf XN "NoLevel" "NoPattern" = some false := by decide +kernel
  have f7 : isxOf XN "NoLevel" "NoRules" = some false := by decide +kernel
  have f8 : isxOf XN "NoLevel" "NoRounds" = some false := by decide +kernel
  have f9 : isxOf XN "NoLevel" "NoCosts" = some false := by decide +kernel
  have f10 : isxOf XN "NoLevel" "NoLine" = some false := by decide +kernel
  have f11 : isxOf XN "NoLevel" "NoTerm" = some false := by decide +kernel
  have f12 : isxOf XN "NoLevel" "TooMany" = some false := by decide +kernel
  have f13 : isxOf XN "NoLevel" "NoText" = some false := by decide +kernel
  have f14 : isxOf XN "NoLevel" "NoLevel" = some true := by decide +kernel
  have f15 : isxOf XN "NoLevel" "NotKnown" = some false := by decide +kernel
  have f16 : isxOf XN "NoLevel" "NotAlike" = some false := by decide +kernel
  have g0 : isxOf XN "NoLevel" "NestError" = some false := by decide +kernel
  have g1 : isxOf XN "NoLevel" "ValueError" = some false := by decide +kernel
  have g2 : isxOf XN "NoLevel" "AbsentError" = some true := by decide +kernel
  have g3 : isxOf XN "NoLevel" "LookupError" = some true := by decide +kernel
  have x0 : (if XN.contains ("NoLevel" : Str) && fieldNames.contains ("left" : Str) then List.lookup ("left" : Str) ([("left", a)] : Flds) else none) = some a := by kernel_rfl
  have hl : ∀ n : Nat, n ≤ 17 → (n ≤ LIM) = True := fun n hn => by unfold LIM; simp; omega
  have hm : (1 * (2 : Int).toNat ≤ LIM ∧ (2 : Int) < 2 ^ 62 ∧ -(2 ^ 62) < (2 : Int)) = True := by unfold LIM; simp
  have rp : ∀ v : Val, repN (2 : Int).toNat [v] = [v, v] := fun v => rfl
  simp only [ev, evW, D_law_word, hotX_of e, hotX_of0 e, Option.bind_some, f0, f1, f2, f3, f4, f5, f6, f7, f8, f9, f10, f11, f12, f13, f14, f15, f16, g0, g1, g2, g3, x0, List.append_assoc, List.cons_append, List.nil_append, List.length_append, List.length_cons, List.length_nil, Nat.reduceAdd, Nat.zero_add, getA0, getA, List.getElem?_cons_succ, List.getElem?_cons_zero, hl _ (show 8 ≤ 17 by decide), hl _ (show 12 ≤ 17 by decide), hl _ (show 16 ≤ 17 by decide), hl _ (show 17 ≤ 17 by decide), hm, rp, mCount_bl, mIndex_bl, opNe_bl, ne_int, eq_int, List.countP_cons, List.countP_nil, id, ite_true, ite_false, reduceIte, castN, atI_litS, got_some, b22, Int.reduceLT, Int.reduceEq, decide_true, decide_false, Bool.not_true, Bool.not_false, List.findIdx?_cons, Option.map_some, Bool.false_eq_true]
  first | exact ⟨rfl, List.prefix_append _ _⟩ | exact ⟨trivial, List.prefix_append _ _⟩
theorem sp_word_NotKnown {T : Tab} (t : Ok_law_word T) (k : Nat) {hot : Option Nat} {l : Nat} {h : VH} (a : Val) (e : ExAt hot l h "NotKnown" [("term", a)]) : ∃ h', callN T (k + 1) hot 1007 [.ref l] [] h = .ok (.tup [.str "known", a]) h' ∧ h <+: h' := by
  rw [call_law_word t]
  apply ok_W
  have f0 : isxOf XN "NotKnown" "NoSigns" = some false := by decide +kernel
  have f1 : isxOf XN "NotKnown" "NoPlace" = some false := by decide +kernel
  have f2 : isxOf XN "NotKnown" "NoGivens" = some false := by decide +kernel
  have f3 : isxOf XN "NotKnown" "NoUnlikes" = some false := by decide +kernel
  have f4 : isxOf XN "NotKnown" "NoLines" = some false := by decide +kernel
  have f5 : isxOf XN "NotKnown" "NoModel" = some false := by decide +kernel
  have f6 : isxOf XN "NotKnown" "NoPattern" = some false := by decide +kernel
  have f7 : isxOf XN "NotKnown" "NoRules" = some false := by decide +kernel
  have f8 : isxOf XN "NotKnown" "NoRounds" = some false := by decide +kernel
  have f9 : isxOf XN "NotKnown" "NoCosts" = some false := by decide +kernel
  have f10 : isxOf XN "NotKnown" "NoLine" = some false := by decide +kernel
  have f11 : isxOf XN "NotKnown" "NoTerm" = some false := by decide +kernel
  have f12 : isxOf XN "NotKnown" "TooMany" = some false := by decide +kernel
  have f13 : isxOf XN "NotKnown" "NoText" = some false := by decide +kernel
  have f14 : isxOf XN "NotKnown" "NoLevel" = some false := by decide +kernel
  have f15 : isxOf XN "NotKnown" "NotKnown" = some true := by decide +kernel
  have f16 : isxOf XN "NotKnown" "NotAlike" = some false := by decide +kernel
  have g0 : isxOf XN "NotKnown" "NestError" = some false := by decide +kernel
  have g1 : isxOf XN "NotKnown" "ValueError" = some false := by decide +kernel
  have g2 : isxOf XN "NotKnown" "AbsentError" = some true := by decide +kernel
  have g3 : isxOf XN "NotKnown" "LookupError" = some true := by decide +kernel
  have x0 : (if XN.contains ("NotKnown" : Str) && fieldNames.contains ("term" : Str) then List.lookup ("term" : Str) ([("term", a)] : Flds) else none) = some a := by kernel_rfl
  have hl : ∀ n : Nat, n ≤ 17 → (n ≤ LIM) = True := fun n hn => by unfold LIM; simp; omega
  have hm : (1 * (2 : Int).toNat ≤ LIM ∧ (2 : Int) < 2 ^ 62 ∧ -(2 ^ 62) < (2 : Int)) = True := by unfold LIM; simp
  have rp : ∀ v : Val, repN (2 : Int).toNat [v] = [v, v] := fun v => rfl
  simp only [ev, evW, D_law_word, hotX_of e, hotX_of0 e, Option.bind_some, f0, f1, f2, f3, f4, f5, f6, f7, f8, f9, f10, f11, f12, f13, f14, f15, f16, g0, g1, g2, g3, x0, List.append_assoc, List.cons_append, List.nil_append, List.length_append, List.length_cons, List.length_nil, Nat.reduceAdd, Nat.zero_add, getA0, getA, List.getElem?_cons_succ, List.getElem?_cons_zero, hl _ (show 8 ≤ 17 by decide), hl _ (show 12 ≤ 17 by decide), hl _ (show 16 ≤ 17 by decide), hl _ (show 17 ≤ 17 by decide), hm, rp, mCount_bl, mIndex_bl, opNe_bl, ne_int, eq_int, List.countP_cons, List.countP_nil, id, ite_true, ite_false, reduceIte, castN, atI_litS, got_some, b22, Int.reduceLT, Int.reduceEq, decide_true, decide_false, Bool.not_true, Bool.not_false, List.findIdx?_cons, Option.map_some, Bool.false_eq_true]
  first | exact ⟨rfl, List.prefix_append _ _⟩ | exact ⟨trivial, List.prefix_append _ _⟩
theorem sp_word_NotAlike {T : Tab} (t : Ok_law_word T) (k : Nat) {hot : Option Nat} {l : Nat} {h : VH} (a b : Val) (e : ExAt hot l h "NotAlike" [("other", b), ("one", a)]) : ∃ h', callN T (k + 1) hot 1007 [.ref l] [] h = .ok (.tup [.str "alike", a, b]) h' ∧ h <+: h' := by
  rw [call_law_word t]
  apply ok_W
  have f0 : isxOf XN "NotAlike" "NoSigns" = some false := by decide +kernel
  have f1 : isxOf XN "NotAlike" "NoPlace" = some false := by decide +kernel
  have f2 : isxOf XN "NotAlike" "NoGivens" = some false := by decide +kernel
  have f3 : isxOf XN "NotAlike" "NoUnlikes" = some false := by decide +kernel
  have f4 : isxOf XN "NotAlike" "NoLines" = some false := by decide +kernel
  have f5 : isxOf XN "NotAlike" "NoModel" = some false := by decide +kernel
  have f6 : isxOf XN "NotAlike" "NoPattern" = some false := by decide +kernel
  have f7 : isxOf XN "NotAlike" "NoRules" = some false := by decide +kernel
  have f8 : isxOf XN "NotAlike" "NoRounds" = some false := by decide +kernel
  have f9 : isxOf XN "NotAlike" "NoCosts" = some false := by decide +kernel
  have f10 : isxOf XN "NotAlike" "NoLine" = some false := by decide +kernel
  have f11 : isxOf XN "NotAlike" "NoTerm" = some false := by decide +kernel
  have f12 : isxOf XN "NotAlike" "TooMany" = some false := by decide +kernel
  have f13 : isxOf XN "NotAlike" "NoText" = some false := by decide +kernel
  have f14 : isxOf XN "NotAlike" "NoLevel" = some false := by decide +kernel
  have f15 : isxOf XN "NotAlike" "NotKnown" = some false := by decide +kernel
  have f16 : isxOf XN "NotAlike" "NotAlike" = some true := by decide +kernel
  have g0 : isxOf XN "NotAlike" "NestError" = some false := by decide +kernel
  have g1 : isxOf XN "NotAlike" "ValueError" = some false := by decide +kernel
  have g2 : isxOf XN "NotAlike" "AbsentError" = some true := by decide +kernel
  have g3 : isxOf XN "NotAlike" "LookupError" = some true := by decide +kernel
  have x0 : (if XN.contains ("NotAlike" : Str) && fieldNames.contains ("one" : Str) then List.lookup ("one" : Str) ([("other", b), ("one", a)] : Flds) else none) = some a := by kernel_rfl
  have x1 : (if XN.contains ("NotAlike" : Str) && fieldNames.contains ("other" : Str) then List.lookup ("other" : Str) ([("other", b), ("one", a)] : Flds) else none) = some b := by kernel_rfl
  have hl : ∀ n : Nat, n ≤ 17 → (n ≤ LIM) = True := fun n hn => by unfold LIM; simp; omega
  have hm : (1 * (2 : Int).toNat ≤ LIM ∧ (2 : Int) < 2 ^ 62 ∧ -(2 ^ 62) < (2 : Int)) = True := by unfold LIM; simp
  have rp : ∀ v : Val, repN (2 : Int).toNat [v] = [v, v] := fun v => rfl
  simp only [ev, evW, D_law_word, hotX_of e, hotX_of0 e, Option.bind_some, f0, f1, f2, f3, f4, f5, f6, f7, f8, f9, f10, f11, f12, f13, f14, f15, f16, g0, g1, g2, g3, x0, x1, List.append_assoc, List.cons_append, List.nil_append, List.length_append, List.length_cons, List.length_nil, Nat.reduceAdd, Nat.zero_add, getA0, getA, List.getElem?_cons_succ, List.getElem?_cons_zero, hl _ (show 8 ≤ 17 by decide), hl _ (show 12 ≤ 17 by decide), hl _ (show 16 ≤ 17 by decide), hl _ (show 17 ≤ 17 by decide), hm, rp, mCount_bl, mIndex_bl, opNe_bl, ne_int, eq_int, List.countP_cons, List.countP_nil, id, ite_true, ite_false, reduceIte, castN, atI_litS, got_some, b22, Int.reduceLT, Int.reduceEq, decide_true, decide_false, Bool.not_true, Bool.not_false, List.findIdx?_cons, Option.map_some, Bool.false_eq_true]
  first | exact ⟨rfl, List.prefix_append _ _⟩ | exact ⟨trivial, List.prefix_append _ _⟩
end Pv
end
/-! PlShow -/
section
set_option Elab.async false
set_option linter.all false
set_option maxRecDepth 100000
set_option autoImplicit false
/-! Pl: what may be shown. -/
namespace Pv
open PySem PySem.Spec PyProof.Rows L2 TL
theorem shOk_of {d : PyData} (h1 : d.showable = true) (h2 : d.leavesShort 600 = true) (h3 : d.weight ≤ 20000) : shOk d = true := by
  unfold shOk
  rw [Bool.and_eq_true, decide_eq_true_eq]
  refine ⟨h1, ?_⟩
  have := PyData.shown_le 600 (by decide) d h2
  unfold LIM
  have : (600 + 2) * d.weight ≤ 602 * 20000 := Nat.mul_le_mul (by decide) h3
  omega
theorem toD_row (h : VH) (n : Nat) (t : Row) : toD (n + 2) h (eRow t) = some (.tuple (t.map fun n => .int (n : Nat))) := by
  show (((t.map fun n => Val.int (n : Nat)).mapM (toD (n + 1) h)).map PyData.tuple) = _
  have : ∀ t : Row, (t.map fun n => Val.int (n : Nat)).mapM (toD (n + 1) h) = some (t.map fun n => PyData.int (n : Nat)) := by
    intro t
    induction t with
    | nil => rfl
    | cons a t ih => rw [List.map_cons, List.mapM_cons, ih]; rfl
  rw [this]; rfl
theorem small_int {i : Int} (h : i.natAbs < 1000) : (PyData.int i).showable = true ∧ (PyData.int i).leavesShort 600 = true ∧ (PyData.int i).weight ≤ 10 := by
  have lg : i.natAbs.log2 < 10 := by
    by_cases h0 : i.natAbs = 0
    · rw [h0]; decide
    · exact (Nat.log2_lt h0).mpr (by omega)
  refine ⟨?_, ?_, ?_⟩
  · unfold PyData.showable
    exact decide_eq_true (by omega)
  · unfold PyData.leavesShort
    have := PyData.shown_int_le (i := i) (by omega)
    exact decide_eq_true (by omega)
  · unfold PyData.weight
    split <;> omega
theorem row_sh : ∀ t : Row, (∀ n ∈ t, n < 1000) → PyData.showableAll (t.map fun n => .int (n : Nat)) = true ∧ PyData.leavesShortAll 600 (t.map fun n => .int (n : Nat)) = true ∧ PyData.weightAll (t.map fun n => .int (n : Nat)) ≤ 11 * t.length
  | [], _ => ⟨rfl, rfl, by simp [PyData.weightAll]⟩
  | a :: t, h => by
    obtain ⟨a1, a2, a3⟩ := small_int (i := (a : Nat)) (by have := h a (by simp); omega)
    obtain ⟨b1, b2, b3⟩ := row_sh t fun n hn => h n (by simp [hn])
    refine ⟨?_, ?_, ?_⟩
    · show (_ && _) = true
      rw [a1, b1]; rfl
    · show (_ && _) = true
      rw [a2, b2]; rfl
    · show _ + 1 + _ ≤ _
      simp only [List.length_cons]
      omega
theorem sh_row {t : Row} (h : ∀ n ∈ t, n < 1000) (hl : t.length ≤ 1000) : shOk (.tuple (t.map fun n => .int (n : Nat))) = true := by
  obtain ⟨b1, b2, b3⟩ := row_sh t h
  refine shOk_of ?_ ?_ ?_
  · unfold PyData.showable; exact b1
  · unfold PyData.leavesShort; exact b2
  · unfold PyData.weight; omega
/-- two that are one -/
theorem repr2_same {ne : Bool} {a b : Tm} {c : Cfg} {rho : Env} {h h1 h2 : VH} {v w : Val} {d : PyData} (ea : a c rho h = .ok v h1) (eb : b c rho h1 = .ok w h2) (ed : toD DEEP h1 v = some d) (ed2 : toD DEEP h2 w = some d) (hs : shOk d = true) :
    eRepr2 ne a b c rho h = .ok (.bl (!ne)) h2 := by
  unfold eRepr2
  rw [ea]
  simp only [Out.bind_ok, ed, hs, if_true, eb, ed2]
  cases ne <;> simp
theorem IsT.mem {s : Sg} : ∀ (t : Row) (w : Nat), skp s t w = some t.length → ∀ n ∈ t, n < s.length
  | [], _, _, n, hn => by cases hn
  | a :: t, 0, e, n, hn => by simp [skp] at e
  | a :: t, w + 1, e, n, hn => by
    simp only [skp] at e
    cases hq : s[a]? with
    | none => rw [hq] at e; cases e
    | some q =>
      rw [hq] at e
      simp only at e
      obtain ⟨d, h1, h2⟩ := Option.map_eq_some_iff.mp e
      simp only [List.length_cons, Nat.add_right_cancel_iff] at h2
      subst h2
      rcases List.mem_cons.mp hn with rfl | hn
      · exact (List.getElem?_eq_some_iff.mp hq).1
      · exact IsT.mem t _ h1 n hn
end Pv
end
/-! PlLaw -/
section
set_option Elab.async false
set_option linter.all false
set_option maxRecDepth 100000
set_option autoImplicit false
/-! Pl: the frame of a law: its cells, its turns. -/
namespace Pv
open PySem PySem.Spec PyProof.Rows L2 TL
theorem sp_cell {T : Tab} (t : Ok_law_cell_at T) (k : Nat) (hot : Option Nat) {l : Nat} {ns : List Int} {h : VH} (e : h[l]? = some (.frz (ns.map .int))) (i : Nat) : ∃ z : Int, callN T (k + 1) hot 1000 [.ref l, .int (i : Nat)] [] h = .ok (.int z) h := by
  rw [call_law_cell_at t]
  have ln : (((ns.map Val.int).length : Nat) : Int) = (ns.length : Nat) := by rw [List.length_map]
  by_cases hi : i < ns.length
  · have d : decide (((i : Nat) : Int) < (ns.length : Nat)) = true := by simpa using hi
    have g : atI (ns.map Val.int) (i : Nat) = some (.int ns[i]) := by
      rw [atI_nat, List.getElem?_map, List.getElem?_eq_getElem hi]; rfl
    exact ⟨ns[i], by simp only [ev, D_law_cell_at, e, ln, d, g]⟩
  · have d : decide (((i : Nat) : Int) < (ns.length : Nat)) = false := by simpa using hi
    exact ⟨0, by simp only [ev, D_law_cell_at, e, ln, d]⟩
theorem maxmin (n m : Nat) (h : VH) : bMin [.int (n : Nat), .int (m : Nat)] h = .ok (.int ((min n m : Nat) : Int)) h ∧ bMax [.int (n : Nat), .int (m : Nat)] h = .ok (.int ((max n m : Nat) : Int)) h := by
  constructor
  · show Out.ok (Val.int (min ((n : Nat) : Int) (m : Nat))) h = _
    congr 2; omega
  · show Out.ok (Val.int (max ((n : Nat) : Int) (m : Nat))) h = _
    congr 2; omega
/-- the items of a range -/
theorem range_item {n : Nat} {d r : List Val} {v : Val} (e : rangeL 0 (n : Nat) = d ++ v :: r) : v = .int (d.length : Nat) ∧ d.length < n := by
  rw [rangeL_nat] at e
  have l : d.length < n := by
    have := congrArg List.length e
    simp at this
    omega
  have := congrArg (fun l => l[d.length]?) e
  simp only [List.getElem?_map, List.getElem?_range l, Option.map_some] at this
  rw [List.getElem?_append_right (Nat.le_refl _), Nat.sub_self] at this
  exact ⟨(Option.some.inj this).symm, l⟩
theorem range_ok {n : Nat} (h : n < 2 ^ 60) : (-BIG ≤ ((n : Nat) : Int) ∧ ((n : Nat) : Int) < BIG) = True := by
  simp only [BIG, eq_iff_iff, iff_true]; omega
end Pv
end
/-! PK05 -/
section
set_option Elab.async false
set_option linter.all false
set_option maxRecDepth 100000
set_option autoImplicit false
/-! the plain law of k05: exceptions made, their words -/
namespace Pv
open PySem PySem.Spec PyProof.Rows L2 TL
/-- what an exception's word is -/
def Word (c : Str) (fs : Flds) (w : Val) : Prop := ∀ {T : Tab}, Ok_law_word T → ∀ (k : Nat) (hot : Option Nat) (l : Nat) (h : VH), ExAt hot l h c fs → ∃ h', callN T (k + 1) hot 1007 [.ref l] [] h = .ok w h' ∧ h <+: h'
theorem w_NoSigns : Word "NoSigns" [] (.tup [.str "signs"]) := fun t k _ _ _ e => sp_word_NoSigns t k e
theorem w_NoPlace : Word "NoPlace" [] (.tup [.str "place"]) := fun t k _ _ _ e => sp_word_NoPlace t k e
theorem w_NoGivens : Word "NoGivens" [] (.tup [.str "givens"]) := fun t k _ _ _ e => sp_word_NoGivens t k e
theorem w_NoUnlikes : Word "NoUnlikes" [] (.tup [.str "unlikes"]) := fun t k _ _ _ e => sp_word_NoUnlikes t k e
theorem w_NoLines : Word "NoLines" [] (.tup [.str "lines"]) := fun t k _ _ _ e => sp_word_NoLines t k e
theorem w_NoModel : Word "NoModel" [] (.tup [.str "model"]) := fun t k _ _ _ e => sp_word_NoModel t k e
theorem w_NoPattern : Word "NoPattern" [] (.tup [.str "pattern"]) := fun t k _ _ _ e => sp_word_NoPattern t k e
theorem w_NoRules : Word "NoRules" [] (.tup [.str "rules"]) := fun t k _ _ _ e => sp_word_NoRules t k e
theorem w_NoRounds : Word "NoRounds" [] (.tup [.str "rounds"]) := fun t k _ _ _ e => sp_word_NoRounds t k e
theorem w_NoCosts : Word "NoCosts" [] (.tup [.str "costs"]) := fun t k _ _ _ e => sp_word_NoCosts t k e
theorem w_NoLine : Word "NoLine" [] (.tup [.str "line"]) := fun t k _ _ _ e => sp_word_NoLine t k e
theorem w_NoTerm (a : Val) : Word "NoTerm" [("at", a)] (.tup [.str "term", a]) := fun t k _ _ _ e => sp_word_NoTerm t k a e
theorem w_TooMany (a b : Val) : Word "TooMany" [("most", b), ("many", a)] (.tup [.str "many", a, b]) := fun t k _ _ _ e => sp_word_TooMany t k a b e
theorem w_NoText (a : Val) : Word "NoText" [("row", a)] (.tup [.str "text", a]) := fun t k _ _ _ e => sp_word_NoText t k a e
theorem w_NoLevel (a : Val) : Word "NoLevel" [("left", a)] (.tup [.str "level", a]) := fun t k _ _ _ e => sp_word_NoLevel t k a e
theorem w_NotKnown (a : Val) : Word "NotKnown" [("term", a)] (.tup [.str "known", a]) := fun t k _ _ _ e => sp_word_NotKnown t k a e
theorem w_NotAlike (a b : Val) : Word "NotAlike" [("other", b), ("one", a)] (.tup [.str "alike", a, b]) := fun t k _ _ _ e => sp_word_NotAlike t k a b e
inductive MadeL (h0 : VH) : List Val → List Val → Prop
  | nil : MadeL h0 [] []
  | cons {l : Nat} {c : Str} {fs : Flds} {y : Val} {its ys : List Val} (e : h0[l]? = some (.xob c fs)) (w : Word c fs y) (m : MadeL h0 its ys) : MadeL h0 (.ref l :: its) (y :: ys)
theorem lc_words {T : Tab} (t : Ok_law_word T) (k : Nat) {w : Wat} {h0 : VH} (al : ∀ h, h0 <+: h → alive w h = true) (x0 x1 x2 x3 x4 x5 x6 x7 x8 x9 x10 : Option Val) : ∀ {its ys : List Val}, MadeL h0 its ys → ∀ h, h0 <+: h →
    ∃ h', lcL w (gName 9) tYes (eCall 1007 (aCons (eV 9) aNil) [] aNil) ⟨callN T (k + 1), none⟩ [x0, x1, x2, x3, x4, x5, x6, x7, x8, x9, x10] its h = .ok ys h' ∧ h <+: h'
  | _, _, .nil, h, g => ⟨h, lcL_nil _ _ _ _ _ _ _ (al h g), List.prefix_refl _⟩
  | _, _, .cons (l := l) e W m, h, g => by
    obtain ⟨h1, e1, g1⟩ := W t k none l h (.inr (pre_at g e))
    obtain ⟨h2, e2, g2⟩ := lc_words t k al x0 x1 x2 x3 x4 x5 x6 x7 x8 x9 x10 m h1 (g.trans g1)
    exact ⟨h2, lcL_yes (rho1 := [x0, x1, x2, x3, x4, x5, x6, x7, x8, some (.ref l), x10]) (h1 := h) (h2 := h) (h3 := h1) (al h g) (by simp only [ev]) (by simp only [ev]) (by simp only [ev, e1]) e2, g1.trans g2⟩
theorem lc_tups {w : Wat} {f : Option Nat → Nat → List Val → List (Str × Val) → VH → Out Val} (x0 x1 x2 x3 x4 x5 x6 x7 x8 x9 x10 : Option Val) {h : VH} (al : alive w h = true) : ∀ its : List Val,
    lcL w (gName 10) tYes (eTup (aCons (eV 10) aNil)) ⟨f, none⟩ [x0, x1, x2, x3, x4, x5, x6, x7, x8, x9, x10] its h = .ok (its.map fun v => .tup [v]) h
  | [] => lcL_nil _ _ _ _ _ _ _ al
  | v :: its => lcL_yes (rho1 := [x0, x1, x2, x3, x4, x5, x6, x7, x8, x9, some v]) (h1 := h) (h2 := h) (h3 := h) al (by simp only [ev]) (by simp only [ev]) (by simp only [ev]) (lc_tups x0 x1 x2 x3 x4 x5 x6 x7 x8 x9 x10 al its)
theorem ne_same {a b : Nat} {ys : List Val} {h : VH} (e1 : h[a]? = some (.lst ys)) (e2 : h[b]? = some (.lst ys)) {ds : List PyData} (hd : ys.mapM (toD 39 h) = some ds) (hc : (PyData.list ds).canLay0 = true) : opNe (.ref a) (.ref b) h = .ok (.bl false) h := by
  have t : ∀ l, h[l]? = some (.lst ys) → toD DEEP h (.ref l) = some (.list ds) := fun l e => by
    show (match h[l]? with
      | some (.lst vs) => (vs.mapM (toD 39 h)).map PyData.list
      | some (.frz vs) => (vs.mapM (toD 39 h)).map PyData.list
      | _ => none) = _
    rw [e]
    show ((ys.mapM (toD 39 h)).map PyData.list) = _
    rw [hd]; rfl
  unfold opNe
  rw [t a e1, t b e2]
  show Out.ok (Val.bl (!PyData.eqv (.list ds) (.list ds))) h = _
  rw [SeqAt.eqv_refl _ hc]; rfl
theorem sp_plain_ones {T : Tab} (t : Ok_law_plain_ones T) (k : Nat) (h : VH) : ∃ m h' vs, callN T (k + 1) none 1010 [] [] h = .ok (.ref m) h' ∧ h <+: h' ∧ h'[m]? = some (.lst vs) ∧ vs.length ≤ LIM ∧
    MadeL h' vs [.tup [.str "signs"], .tup [.str "place"], .tup [.str "givens"], .tup [.str "unlikes"], .tup [.str "lines"], .tup [.str "model"], .tup [.str "pattern"], .tup [.str "rules"], .tup [.str "rounds"], .tup [.str "costs"], .tup [.str "line"]] := by
  rw [call_law_plain_ones t]
  have hl : ∀ n : Nat, n ≤ 17 → (n ≤ LIM) = True := fun n hn => by unfold LIM; simp; omega
  refine ⟨h.length + 13, h ++ [.xob "NoSigns" [], .xob "NoPlace" [], .xob "NoGivens" [], .xob "NoUnlikes" [], .xob "NoLines" [], .xob "NoModel" [], .xob "NoPattern" [], .xob "NoRules" [], .xob "NoRounds" [], .lst [.ref h.length, .ref (h.length + 1), .ref (h.length + 2), .ref (h.length + 3), .ref (h.length + 4), .ref (h.length + 5), .ref (h.length + 6), .ref (h.length + 7), .ref (h.length + 8)], .xob "NoCosts" [], .xob "NoLine" [], .lst [.ref (h.length + 10), .ref (h.length + 11)], .lst [.ref h.length, .ref (h.length + 1), .ref (h.length + 2), .ref (h.length + 3), .ref (h.length + 4), .ref (h.length + 5), .ref (h.length + 6), .ref (h.length + 7), .ref (h.length + 8), .ref (h.length + 10), .ref (h.length + 11)]], _, ?_, List.prefix_append _ _, getA _ _ _, ?_, ?_⟩
  · simp only [ev, D_law_plain_ones, List.append_assoc, List.cons_append, List.nil_append, List.length_append, List.length_cons, List.length_nil, Nat.reduceAdd, Nat.zero_add, getA0, getA, List.getElem?_cons_succ, List.getElem?_cons_zero, hl _ (show 11 ≤ 17 by decide)]
  · show 11 ≤ LIM
    unfold LIM; omega
  · exact .cons (getA0 _ _ _) w_NoSigns (.cons (getA _ _ 1) w_NoPlace (.cons (getA _ _ 2) w_NoGivens (.cons (getA _ _ 3) w_NoUnlikes (.cons (getA _ _ 4) w_NoLines (.cons (getA _ _ 5) w_NoModel (.cons (getA _ _ 6) w_NoPattern (.cons (getA _ _ 7) w_NoRules (.cons (getA _ _ 8) w_NoRounds (.cons (getA _ _ 10) w_NoCosts (.cons (getA _ _ 11) w_NoLine .nil))))))))))
end Pv
end
/-! PK05b -/
section
set_option Elab.async false
set_option linter.all false
set_option maxRecDepth 100000
set_option autoImplicit false
/-! the plain law of k05 -/
namespace Pv
open PySem PySem.Spec PyProof.Rows L2 TL
theorem log2_lt80 {f : Nat} (h : f < 2 ^ 80) : f.log2 < 9000 := by
  by_cases h0 : f = 0
  · subst h0; decide
  · have := (Nat.log2_lt h0).mpr h
    omega
theorem sp_takeB {T : Tab} (t : Ok_law_take T) (k : Nat) (hot : Option Nat) {p : Nat} {h : VH} (hp : Pot p h) {f : Nat} (h0 : 0 < f) (h1 : f < 2 ^ 80) :
    ∃ (n : Nat) (h' : VH), callN T (k + 1) hot 1002 [.ref p, .int (f : Nat)] [] h = .ok (.int (n : Nat)) h' ∧ n < f ∧ Pm p h h' := by
  obtain ⟨z, e⟩ := hp
  rw [call_law_take t]
  have i1 : opIdx (.ref p) (.int 0) h = .ok (.int z) h := ix_ref (n := 0) e rfl
  have i2 : ∀ v, opSet (.ref p) (.int 0) v h = .ok () (h.set p (.lst [v])) := fun v => set_ref (n := 0) v e (by simp)
  have f0 : (0 : Int) < (f : Nat) := by omega
  have d1 : opDiv (.int z) (.int (f : Nat)) h = .ok (.int (z / (f : Nat))) h := by
    show (if 0 < ((f : Nat) : Int) ∧ ((f : Nat) : Int).natAbs.log2 < 9000 then Out.ok (Val.int (z / (f : Nat))) h else .bad) = _
    rw [if_pos ⟨f0, by rw [Int.natAbs_natCast]; exact log2_lt80 h1⟩]
  have m0 := Int.emod_nonneg z (show ((f : Nat) : Int) ≠ 0 by omega)
  have m1 := Int.emod_lt_of_pos z f0
  refine ⟨(z % (f : Nat)).toNat, h.set p (.lst [.int (z / (f : Nat))]), ?_, by omega, .set _ fun _ => rfl, z / (f : Nat), ?_⟩
  · have : (((z % (f : Nat)).toNat : Nat) : Int) = z % (f : Nat) := by omega
    rw [this]
    simp only [ev, D_law_take, i1, f0, d1, i2]
  · rw [List.getElem?_set_self (lt_of_at e)]
theorem pow20 (h : VH) : opPow (.int 10) (.int 20) h = .ok (.int (((100000000000000000000 : Nat) : Nat) : Int)) h := by
  show (if (0 : Int) ≤ 20 ∧ (20 : Int) ≤ 1000000 ∧ (10 : Int).natAbs < 2 ^ 64 then Out.ok (Val.int (10 ^ (20 : Int).toNat)) h else .bad) = _
  rw [if_pos (by decide)]; rfl
def W05 : List Val := [.str "signs", .str "place", .str "givens", .str "unlikes", .str "lines", .str "model", .str "pattern", .str "rules", .str "rounds", .str "costs", .str "line"]
def ds11 : List PyData := [.tuple [.str "signs"], .tuple [.str "place"], .tuple [.str "givens"], .tuple [.str "unlikes"], .tuple [.str "lines"], .tuple [.str "model"], .tuple [.str "pattern"], .tuple [.str "rules"], .tuple [.str "rounds"], .tuple [.str "costs"], .tuple [.str "line"]]
theorem wipe9 (x0 x1 x2 x3 x4 x5 x6 x7 x8 x9 x10 : Option Val) : wipeE [x0, x1, x2, x3, x4, x5, x6, x7, x8, x9, x10] [9] = [x0, x1, x2, x3, x4, x5, x6, x7, x8, none, x10] := rfl
theorem wipe10 (x0 x1 x2 x3 x4 x5 x6 x7 x8 x9 x10 : Option Val) : wipeE [x0, x1, x2, x3, x4, x5, x6, x7, x8, x9, x10] [10] = [x0, x1, x2, x3, x4, x5, x6, x7, x8, x9, none] := rfl
/-- the first comparison -/
theorem cmp1 {T : Tab} (t : Ok_law_k05 T) (k : Nat) {h : VH} {m : Nat} (em : h[m]? = some (.lst W05)) (x0 x2 x3 x4 x5 x6 x7 x8 x9 x10 : Option Val) :
    ∃ h', eOp opNe (eLc (iVal (eCall 1010 (aNil) [] (aNil))) [9] (gName 9) (tYes) (eCall 1007 (aCons (eV 9) (aNil)) [] (aNil))) (eLc (iVal (eV 1)) [10] (gName 10) (tYes) (eTup (aCons (eV 10) (aNil)))) ⟨callN T (k + 1), none⟩ [x0, some (.ref m), x2, x3, x4, x5, x6, x7, x8, x9, x10] h = .ok (.bl false) h' ∧ h <+: h' := by
  obtain ⟨m1, h1, vs, e1, g1, a1, l1, M⟩ := sp_plain_ones t.law_plain_ones k h
  obtain ⟨h2, e2, g2⟩ := lc_words t.law_word k (w := [(m1, .lst vs)]) (h0 := h1) (fun h' g => alive_of (pre_at g a1)) x0 (some (.ref m)) x2 x3 x4 x5 x6 x7 x8 none x10 M h1 (List.prefix_refl _)
  have s1 := src_ref (l := m1) (h := h1) (vs := vs) a1
  have ll : (vs.length ≤ LIM) = True := by simp [l1]
  have lw : (W05.length ≤ LIM) = True := by show (11 ≤ LIM) = True; unfold LIM; simp
  have em2 : (h2 ++ [VObj.lst [.tup [.str "signs"], .tup [.str "place"], .tup [.str "givens"], .tup [.str "unlikes"], .tup [.str "lines"], .tup [.str "model"], .tup [.str "pattern"], .tup [.str "rules"], .tup [.str "rounds"], .tup [.str "costs"], .tup [.str "line"]]])[m]? = some (.lst W05) := pre_at ((g1.trans g2).trans (List.prefix_append _ _)) em
  have s2 := src_ref (l := m) (vs := W05) em2
  have e3 := lc_tups (w := [(m, .lst W05)]) (f := callN T (k + 1)) x0 (some (.ref m)) x2 x3 x4 x5 x6 x7 x8 x9 none (alive_of em2) W05
  refine ⟨(h2 ++ [VObj.lst [.tup [.str "signs"], .tup [.str "place"], .tup [.str "givens"], .tup [.str "unlikes"], .tup [.str "lines"], .tup [.str "model"], .tup [.str "pattern"], .tup [.str "rules"], .tup [.str "rounds"], .tup [.str "costs"], .tup [.str "line"]]]) ++ [.lst (W05.map fun v => .tup [v])], ?_, ((g1.trans g2).trans (List.prefix_append _ _)).trans (List.prefix_append _ _)⟩
  have key := ne_same (a := h2.length) (b := (h2 ++ [VObj.lst [.tup [.str "signs"], .tup [.str "place"], .tup [.str "givens"], .tup [.str "unlikes"], .tup [.str "lines"], .tup [.str "model"], .tup [.str "pattern"], .tup [.str "rules"], .tup [.str "rounds"], .tup [.str "costs"], .tup [.str "line"]]]).length) (h := (h2 ++ [VObj.lst [.tup [.str "signs"], .tup [.str "place"], .tup [.str "givens"], .tup [.str "unlikes"], .tup [.str "lines"], .tup [.str "model"], .tup [.str "pattern"], .tup [.str "rules"], .tup [.str "rounds"], .tup [.str "costs"], .tup [.str "line"]]]) ++ [.lst (W05.map fun v => .tup [v])])
    (pre_at (List.prefix_append _ _) (new_at _ _)) (new_at _ _) (ds := ds11) rfl (by decide +kernel)
  simp only [ev, e1, s1, ll, wipe9, e2, s2, lw, wipe10, e3, key]
end Pv
end
/-! PK05c -/
section
set_option Elab.async false
set_option linter.all false
set_option maxRecDepth 100000
set_option autoImplicit false
/-! the plain law of k05, its second half -/
namespace Pv
open PySem PySem.Spec PyProof.Rows L2 TL
def due05 (a b : Val) (s : Val) : List Val := [.tup [.str "term", .int 0], .tup [.str "term", a], .tup [.str "term", b], .tup [.str "many", a, b], .tup [.str "many", b, a], .tup [.str "text", .int 0], .tup [.str "text", a], .tup [.str "text", b], .tup [.str "level", .int 0], .tup [.str "level", a], .tup [.str "level", b], .tup [.str "known", s], .tup [.str "known", .tup [a]], .tup [.str "alike", s, .tup [b]], .tup [.str "alike", .tup [a], s]]
theorem eK : (∀ h, excK X_NoTerm [] [] [] h = .ok [("at", .int 0)] h) ∧ (∀ v h, excK X_NoTerm [] [v] [] h = .ok [("at", v)] h) ∧ (∀ v h, excK X_NoTerm ["at"] [] [v] h = .ok [("at", v)] h) ∧
    (∀ v w h, excK X_TooMany [] [v, w] [] h = .ok [("most", w), ("many", v)] h) ∧ (∀ v w h, excK X_TooMany ["most", "many"] [] [v, w] h = .ok [("most", v), ("many", w)] h) ∧
    (∀ h, excK X_NoText [] [] [] h = .ok [("row", .int 0)] h) ∧ (∀ v h, excK X_NoText [] [v] [] h = .ok [("row", v)] h) ∧ (∀ v h, excK X_NoText ["row"] [] [v] h = .ok [("row", v)] h) ∧
    (∀ h, excK X_NoLevel [] [] [] h = .ok [("left", .int 0)] h) ∧ (∀ v h, excK X_NoLevel [] [v] [] h = .ok [("left", v)] h) ∧ (∀ v h, excK X_NoLevel ["left"] [] [v] h = .ok [("left", v)] h) ∧
    (∀ v h, excK X_NotKnown [] [v] [] h = .ok [("term", v)] h) ∧ (∀ v h, excK X_NotKnown ["term"] [] [v] h = .ok [("term", v)] h) ∧
    (∀ v w h, excK X_NotAlike [] [v, w] [] h = .ok [("other", w), ("one", v)] h) ∧ (∀ v w h, excK X_NotAlike ["other", "one"] [] [v, w] h = .ok [("other", v), ("one", w)] h) := by
  refine ⟨?_, ?_, ?_, ?_, ?_, ?_, ?_, ?_, ?_, ?_, ?_, ?_, ?_, ?_, ?_⟩ <;> intros <;> rfl
theorem setA {α : Type} (h t : List α) (n : Nat) (o : α) : (h ++ t).set (h.length + n) o = h ++ t.set n o := by
  rw [List.set_append_right _ _ (by omega)]
  congr 2; omega
def C05 : Tm := eOp opNe (eLc (iVal (eCall 1010 (aNil) [] (aNil))) [9] (gName 9) (tYes) (eCall 1007 (aCons (eV 9) (aNil)) [] (aNil))) (eLc (iVal (eV 1)) [10] (gName 10) (tYes) (eTup (aCons (eV 10) (aNil))))
def C05b : Tm := eOp opNe (eLc (iVal (eV 7)) [9] (gName 9) (tYes) (eCall 1007 (aCons (eV 9) (aNil)) [] (aNil))) (eV 8)
def D05 : Ts := (sSeq (sIf (tVal (C05b)) (sSeq (sRet (eC (.bl false))) (sNx)) (sNx)) (sNx))
def R05 : Ts := (sSeq (sAsg (eLst (aCons (eExc "NoTerm" X_NoTerm (aNil) [] (aNil)) (aCons (eExc "NoTerm" X_NoTerm (aCons (eV 4) (aNil)) [] (aNil)) (aCons (eExc "NoTerm" X_NoTerm (aNil) ["at"] (aCons (eV 5) (aNil))) (aCons (eExc "TooMany" X_TooMany (aCons (eV 4) (aCons (eV 5) (aNil))) [] (aNil)) (aCons (eExc "TooMany" X_TooMany (aNil) ["most", "many"] (aCons (eV 4) (aCons (eV 5) (aNil)))) (aNil))))))) (gName 7)) (sSeq (sAsg (eOp opAdd (eV 7) (eLst (aCons (eExc "NoText" X_NoText (aNil) [] (aNil)) (aCons (eExc "NoText" X_NoText (aCons (eV 4) (aNil)) [] (aNil)) (aCons (eExc "NoText" X_NoText (aNil) ["row"] (aCons (eV 5) (aNil))) (aCons (eExc "NoLevel" X_NoLevel (aNil) [] (aNil)) (aCons (eExc "NoLevel" X_NoLevel (aCons (eV 4) (aNil)) [] (aNil)) (aCons (eExc "NoLevel" X_NoLevel (aNil) ["left"] (aCons (eV 5) (aNil))) (aNil))))))))) (gName 7)) (sSeq (sAsg (eOp opAdd (eV 7) (eLst (aCons (eExc "NotKnown" X_NotKnown (aCons (eV 6) (aNil)) [] (aNil)) (aCons (eExc "NotKnown" X_NotKnown (aNil) ["term"] (aCons (eTup (aCons (eV 4) (aNil))) (aNil))) (aCons (eExc "NotAlike" X_NotAlike (aCons (eV 6) (aCons (eTup (aCons (eV 5) (aNil))) (aNil))) [] (aNil)) (aNil)))))) (gName 7)) (sSeq (sExp (eMeth "list" mAppend (eV 7) (aCons (eExc "NotAlike" X_NotAlike (aNil) ["other", "one"] (aCons (eV 6) (aCons (eTup (aCons (eV 4) (aNil))) (aNil)))) (aNil)))) (sSeq (sAsg (eLst (aCons (eTup (aCons (eC (.str "term")) (aCons (eC (.int 0)) (aNil)))) (aCons (eTup (aCons (eC (.str "term")) (aCons (eV 4) (aNil)))) (aCons (eTup (aCons (eC (.str "term")) (aCons (eV 5) (aNil)))) (aCons (eTup (aCons (eC (.str "many")) (aCons (eV 4) (aCons (eV 5) (aNil))))) (aCons (eTup (aCons (eC (.str "many")) (aCons (eV 5) (aCons (eV 4) (aNil))))) (aNil))))))) (gName 8)) (sSeq (sAsg (eOp opAdd (eV 8) (eLst (aCons (eTup (aCons (eC (.str "text")) (aCons (eC (.int 0)) (aNil)))) (aCons (eTup (aCons (eC (.str "text")) (aCons (eV 4) (aNil)))) (aCons (eTup (aCons (eC (.str "text")) (aCons (eV 5) (aNil)))) (aCons (eTup (aCons (eC (.str "level")) (aCons (eC (.int 0)) (aNil)))) (aCons (eTup (aCons (eC (.str "level")) (aCons (eV 4) (aNil)))) (aCons (eTup (aCons (eC (.str "level")) (aCons (eV 5) (aNil)))) (aNil))))))))) (gName 8)) (sSeq (sAsg (eOp opAdd (eV 8) (eLst (aCons (eTup (aCons (eC (.str "known")) (aCons (eV 6) (aNil)))) (aCons (eTup (aCons (eC (.str "known")) (aCons (eTup (aCons (eV 4) (aNil))) (aNil)))) (aCons (eTup (aCons (eC (.str "alike")) (aCons (eV 6) (aCons (eTup (aCons (eV 5) (aNil))) (aNil))))) (aCons (eTup (aCons (eC (.str "alike")) (aCons (eTup (aCons (eV 4) (aNil))) (aCons (eV 6) (aNil))))) (aNil))))))) (gName 8)) D05)))))))
theorem L1_eq : L1_law_k05 = sSeq (sAsg (eCall 1001 (aCons (eCall 1000 (aCons (eV 0) (aCons (eV 2) (aNil))) [] (aNil)) (aNil)) [] (aNil)) (gName 3)) (sSeq (sPar3 4 5 6 (aCons (eCall 1002 (aCons (eV 3) (aCons (eC (.int 99)) (aNil))) [] (aNil)) (aCons (eCall 1002 (aCons (eV 3) (aCons (eOp opPow (eC (.int 10)) (eC (.int 20))) (aNil))) [] (aNil)) (aCons (eTup (aCons (eCall 1002 (aCons (eV 3) (aCons (eC (.int 8)) (aNil))) [] (aNil)) (aNil))) (aNil))))) (sSeq (sIf (tVal (C05)) (sSeq (sRet (eC (.bl false))) (sNx)) (sNx)) R05)) := rfl
def tail05 (L : Nat) (a b s : Val) : List VObj := [.xob "NoTerm" [("at", .int 0)], .xob "NoTerm" [("at", a)], .xob "NoTerm" [("at", b)], .xob "TooMany" [("most", b), ("many", a)], .xob "TooMany" [("most", a), ("many", b)], .lst [.ref L, .ref (L + 1), .ref (L + 2), .ref (L + 3), .ref (L + 4)],
  .xob "NoText" [("row", .int 0)], .xob "NoText" [("row", a)], .xob "NoText" [("row", b)], .xob "NoLevel" [("left", .int 0)], .xob "NoLevel" [("left", a)], .xob "NoLevel" [("left", b)], .lst [.ref (L + 6), .ref (L + 7), .ref (L + 8), .ref (L + 9), .ref (L + 10), .ref (L + 11)],
  .lst [.ref L, .ref (L + 1), .ref (L + 2), .ref (L + 3), .ref (L + 4), .ref (L + 6), .ref (L + 7), .ref (L + 8), .ref (L + 9), .ref (L + 10), .ref (L + 11)],
  .xob "NotKnown" [("term", s)], .xob "NotKnown" [("term", .tup [a])], .xob "NotAlike" [("other", .tup [b]), ("one", s)], .lst [.ref (L + 14), .ref (L + 15), .ref (L + 16)],
  .lst [.ref L, .ref (L + 1), .ref (L + 2), .ref (L + 3), .ref (L + 4), .ref (L + 6), .ref (L + 7), .ref (L + 8), .ref (L + 9), .ref (L + 10), .ref (L + 11), .ref (L + 14), .ref (L + 15), .ref (L + 16), .ref (L + 19)],
  .xob "NotAlike" [("other", s), ("one", .tup [a])],
  .lst [.tup [.str "term", .int 0], .tup [.str "term", a], .tup [.str "term", b], .tup [.str "many", a, b], .tup [.str "many", b, a]],
  .lst [.tup [.str "text", .int 0], .tup [.str "text", a], .tup [.str "text", b], .tup [.str "level", .int 0], .tup [.str "level", a], .tup [.str "level", b]],
  .lst [.tup [.str "term", .int 0], .tup [.str "term", a], .tup [.str "term", b], .tup [.str "many", a, b], .tup [.str "many", b, a], .tup [.str "text", .int 0], .tup [.str "text", a], .tup [.str "text", b], .tup [.str "level", .int 0], .tup [.str "level", a], .tup [.str "level", b]],
  .lst [.tup [.str "known", s], .tup [.str "known", .tup [a]], .tup [.str "alike", s, .tup [b]], .tup [.str "alike", .tup [a], s]],
  .lst (due05 a b s)]
theorem pre05 {f : Option Nat → Nat → List Val → List (Str × Val) → VH → Out Val} (x0 x1 x2 x3 x7 x8 x9 x10 : Option Val) (a b s : Val) (h : VH) :
    R05 ⟨f, none⟩ [x0, x1, x2, x3, some a, some b, some s, x7, x8, x9, x10] h = D05 ⟨f, none⟩ [x0, x1, x2, x3, some a, some b, some s, some (.ref (h.length + 18)), some (.ref (h.length + 24)), x9, x10] (h ++ tail05 h.length a b s) := by
  have hl : ∀ n : Nat, n ≤ 17 → (n ≤ LIM) = True := fun n hn => by unfold LIM; simp; omega
  have hl2 : ((14 : Nat) < LIM) = True := by unfold LIM; simp
  obtain ⟨k1, k2, k3, k4, k5, k6, k7, k8, k9, k10, k11, k12, k13, k14, k15⟩ := eK
  simp only [ev, R05, k1, k2, k3, k4, k5, k6, k7, k8, k9, k10, k11, k12, k13, k14, k15, List.append_assoc, List.cons_append, List.nil_append, List.length_append, List.length_cons, List.length_nil, Nat.reduceAdd, Nat.zero_add, getA0, getA, List.getElem?_cons_succ, List.getElem?_cons_zero, hl _ (show 11 ≤ 17 by decide), hl _ (show 14 ≤ 17 by decide), hl _ (show 15 ≤ 17 by decide), hl2, setA, List.set_cons_succ, List.set_cons_zero, tail05, due05]
end Pv
end
/-! PK05d -/
section
set_option Elab.async false
set_option linter.all false
set_option maxRecDepth 100000
set_option autoImplicit false
/-! the plain law of k05, joined -/
namespace Pv
open PySem PySem.Spec PyProof.Rows L2 TL
def dd05 (a b n : Int) : List PyData := [.tuple [.str "term", .int 0], .tuple [.str "term", .int a], .tuple [.str "term", .int b], .tuple [.str "many", .int a, .int b], .tuple [.str "many", .int b, .int a], .tuple [.str "text", .int 0], .tuple [.str "text", .int a], .tuple [.str "text", .int b], .tuple [.str "level", .int 0], .tuple [.str "level", .int a], .tuple [.str "level", .int b], .tuple [.str "known", .tuple [.int n]], .tuple [.str "known", .tuple [.int a]], .tuple [.str "alike", .tuple [.int n], .tuple [.int b]], .tuple [.str "alike", .tuple [.int a], .tuple [.int n]]]
theorem dd05_lay (a b n : Int) : (PyData.list (dd05 a b n)).canLay0 = true := by
  have s1 : PyData.strOk (Str.ofString "term") = true := by decide +kernel
  have s2 : PyData.strOk (Str.ofString "many") = true := by decide +kernel
  have s3 : PyData.strOk (Str.ofString "text") = true := by decide +kernel
  have s4 : PyData.strOk (Str.ofString "level") = true := by decide +kernel
  have s5 : PyData.strOk (Str.ofString "known") = true := by decide +kernel
  have s6 : PyData.strOk (Str.ofString "alike") = true := by decide +kernel
  simp [dd05, PyData.canLay0, PyData.canLayAll0, s1, s2, s3, s4, s5, s6]
theorem made05 (h : VH) (a b s : Val) : MadeL (h ++ tail05 h.length a b s) [.ref h.length, .ref (h.length + 1), .ref (h.length + 2), .ref (h.length + 3), .ref (h.length + 4), .ref (h.length + 6), .ref (h.length + 7), .ref (h.length + 8), .ref (h.length + 9), .ref (h.length + 10), .ref (h.length + 11), .ref (h.length + 14), .ref (h.length + 15), .ref (h.length + 16), .ref (h.length + 19)] (due05 a b s) :=
  .cons (getA0 _ _ _) (w_NoTerm _) (.cons (getA _ _ 1) (w_NoTerm _) (.cons (getA _ _ 2) (w_NoTerm _) (.cons (getA _ _ 3) (w_TooMany _ _) (.cons (getA _ _ 4) (w_TooMany _ _) (.cons (getA _ _ 6) (w_NoText _) (.cons (getA _ _ 7) (w_NoText _) (.cons (getA _ _ 8) (w_NoText _) (.cons (getA _ _ 9) (w_NoLevel _) (.cons (getA _ _ 10) (w_NoLevel _) (.cons (getA _ _ 11) (w_NoLevel _)
    (.cons (getA _ _ 14) (w_NotKnown _) (.cons (getA _ _ 15) (w_NotKnown _) (.cons (getA _ _ 16) (w_NotAlike _ _) (.cons (getA _ _ 19) (w_NotAlike _ _) .nil))))))))))))))
theorem cmp2 {T : Tab} (t : Ok_law_word T) (k : Nat) (x0 x1 x2 x3 x9 x10 : Option Val) (a b n : Int) (h : VH) :
    ∃ h', D05 ⟨callN T (k + 1), none⟩ [x0, x1, x2, x3, some (.int a), some (.int b), some (.tup [.int n]), some (.ref (h.length + 18)), some (.ref (h.length + 24)), x9, x10] (h ++ tail05 h.length (.int a) (.int b) (.tup [.int n])) = .nx [x0, x1, x2, x3, some (.int a), some (.int b), some (.tup [.int n]), some (.ref (h.length + 18)), some (.ref (h.length + 24)), x9, x10] h' ∧ h <+: h' := by
  have a1 : (h ++ tail05 h.length (.int a) (.int b) (.tup [.int n]))[h.length + 18]? = some (.lst [.ref h.length, .ref (h.length + 1), .ref (h.length + 2), .ref (h.length + 3), .ref (h.length + 4), .ref (h.length + 6), .ref (h.length + 7), .ref (h.length + 8), .ref (h.length + 9), .ref (h.length + 10), .ref (h.length + 11), .ref (h.length + 14), .ref (h.length + 15), .ref (h.length + 16), .ref (h.length + 19)]) := getA _ _ 18
  have a2 : (h ++ tail05 h.length (.int a) (.int b) (.tup [.int n]))[h.length + 24]? = some (.lst (due05 (.int a) (.int b) (.tup [.int n]))) := getA _ _ 24
  obtain ⟨h2, e2, g2⟩ := lc_words t k (w := [(h.length + 18, .lst [.ref h.length, .ref (h.length + 1), .ref (h.length + 2), .ref (h.length + 3), .ref (h.length + 4), .ref (h.length + 6), .ref (h.length + 7), .ref (h.length + 8), .ref (h.length + 9), .ref (h.length + 10), .ref (h.length + 11), .ref (h.length + 14), .ref (h.length + 15), .ref (h.length + 16), .ref (h.length + 19)])]) (fun h' g => alive_of (pre_at g a1)) x0 x1 x2 x3 (some (.int a)) (some (.int b)) (some (.tup [.int n])) (some (.ref (h.length + 18))) (some (.ref (h.length + 24))) none x10 (made05 h (.int a) (.int b) (.tup [.int n])) _ (List.prefix_refl _)
  have s1 := src_ref (l := h.length + 18) a1
  have ll : (List.length [Val.ref h.length, .ref (h.length + 1), .ref (h.length + 2), .ref (h.length + 3), .ref (h.length + 4), .ref (h.length + 6), .ref (h.length + 7), .ref (h.length + 8), .ref (h.length + 9), .ref (h.length + 10), .ref (h.length + 11), .ref (h.length + 14), .ref (h.length + 15), .ref (h.length + 16), .ref (h.length + 19)] ≤ LIM) = True := by show (15 ≤ LIM) = True; unfold LIM; simp
  have key := ne_same (a := h2.length) (b := h.length + 24) (h := h2 ++ [.lst (due05 (.int a) (.int b) (.tup [.int n]))]) (new_at _ _) (pre_at (g2.trans (List.prefix_append _ _)) a2) (ds := dd05 a b n) rfl (dd05_lay a b n)
  refine ⟨h2 ++ [.lst (due05 (.int a) (.int b) (.tup [.int n]))], ?_, ((List.prefix_append _ _).trans g2).trans (List.prefix_append _ _)⟩
  simp only [ev, D05, C05b, s1, ll, wipe9, e2, key]
theorem lap05 {T : Tab} (t : Ok_law_k05 T) (k : Nat) {ns : List Int} {m : Nat} {h : VH} (e : h[0]? = some (.frz (ns.map .int))) (em : h[m]? = some (.lst W05)) (i : Nat) (x3 x4 x5 x6 x7 x8 x9 x10 : Option Val) :
    ∃ y3 y4 y5 y6 y7 y8 y9 y10 h', L1_law_k05 ⟨callN T (k + 2), none⟩ [some (.ref 0), some (.ref m), some (.int (i : Nat)), x3, x4, x5, x6, x7, x8, x9, x10] h = .nx [some (.ref 0), some (.ref m), some (.int (i : Nat)), y3, y4, y5, y6, y7, y8, y9, y10] h' ∧ h'[0]? = some (.frz (ns.map .int)) ∧ h'[m]? = some (.lst W05) := by
  obtain ⟨z, e1⟩ := sp_cell t.law_cell_at (k + 1) none e i
  obtain ⟨n, e2⟩ := sp_pot t.law_pot (k + 1) z h
  have hp : Pot h.length (h ++ [.lst [.int n]]) := ⟨n, new_at _ _⟩
  obtain ⟨n3, h3, e3, l3, m3⟩ := sp_takeB t.law_take (k + 1) none hp (f := 99) (by decide) (by decide)
  obtain ⟨n4, h4, e4, l4, m4⟩ := sp_takeB t.law_take (k + 1) none m3.pot (f := 100000000000000000000) (by decide) (by decide)
  obtain ⟨n5, h5, e5, l5, m5⟩ := sp_takeB t.law_take (k + 1) none m4.pot (f := 8) (by decide) (by decide)
  have e3' : callN T (k + 2) none 1002 [.ref h.length, .int 99] [] (h ++ [.lst [.int n]]) = _ := e3
  have e5' : callN T (k + 2) none 1002 [.ref h.length, .int 8] [] h4 = _ := e5
  have mm := m3.trans (m4.trans m5)
  have l0 := lt_of_at e
  have lm := lt_of_at em
  have e5m : h5[m]? = some (.lst W05) := mm.kp.at (by rw [List.getElem?_append_left lm]; exact em) (by omega)
  have e50 : h5[0]? = some (.frz (ns.map .int)) := mm.kp.at (by rw [List.getElem?_append_left l0]; exact e) (by omega)
  obtain ⟨h6, e6, g6⟩ := cmp1 t (k + 1) e5m (some (.ref 0)) (some (.int (i : Nat))) (some (.ref h.length)) (some (.int (n3 : Nat))) (some (.int (n4 : Nat))) (some (.tup [.int (n5 : Nat)])) x7 x8 x9 x10
  have e6' : C05 ⟨callN T (k + 2), none⟩ [some (.ref 0), some (.ref m), some (.int (i : Nat)), some (.ref h.length), some (.int (n3 : Nat)), some (.int (n4 : Nat)), some (.tup [.int (n5 : Nat)]), x7, x8, x9, x10] h5 = .ok (.bl false) h6 := e6
  have e7 := pre05 (f := callN T (k + 2)) (some (.ref 0)) (some (.ref m)) (some (.int (i : Nat))) (some (.ref h.length)) x7 x8 x9 x10 (.int (n3 : Nat)) (.int (n4 : Nat)) (.tup [.int (n5 : Nat)]) h6
  obtain ⟨h8, e8, g8⟩ := cmp2 t.law_word (k + 1) (some (.ref 0)) (some (.ref m)) (some (.int (i : Nat))) (some (.ref h.length)) x9 x10 (n3 : Nat) (n4 : Nat) (n5 : Nat) h6
  refine ⟨some (.ref h.length), some (.int (n3 : Nat)), some (.int (n4 : Nat)), some (.tup [.int (n5 : Nat)]), some (.ref (h6.length + 18)), some (.ref (h6.length + 24)), x9, x10, h8, ?_, pre_at (g6.trans g8) e50, pre_at (g6.trans g8) e5m⟩
  rw [L1_eq]
  simp only [ev, e1, e2, e3', pow20, e4, e5', List.set_cons_succ, List.set_cons_zero, e6', e7, e8]
theorem split05 : Txt.split "signs place givens unlikes lines model pattern rules rounds costs line" " " = (["signs", "place", "givens", "unlikes", "lines", "model", "pattern", "rules", "rounds", "costs", "line"] : List Str) := by decide +kernel
theorem msplit05 (h : VH) : mSplit (.str "signs place givens unlikes lines model pattern rules rounds costs line") [.str " "] h = .ok (.ref h.length) (h ++ [.lst W05]) := by
  show (if _ ∧ _ ∧ (Txt.split "signs place givens unlikes lines model pattern rules rounds costs line" " ").all goodS = true then Out.ok (Val.ref h.length) (h ++ [.lst ((Txt.split "signs place givens unlikes lines model pattern rules rounds costs line" " ").map .str)]) else .bad) = _
  rw [split05, if_pos (by decide +kernel)]; rfl
end Pv
end
/-! PK05e -/
section
set_option Elab.async false
set_option linter.all false
set_option maxRecDepth 100000
set_option autoImplicit false
/-! the plain law of k05: the whole -/
theorem K05.plain (ns : List Int) (h1 : ns.length ≤ 63) (h2 : ∀ z ∈ ns, PySem.Builtin.Int.intBits z ≤ 1048576) : (Pv.runF Pv.F_law_k05 ⟨Pv.callN K05.T 10, none⟩ [.ref 0] [.frz (ns.map .int)]).W (fun v _ => v = .bl true) (fun _ _ _ => False) := by
  open Pv in
  have e0 := msplit05 [.frz (ns.map .int)]
  open Pv in
  obtain ⟨rho, h', e, x2, y3, y4, y5, y6, y7, y8, y9, y10, rfl, _⟩ := forL_inv (w := []) (g := gName 2) (b := L1_law_k05) (c := ⟨callN K05.T 10, none⟩) (fun _ rho h' => ∃ x2 y3 y4 y5 y6 y7 y8 y9 y10, rho = [some (.ref 0), some (.ref 1), x2, y3, y4, y5, y6, y7, y8, y9, y10] ∧ h'[0]? = some (.frz (ns.map .int)) ∧ h'[1]? = some (.lst W05))
    (rangeL 0 ((max 1 (min ns.length 3) : Nat) : Int)) [some (.ref 0), some (.ref 1), none, none, none, none, none, none, none, none, none] [.frz (ns.map .int), .lst W05] (fun _ _ _ _ => rfl) ⟨_, _, _, _, _, _, _, _, _, rfl, rfl, rfl⟩ (by
      rintro d v r' rho h' e ⟨x2, y3, y4, y5, y6, y7, y8, y9, y10, rfl, e0, em⟩
      obtain ⟨rfl, hd⟩ := range_item e
      obtain ⟨z3, z4, z5, z6, z7, z8, z9, z10, h2, e2, e3, e4⟩ := lap05 K05.ok_law_k05 8 e0 em d.length y3 y4 y5 y6 y7 y8 y9 y10
      exact ⟨_, _, _, _, (by simp only [ev]), .inl e2, _, _, _, _, _, _, _, _, _, rfl, e3, e4⟩)
  open Pv in
  have ln : (((ns.map Val.int).length : Nat) : Int) = (ns.length : Nat) := by rw [List.length_map]
  open Pv in
  have m1' : bMin [.int (ns.length : Nat), .int 3] [.frz (ns.map .int), .lst W05] = _ := (maxmin ns.length 3 [.frz (ns.map .int), .lst W05]).1
  open Pv in
  have m2' : bMax [.int 1, .int ((min ns.length 3 : Nat) : Int)] [.frz (ns.map .int), .lst W05] = _ := (maxmin 1 (min ns.length 3) [.frz (ns.map .int), .lst W05]).2
  have rr := Pv.range_ok (n := max 1 (min ns.length 3)) (by omega)
  open Pv in
  have st : startE 11 [Val.ref 0] = [some (.ref 0), none, none, none, none, none, none, none, none, none, none] := rfl
  open Pv in
  have fz : ([VObj.frz (ns.map .int), .lst W05] : VH)[0]? = some (.frz (ns.map .int)) := rfl
  simp only [Pv.ev, Pv.F_law_k05, st, Pv.D_law_k05, e0, List.length_cons, List.length_nil, Nat.zero_add, List.cons_append, List.nil_append, fz, ln, m1', m2', rr, e]
end
/-! EndK05 -/
section
set_option Elab.async false
set_option linter.all false
set_option maxRecDepth 1000000
set_option maxHeartbeats 0
set_option autoImplicit false
open PySem PySem.W PySem.Calls PyProof.Rows L2 Pv
theorem PySem.Challenge.cw_likenest_k05_errors_of_two_families_holds : PySem.Challenge.rw_likenest_k05_errors_of_two_families.Holds := by
  w_on; o_law
  refine HandSHeadRun.head_any (r := OpenLaw.row PySem.Challenge.rw_likenest_k05_errors_of_two_families) (q := view (OpenLaw.row PySem.Challenge.rw_likenest_k05_errors_of_two_families).prog [26]) (H := K05.hk) (ob := K05.ob) (M := 1000000) (loose := K05.loose) (d := HandSHeadRun.topDef (OpenLaw.row PySem.Challenge.rw_likenest_k05_errors_of_two_families).prog 26) (kwd := []) K05.ob_eq
    (by kernel_rfl) (fun s => by kernel_rfl) K05.run (by kernel_rfl) (by kernel_rfl) (by kernel_rfl) (by rfl) (by first | assumption | decide +kernel) (by decide +kernel) ⟨rfl, rfl, rfl, rfl, rfl, by decide +kernel⟩ ?hw ?hc
  case hw => w_witness2
  case hc =>
    refine walk_ofS (l := PySem.Challenge.rw_likenest_k05_errors_of_two_families) (n := 63) (j := 10) (i := 1011) (x := "_law_script") (T := K05.T) (D := F_law_k05) rfl (by decide) (by kernel_rfl) ⟨by decide, by decide⟩ rfl rfl rfl rfl ?F (fun ns h1 h2 => K05.plain ns h1 h2)
    intro w mg fa h Y G hmg0
    obtain ⟨K, KX, c⟩ := Y
    have f0 : Facts K05.LD ⟨PySem.Challenge.rw_likenest_k05_errors_of_two_families.prog, w, K, mg, h, K05.T, K05.LD.ad K⟩ := facts_of KX G c
    have hmg : mg ("law" : PySem.Str) = some (.ref fa) := by
      have e : (HandSHeadRun.topDef (OpenLaw.row PySem.Challenge.rw_likenest_k05_errors_of_two_families).prog 26).name = ("law" : PySem.Str) := by kernel_rfl
      rw [← e]
      exact hmg0
    have e := hmg.symm.trans (f0.kn.fn ("law", 1011) (by decide +kernel)).1
    cases e
    refine ⟨K, K05.LD.ad K, KX, rfl, fun base hb hm a D' hT => ?_⟩
    have f : Facts K05.LD ⟨PySem.Challenge.rw_likenest_k05_errors_of_two_families.prog, w, K, mg, base, K05.T, K05.LD.ad K⟩ := facts_of hb hm c
    have w' := Sys.wd ⟨PySem.Challenge.rw_likenest_k05_errors_of_two_families.prog, w, K, mg, base, K05.T, K05.LD.ad K⟩ f.kn.bl
    exact K05.ents w' c f a D' hT
end
