import PyProof.Rows.All
import Wide.All
import OpenK.AllK
import Wide.FinOn
import PyProof.EqAt
import HandS.Base
import HandS.Call
import HandS.List
import HandS.SortRule
import KE.KSortTupAny
import HandS.Iter
import HandS.Wide
import HandS.WideBits
import HandS.TupAny
import HandS.Comp
import HandS.Dict
import HandS.WordsDict
import HandS.Lambda
import PyProof.StrOps2
import HandS.Text
import HandS.Deep
import HandS.Conv
import HandS.IsInst
import HandS.Codes
import HandS.RaiseMore
import HandS.TupLen
import HandS.ExcOwn
import HandS.Flow
import HandS.RevRange
import HandS.Zip
import PyProof.EnumMake
import HandS.Words
import KE.KDictLaws
import HandS.StrMore
import HandS.Exc
import HandS.ExcInit
import HandS.ExcIs
import HandS.ExcField
import HandS.TryOnly
import HandS.HeadHook1
import HandS.DictTup
import KE.KDictSum
import KE.KSortKey
import HandS.SortKw
import HandS.SortInts
import HandS.Keys
import KE.KLam
import HandS.Nested
import KE.KDictCopyH
import HandS.Style
import HandS.WordsExc
import HandS.Defaults
import HandS.ExcInitHot
import HandS.ExcCtx
import HandS.SuiteRaise
import HandS.CallSlots
import HandS.Ends
import HandS.EndBits
import HandS.HeadHook2
import HandS.HeadHook4
import HandS.EndTab
import HandS.Head0
import HandS.Head1
import HandS.Head2
import HandS.HeadEnd
import PySem.Challenge.RW_manymakes_k41_kinds_of_operators
set_option Elab.async false
set_option linter.all false
set_option maxRecDepth 100000
section
/-! MpA: a small Python over values and an own heap: its syntax, and what must hold that a piece of it comes through. -/
namespace MP

/-! ### values, objects -/
inductive Val where
  | non | bl (b : Bool) | int (i : Int) | str (x : List Nat) | tup (xs : List Val) | rls (xs : List Val) | ref (a : Nat) | fn (l : String) | ktp (xs : List Val)
  deriving Inhabited
inductive Obj where
  | lst (xs : List Val) | ins (c : String) (fs : List (String × Val)) | dic (t : Bool) (kvs : List (Val × Val)) | xd (fs : List (String × Val)) | lck (t : Bool) (kvs : List (Val × Val))
abbrev VH := Nat → Option Obj
def up (h : VH) (a : Nat) (o : Obj) : VH := fun b => if b = a then some o else h b
/-- an object is known as a value from now on -/
def del (h : VH) (a : Nat) : VH := fun b => if b = a then none else h b
structure Exc where
  cls : String
  d : Option Nat
abbrev VS := List (Option Val)
def sget : VS → Nat → Option Val
  | [], _ => none
  | x :: _, 0 => x
  | _ :: r, i + 1 => sget r i
def sset : VS → Nat → Option Val → VS
  | [], _, _ => []
  | _ :: r, 0, v => v :: r
  | x :: r, i + 1, v => x :: sset r i v
def swipe (σ : VS) : List Nat → VS
  | [] => σ
  | i :: r => sset (swipe σ r) i none
def flook (f : String) : List (String × Val) → Option Val
  | [] => none
  | (g, v) :: r => if f = g then some v else flook f r
def fput (f : String) (v : Val) : List (String × Val) → List (String × Val)
  | [] => [(f, v)]
  | (g, w) :: r => if f = g then (g, v) :: r else (g, w) :: fput f v r
abbrev SZ : Nat := 16777216

mutual
def Val.eqb : Val → Val → Bool
  | .non, .non => true
  | .bl a, .bl b => a == b
  | .int a, .int b => decide (a = b)
  | .str a, .str b => decide (a = b)
  | .tup a, .tup b => Val.eqbs a b
  | .rls a, .rls b => Val.eqbs a b
  | .ref a, .ref b => decide (a = b)
  | .fn a, .fn b => decide (a = b)
  | .ktp a, .ktp b => Val.eqbs a b
  | _, _ => false
def Val.eqbs : List Val → List Val → Bool
  | [], [] => true
  | a :: r, b :: s => Val.eqb a b && Val.eqbs r s
  | _, _ => false
end
mutual
theorem Val.eqb_refl : ∀ a : Val, Val.eqb a a = true
  | .non => rfl
  | .bl a => by simp [Val.eqb]
  | .int a => by simp [Val.eqb]
  | .str a => by simp [Val.eqb]
  | .tup a => by rw [Val.eqb]; exact Val.eqbs_refl a
  | .rls a => by rw [Val.eqb]; exact Val.eqbs_refl a
  | .ref a => by simp [Val.eqb]
  | .fn a => by simp [Val.eqb]
  | .ktp a => by rw [Val.eqb]; exact Val.eqbs_refl a
theorem Val.eqbs_refl : ∀ a : List Val, Val.eqbs a a = true
  | [] => rfl
  | a :: r => by rw [Val.eqbs, Val.eqb_refl a, Val.eqbs_refl r]; rfl
end
mutual
theorem Val.eqb_eq : ∀ a b : Val, Val.eqb a b = true → a = b
  | .non, b, h => by cases b <;> first | rfl | (simp [Val.eqb] at h)
  | .bl a, b, h => by cases b <;> simp [Val.eqb] at h; rw [h]
  | .int a, b, h => by cases b <;> simp [Val.eqb] at h; rw [h]
  | .str a, b, h => by cases b <;> simp [Val.eqb] at h; rw [h]
  | .tup a, b, h => by
    cases b with
    | tup b => rw [Val.eqb] at h; rw [Val.eqbs_eq a b h]
    | _ => simp [Val.eqb] at h
  | .rls a, b, h => by
    cases b with
    | rls b => rw [Val.eqb] at h; rw [Val.eqbs_eq a b h]
    | _ => simp [Val.eqb] at h
  | .ref a, b, h => by cases b <;> simp [Val.eqb] at h; rw [h]
  | .fn a, b, h => by cases b <;> simp [Val.eqb] at h; rw [h]
  | .ktp a, b, h => by
    cases b with
    | ktp b => rw [Val.eqb] at h; rw [Val.eqbs_eq a b h]
    | _ => simp [Val.eqb] at h
theorem Val.eqbs_eq : ∀ a b : List Val, Val.eqbs a b = true → a = b
  | [], b, h => by cases b <;> first | rfl | (simp [Val.eqbs] at h)
  | a :: r, b, h => by
    cases b with
    | nil => simp [Val.eqbs] at h
    | cons b s =>
      rw [Val.eqbs, Bool.and_eq_true] at h
      rw [Val.eqb_eq a b h.1, Val.eqbs_eq r s h.2]
end
instance : DecidableEq Val := fun a b => if h : Val.eqb a b = true then isTrue (Val.eqb_eq a b h) else isFalse fun e => h (by rw [e]; exact Val.eqb_refl b)

/-! ### dicts -/
def leafK : Val → Bool
  | .int _ => true
  | .str _ => true
  | _ => false
/-- a key of a dict: a whole number or a text; or a tuple of such -/
def keyB (t : Bool) (k : Val) : Bool := match t with
  | false => leafK k
  | true => (match k with
    | .tup xs => xs.all leafK
    | _ => false)
def dlook (k : Val) : List (Val × Val) → Option Val
  | [] => none
  | (j, v) :: r => if k = j then some v else dlook k r
def dput (k v : Val) (kvs : List (Val × Val)) : List (Val × Val) := if (kvs.any fun p => decide (p.1 = k)) = true then kvs.map (fun p => if p.1 = k then (p.1, v) else p) else kvs ++ [(k, v)]
/-- pairs of a display -/
def pairsOf : List Val → Option (List (Val × Val))
  | [] => some []
  | k :: v :: r => (pairsOf r).map ((k, v) :: ·)
  | [_] => none
def dputs (kvs more : List (Val × Val)) : List (Val × Val) := more.foldl (fun acc p => dput p.1 p.2 acc) kvs

/-! ### sorting -/
/-- into its place, ahead of those that are not less -/
def insL {α : Type} (lt : α → α → Bool) (x : α) : List α → List α
  | [] => [x]
  | y :: r => if lt y x = true then y :: insL lt x r else x :: y :: r
def isort {α : Type} (lt : α → α → Bool) : List α → List α
  | [] => []
  | x :: r => insL lt x (isort lt r)
abbrev Lf := Int ⊕ List Nat
def lfOf : Val → Option Lf
  | .int i => some (.inl i)
  | .str a => some (.inr a)
  | _ => none
def lfsOf : List Val → Option (List Lf)
  | [] => some []
  | v :: r => (match lfOf v with
    | some x => (lfsOf r).map (x :: ·)
    | none => none)
/-- what a value is sorted by -/
def keyL : Val → List Lf
  | .tup xs => (lfsOf xs).getD []
  | .int i => [.inl i]
  | _ => []
def ltV (x y : Val) : Bool := PyProof.Rows.lexLt PyProof.Rows.itemOrd (keyL x) (keyL y)
def isR : Lf → Bool
  | .inl _ => false
  | .inr _ => true
/-- a tuple of whole numbers and texts, texts where the shape says -/
def FlatS (shape : Nat → Bool) (x : Val) : Prop := ∃ vs ks, x = .tup vs ∧ lfsOf vs = some ks ∧ ks ≠ [] ∧ ∀ j y, ks[j]? = some y → shape j = isR y
def SrtOk (xs : List Val) : Prop := ∃ shape, ∀ x ∈ xs, FlatS shape x
def IntK (x : Val) : Prop := ∃ i, x = .int i
def KeyOk (ks : List Val) : Prop := (∀ k ∈ ks, IntK k) ∨ SrtOk ks
def ksort (ks xs : List Val) : List Val := (isort (fun p q : Val × Val => ltV p.1 q.1) (ks.zip xs)).map (·.2)
/-! ### data, for == -/
mutual
inductive DV (h : VH) : Val → PySem.PyData → Prop
  | non : DV h .non .none
  | bl (b : Bool) : DV h (.bl b) (.bool b)
  | int (i : Int) : DV h (.int i) (.int i)
  | str (x : List Nat) : DV h (.str x) (.str ⟨x.toArray⟩)
  | tup {xs : List Val} {ds : List PySem.PyData} : DVs h xs ds → DV h (.tup xs) (.tuple ds)
  | rls {xs : List Val} {ds : List PySem.PyData} : DVs h xs ds → DV h (.rls xs) (.list ds)
  | lst {a : Nat} {xs : List Val} {ds : List PySem.PyData} : h a = some (.lst xs) → DVs h xs ds → DV h (.ref a) (.list ds)
inductive DVs (h : VH) : List Val → List PySem.PyData → Prop
  | nil : DVs h [] []
  | cons {v : Val} {vs : List Val} {d : PySem.PyData} {ds : List PySem.PyData} : DV h v d → DVs h vs ds → DVs h (v :: vs) (d :: ds)
end

/-! ### syntax -/
inductive Bop where
  | add | sub | mul | fdiv | mod | shl | shr | band | bor | bxor | pow
inductive Cop where
  | eq | ne | lt | le | gt | ge | mem | nmem
/-- built-in functions -/
inductive Bif where
  | len | min | max | abs | all | any | sum | str | int | list | tuple | dict | sorted
/-- built-in types' methods -/
inductive Bmt where
  | append | pop | extend | get | setdefault | keys | split | join | find | index | startswith | bitlen | count | clear | replace
/-- targets -/
inductive G where
  | nm (i : Nat)
  | tp (is : List Nat)
mutual
inductive E where
  | non | bl (b : Bool) | int (i : Int) | str (x : List Nat)
  | var (i : Nat)
  | glb (x : String)
  | bop (o : Bop) (a b : E) | neg (a : E) | inv (a : E)
  | not (a : E) | lg (o : Bool) (es : Es)
  | cmp (o : Cop) (a b : E) | chn (o p : Cop) (a b c : E) | isn (a : E) | ntn (a : E)
  | ife (c a b : E)
  | call (f : String) (es : Es)
  | bif (f : Bif) (es : Es)
  | mth (o : E) (m : String) (es : Es)
  | bmt (m : Bmt) (ty : String) (o : E) (es : Es)
  | fld (o : E) (f : String)
  | idx (a i : E)
  | slc (a : E) (lo hi : O)
  | lst (es : Es) | tup (es : Es) | dct (es : Es) | dctT
  | cmpr (el : E) (t : G) (it : It) (c : O) (vs : List Nat)
  | lrng (a : E) | revl (a : E) | srtd (a : E)
  | isi (a : E) (cs : List String)
  | xfld (f : String) | xisi (cs : List String)
  | srtk (a : E) (n : Nat) (body : E) | srtf (a : E) (f : String)
  | cmprD (el : E) (t : G) (e : E) (c : O) (vs : List Nat)
  | calld (f : String) (es : Es) (ds : List Val)
  | frz (e : E)
inductive Es where
  | nil | cons (e : E) (es : Es)
inductive O where
  | no | some (e : E)
inductive It where
  | pl (e : E) | r1 (a : E) | r2 (a b : E) | r3 (a b c : E) | en (e : E) | zp (a b : E) | items (e : E) | rv (a : E)
end
mutual
inductive S where
  | exp (e : E)
  | asg (g : G) (e : E)
  | sfl (o : E) (f : String) (e : E)
  | ssb (o i e : E)
  | aug (i : Nat) (op : Bop) (e : E)
  | ret (e : E)
  | ife (c : E) (a b : Ss)
  | loop (g : G) (it : It) (body : Ss)
  | loopD (g : G) (e : E) (body : Ss)
  | whl (c : E) (body : Ss)
  | rai (c : String) (es : Es)
  | try_ (body : Ss) (hs : Hs) (els : Ss)
  | pas
  | frz (i : Nat)
  | nev
  | thru (body els : Ss)
  | tryR (body : Ss) (c c2 : String) (j : Nat) (els : Ss)
inductive Ss where
  | nil | cons (s : S) (ss : Ss)
inductive Hs where
  | nil | cons (c : String) (i : Nat) (body : Ss) (hs : Hs)
end

/-! ### operations on values: what comes of them -/
abbrev KV := Val → VH → Prop
abbrev KX := Exc → VH → Prop
/-- ok: a value; if_: under a condition; new: a new object; put: an object changed; any: some value with a property; ex: the value with a property -/
inductive Res where
  | ok (v : Val) | if_ (c : Prop) (v : Val) | new (c : Prop) (o : Obj) | put (c : Prop) (a : Nat) (o : Obj) (v : Val) | any (p : Val → Prop) | ex (p : Val → Prop) | bad
def Res.wp : Res → VH → KV → Prop
  | .ok v, h, Q => Q v h
  | .if_ c v, h, Q => c ∧ Q v h
  | .new c o, h, Q => c ∧ ∀ p, h p = none → Q (.ref p) (up h p o)
  | .put c a o v, h, Q => c ∧ Q v (up h a o)
  | .any p, h, Q => (∃ v, p v) ∧ ∀ v, p v → Q v h
  | .ex p, h, Q => ∃ v, p v ∧ Q v h
  | .bad, _, _ => False
theorem Res.mono {r : Res} {h : VH} {Q Q' : KV} (H : ∀ v h, Q v h → Q' v h) (a : r.wp h Q) : r.wp h Q' := by
  cases r with
  | ok v => exact H _ _ a
  | if_ c v => exact ⟨a.1, H _ _ a.2⟩
  | new c o => exact ⟨a.1, fun p hp => H _ _ (a.2 p hp)⟩
  | put c b o v => exact ⟨a.1, H _ _ a.2⟩
  | any p => exact ⟨a.1, fun v hv => H _ _ (a.2 v hv)⟩
  | ex p => exact let ⟨v, h1, h2⟩ := a; ⟨v, h1, H _ _ h2⟩
  | bad => exact a
/-- a truth that comes of an operation -/
inductive Bes where
  | ok (t : Bool) | ex (p : Bool → Prop) | bad
def Bes.wp : Bes → (Bool → Prop) → Prop
  | .ok t, k => k t
  | .ex p, k => ∃ t, p t ∧ k t
  | .bad, _ => False
def Bes.not : Bes → Bes
  | .ok t => .ok (!t)
  | .ex p => .ex fun t => p (!t)
  | .bad => .bad
theorem Bes.mono {r : Bes} {k k' : Bool → Prop} (H : ∀ t, k t → k' t) (a : r.wp k) : r.wp k' := by
  cases r with
  | ok t => exact H _ a
  | ex p => exact let ⟨v, h1, h2⟩ := a; ⟨v, h1, H _ h2⟩
  | bad => exact a
def CMul (i j : Int) : Prop := (PySem.Builtin.Int.intBits i : Int) + (PySem.Builtin.Int.intBits j : Int) ≤ 134217728
def CDiv (j : Int) : Prop := 0 < j ∧ j.natAbs.log2 < 9000
def CShl (i j : Int) : Prop := 0 ≤ j ∧ (PySem.Builtin.Int.intBits i : Int) + j ≤ 134217728
def CPow (i j : Int) : Prop := 0 ≤ j ∧ j ≤ 1000000 ∧ i.natAbs < 2 ^ 64
def lstV (x : Val) (h : VH) : Option (List Val) := match x with
  | .rls xs => some xs
  | .ref a => (match h a with
    | some (.lst xs) => some xs
    | _ => none)
  | _ => none
def addR (x y : Val) (h : VH) : Res := match x, y with
  | .int i, .int j => .ok (.int (i + j))
  | .str a, .str b => .if_ (a.length + b.length ≤ SZ) (.str (a ++ b))
  | .tup a, .tup b => .if_ (a.length + b.length ≤ SZ) (.tup (a ++ b))
  | x, y => (match lstV x h, lstV y h with
    | some xs, some ys => .new (xs.length + ys.length ≤ SZ) (.lst (xs ++ ys))
    | _, _ => .bad)
def mulR (x y : Val) (h : VH) : Res := match x, y with
  | .int i, .int j => .if_ (CMul i j) (.int (i * j))
  | .ref a, .int k => (match h a with
    | some (.lst xs) => .new (0 ≤ k ∧ k < 16777217 ∧ xs.length * k.toNat ≤ SZ) (.lst (List.replicate k.toNat xs).flatten)
    | _ => .bad)
  | .str [c], .int k => .if_ (2 ≤ k ∧ k < 16777217) (.str (List.replicate k.toNat c))
  | _, _ => .bad
def intR (f : Int → Int → Res) (x y : Val) : Res := match x, y with
  | .int i, .int j => f i j
  | _, _ => .bad
def bopR : Bop → Val → Val → VH → Res
  | .add, x, y, h => addR x y h
  | .mul, x, y, h => mulR x y h
  | .sub, x, y, _ => intR (fun i j => .ok (.int (i - j))) x y
  | .fdiv, x, y, _ => intR (fun i j => .if_ (CDiv j) (.int (i / j))) x y
  | .mod, x, y, _ => intR (fun i j => .if_ (0 < j) (.int (i % j))) x y
  | .shl, x, y, _ => intR (fun i j => .if_ (CShl i j) (.int (i * 2 ^ j.toNat))) x y
  | .shr, x, y, _ => intR (fun i j => .if_ (0 ≤ j) (.int (i / 2 ^ j.toNat))) x y
  | .band, x, y, _ => intR (fun i j => .ok (.int (PySem.Builtin.bitAnd i j))) x y
  | .bor, x, y, _ => intR (fun i j => .ok (.int (PySem.Builtin.bitOr i j))) x y
  | .bxor, x, y, _ => intR (fun i j => .ok (.int (PySem.Builtin.bitXor i j))) x y
  | .pow, x, y, _ => intR (fun i j => .if_ (CPow i j) (.int (i ^ j.toNat))) x y
def eqData (x y : Val) (h : VH) (t : Bool) : Prop := ∃ d e, DV h x d ∧ DV h y e ∧ PySem.SeqAt.shaped d = true ∧ PySem.SeqAt.shaped e = true ∧ t = PySem.PyData.eqv d e
def eqR (x y : Val) (h : VH) : Bes := match x, y with
  | .int i, .int j => .ok (decide (i = j))
  | .str a, .str b => .ok (decide (a = b))
  | .bl a, .bl b => .ok (decide (a = b))
  | x, y => .ex (eqData x y h)
def memData (x : Val) (ys : List Val) (h : VH) (t : Bool) : Prop := ∃ d es, DV h x d ∧ DVs h ys es ∧ PySem.SeqAt.shaped d = true ∧ PySem.PyData.canLayAll0 es = true ∧ t = es.any fun e => PySem.PyData.eqv e d
def inR (x y : Val) (h : VH) : Bes := match y with
  | .str b => (match x with
    | .str [c] => .ok (decide (c ∈ b))
    | _ => .bad)
  | .tup ys => .ex (memData x ys h)
  | .rls ys => .ex (memData x ys h)
  | .ktp ys => .ex (memData x ys h)
  | .ref a => (match h a with
    | some (.lst ys) => .ex (memData x ys h)
    | some (.dic kt kvs) => .ex fun t => keyB kt x = true ∧ t = (dlook x kvs).isSome
    | _ => .bad)
  | _ => .bad
def intB (f : Int → Int → Bool) (x y : Val) : Bes := match x, y with
  | .int i, .int j => .ok (f i j)
  | _, _ => .bad
def cmpR : Cop → Val → Val → VH → Bes
  | .eq, x, y, h => eqR x y h
  | .ne, x, y, h => (eqR x y h).not
  | .lt, x, y, _ => intB (fun i j => decide (i < j)) x y
  | .le, x, y, _ => intB (fun i j => decide (i ≤ j)) x y
  | .gt, x, y, _ => intB (fun i j => decide (j < i)) x y
  | .ge, x, y, _ => intB (fun i j => decide (j ≤ i)) x y
  | .mem, x, y, h => inR x y h
  | .nmem, x, y, h => (inR x y h).not
def truB (x : Val) (h : VH) : Bes := match x with
  | .non => .ok false
  | .bl b => .ok b
  | .int i => .ok (i != 0)
  | .str a => .ok (!a.isEmpty)
  | .tup xs => .ok (!xs.isEmpty)
  | .rls xs => .ok (!xs.isEmpty)
  | .ref a => (match h a with
    | some (.lst xs) => .ok (!xs.isEmpty)
    | some (.dic false kvs) => .ok (!kvs.isEmpty)
    | _ => .bad)
  | _ => .bad
/-- the item at i, of any sign -/
def at_ {α : Type} (xs : List α) (i : Int) : Option α := if 0 ≤ i then xs[i.toNat]? else if -(xs.length : Int) ≤ i then xs[(i + xs.length).toNat]? else none
def idxS (a : List Nat) (y : Val) : Res := match y with
  | .int i => .ex fun v => ∃ c, at_ a i = some c ∧ v = .str [c]
  | _ => .bad
def idxL (xs : List Val) (y : Val) : Res := match y with
  | .int i => .ex fun v => at_ xs i = some v
  | _ => .bad
def idxR (x y : Val) (h : VH) : Res := match x with
  | .str a => idxS a y
  | .tup xs => idxL xs y
  | .rls xs => idxL xs y
  | .ref a => (match h a with
    | some (.lst xs) => idxL xs y
    | some (.dic kt kvs) => .ex fun v => keyB kt y = true ∧ dlook y kvs = some v
    | _ => .bad)
  | _ => .bad
/-- where a bound of a slice stands -/
def clip (n d : Nat) : Option Int → Nat
  | none => d
  | some i => if i < 0 then (i + (n : Int)).toNat else min i.toNat n
def cut {α : Type} (xs : List α) (lo hi : Option Int) : List α := (xs.drop (clip xs.length 0 lo)).take (clip xs.length xs.length hi - clip xs.length 0 lo)
def slcR (x : Val) (lo hi : Option Int) (h : VH) : Res := match x with
  | .str a => .ok (.str (cut a lo hi))
  | .tup xs => .ok (.tup (cut xs lo hi))
  | .rls xs => .new True (.lst (cut xs lo hi))
  | .ref a => (match h a with
    | some (.lst xs) => .new True (.lst (cut xs lo hi))
    | _ => .bad)
  | _ => .bad
/-- the items of a list-like value -/
def itemsOf (x : Val) (h : VH) : Option (List Val) := match x with
  | .tup xs => some xs
  | .rls xs => some xs
  | .ref a => (match h a with
    | some (.lst xs) => some xs
    | _ => none)
  | _ => none
def boolsOf : List Val → Option (List Bool)
  | [] => some []
  | .bl b :: r => (boolsOf r).map (b :: ·)
  | _ :: _ => none
def intsOf : List Val → Option (List Int)
  | [] => some []
  | .int i :: r => (intsOf r).map (i :: ·)
  | _ :: _ => none
def strsOf : List Val → Option (List (List Nat))
  | [] => some []
  | .str i :: r => (strsOf r).map (i :: ·)
  | _ :: _ => none
/-! ### built-in functions and methods -/
def splitC (c : Nat) : List Nat → List (List Nat)
  | [] => [[]]
  | x :: r => if x = c then [] :: splitC c r else (match splitC c r with
    | [] => [[x]]
    | w :: ws => (x :: w) :: ws)
def joinC (sep : List Nat) : List (List Nat) → List Nat
  | [] => []
  | [x] => x
  | x :: y :: r => x ++ sep ++ joinC sep (y :: r)
def findC (c : Nat) : List Nat → Nat → Option Nat
  | [], _ => none
  | x :: r, i => if x = c then some i else findC c r (i + 1)
def isLeast (m : Int) (ns : List Int) : Prop := m ∈ ns ∧ ∀ y ∈ ns, m ≤ y
def isMost (m : Int) (ns : List Int) : Prop := m ∈ ns ∧ ∀ y ∈ ns, y ≤ m
def digits (i : Int) : List Nat := (Nat.toDigits 10 i.toNat).map Char.toNat
def lenV (x : Val) (h : VH) : Option Nat := match x with
  | .str a => some a.length
  | .tup xs => some xs.length
  | .rls xs => some xs.length
  | .ref a => (match h a with
    | some (.lst xs) => some xs.length
    | some (.dic _ kvs) => some kvs.length
    | _ => none)
  | _ => none
def bifR (f : Bif) (vs : List Val) (h : VH) : Res := match f with
  | .len => (match vs with
    | [x] => (match lenV x h with
      | some n => .ok (.int n)
      | none => .bad)
    | _ => .bad)
  | .min => (match vs with
    | [.int i, .int j] => .ok (.int (if j < i then j else i))
    | [x] => (match lstV x h with
      | some xs => (match intsOf xs with
        | some (n :: ns) => .any fun v => ∃ m, v = .int m ∧ isLeast m (n :: ns)
        | _ => .bad)
      | none => .bad)
    | _ => .bad)
  | .max => (match vs with
    | [.int i, .int j] => .ok (.int (if j > i then j else i))
    | [x] => (match lstV x h with
      | some xs => (match intsOf xs with
        | some (n :: ns) => .any fun v => ∃ m, v = .int m ∧ isMost m (n :: ns)
        | _ => .bad)
      | none => .bad)
    | _ => .bad)
  | .abs => (match vs with
    | [.int i] => .ok (.int (if i < 0 then -i else i))
    | _ => .bad)
  | .all => (match vs with
    | [x] => (match lstV x h with
      | some xs => (match boolsOf xs with
        | some bs => .ok (.bl (bs.all id))
        | none => .bad)
      | none => .bad)
    | _ => .bad)
  | .any => (match vs with
    | [x] => (match lstV x h with
      | some xs => (match boolsOf xs with
        | some bs => .ok (.bl (bs.any id))
        | none => .bad)
      | none => .bad)
    | _ => .bad)
  | .sum => (match vs with
    | [x] => (match lstV x h with
      | some xs => (match intsOf xs with
        | some ns => .ok (.int ns.sum)
        | none => .bad)
      | none => .bad)
    | _ => .bad)
  | .str => (match vs with
    | [.int i] => .if_ (0 ≤ i ∧ i < 1000000000000000000000000000000) (.str (digits i))
    | [.str a] => .ok (.str a)
    | _ => .bad)
  | .int => (match vs with
    | [.int i] => .ok (.int i)
    | [.bl b] => .ok (.int (if b then 1 else 0))
    | [.str a] => .ex fun v => ∃ n, PySem.intText? ⟨a.toArray⟩ = some n ∧ a.length ≤ 640 ∧ v = .int n
    | _ => .bad)
  | .list => (match vs with
    | [x] => (match itemsOf x h with
      | some xs => .new True (.lst xs)
      | none => .bad)
    | _ => .bad)
  | .tuple => (match vs with
    | [x] => (match itemsOf x h with
      | some xs => .ok (.tup xs)
      | none => .bad)
    | _ => .bad)
  | .dict => .bad
  | .sorted => (match vs with
    | [.rls xs] => .new (SrtOk xs) (.lst (isort ltV xs))
    | [.ref a] => (match h a with
      | some (.lst xs) => .new (SrtOk xs) (.lst (isort ltV xs))
      | some (.dic true kvs) => .new (SrtOk (kvs.map (·.1))) (.lst (isort ltV (kvs.map (·.1))))
      | _ => .bad)
    | _ => .bad)
def lstA (x : Val) (h : VH) (k : Nat → List Val → Res) : Res := match x with
  | .ref a => (match h a with
    | some (.lst xs) => k a xs
    | _ => .bad)
  | _ => .bad
def dicA (x : Val) (h : VH) (k : Nat → Bool → List (Val × Val) → Res) : Res := match x with
  | .ref a => (match h a with
    | some (.dic kt kvs) => k a kt kvs
    | _ => .bad)
  | _ => .bad
def bmtR (m : Bmt) (x : Val) (vs : List Val) (h : VH) : Res := match m with
  | .append => (match vs with
    | [v] => lstA x h fun a xs => .put (xs.length < SZ) a (.lst (xs ++ [v])) .non
    | _ => .bad)
  | .pop => (match vs with
    | [] => lstA x h fun a xs => (match xs.getLast? with
      | some y => .put True a (.lst xs.dropLast) y
      | none => .bad)
    | _ => .bad)
  | .extend => (match vs with
    | [v] => lstA x h fun a xs => (match lstV v h with
      | some ys => .put (xs.length + ys.length ≤ SZ) a (.lst (xs ++ ys)) .non
      | none => .bad)
    | _ => .bad)
  | .get => (match vs with
    | [k] => dicA x h fun _ kt kvs => .if_ (keyB kt k = true) ((dlook k kvs).getD .non)
    | [k, d] => dicA x h fun _ kt kvs => .if_ (keyB kt k = true) ((dlook k kvs).getD d)
    | _ => .bad)
  | .setdefault => (match vs with
    | [k, d] => dicA x h fun a kt kvs => (match kt, dlook k kvs with
      | true, _ => .bad
      | false, some v => .if_ (leafK k = true ∧ kvs.length < SZ) v
      | false, none => .put (leafK k = true ∧ kvs.length < SZ) a (.dic false (dput k d kvs)) d)
    | _ => .bad)
  | .keys => .bad
  | .split => (match x, vs with
    | .str a, [.str [c]] => .new (a.length + 2 ≤ SZ ∧ c < 256) (.lst ((splitC c a).map .str))
    | _, _ => .bad)
  | .join => (match x, vs with
    | .str a, [v] => (match itemsOf v h with
      | some xs => (match strsOf xs with
        | some zs => .if_ ((zs.map List.length).sum + zs.length * a.length ≤ SZ) (.str (joinC a zs))
        | none => .bad)
      | none => .bad)
    | _, _ => .bad)
  | .find => (match x, vs with
    | .str a, [.str [c]] => (match findC c a 0 with
      | some i => .ok (.int i)
      | none => .ok (.int (-1)))
    | _, _ => .bad)
  | .index => (match x, vs with
    | .str a, [.str [c]] => (match findC c a 0 with
      | some i => .ok (.int i)
      | none => .bad)
    | _, _ => .bad)
  | .startswith => (match x, vs with
    | .str a, [.str b] => .ok (.bl (b.isPrefixOf a))
    | _, _ => .bad)
  | .bitlen => (match x, vs with
    | .int i, [] => .ok (.int (PySem.Builtin.Int.intBits i))
    | _, _ => .bad)
  | .count => (match x, vs with
    | .str a, [.str b] => .ok (.int (PySem.Txt.count ⟨a.toArray⟩ ⟨b.toArray⟩))
    | _, _ => .bad)
  | .clear => (match vs with
    | [] => lstA x h fun a _ => .put True a (.lst []) .non
    | _ => .bad)
  | .replace => .bad
/-- a list turned round, the keys of a dict sorted -/
def revR (x : Val) (h : VH) : Res := match lstV x h with
  | some xs => .new True (.lst xs.reverse)
  | none => .bad
def srtdR (x : Val) (h : VH) : Res := match x with
  | .ref a => (match h a with
    | some (.dic true kvs) => .new (SrtOk (kvs.map (·.1))) (.lst (isort ltV (kvs.map (·.1))))
    | _ => .bad)
  | _ => .bad
end MP
end
section
/-! MpB: what must hold that a piece comes through. -/
namespace MP
/-! ### the whole -/
structure Gam where
  con : String → Option Val
  call : String → List Val → VH → KV → KX → Prop
  mth : String → String → Option String
  sub : String → String → Option Bool
  exc : String → Option (List String)
  cur : Option (Nat × Nat × Exc)
  isi : String → List String → Option Bool
  fld : String → String → Bool
structure Gam.Mono (Γ : Gam) : Prop where
  call : ∀ f vs h (Q Q' : KV) (X X' : KX), (∀ v h, Q v h → Q' v h) → (∀ e h, X e h → X' e h) → Γ.call f vs h Q X → Γ.call f vs h Q' X'
def gset (g : G) (v : Val) (σ : VS) (k : VS → Prop) : Prop := match g with
  | .nm i => k (sset σ i (some v))
  | .tp is => (match v with
    | .tup xs => xs.length = is.length ∧ k ((is.zip xs).foldl (fun σ p => sset σ p.1 (some p.2)) σ)
    | _ => False)
/-- a comprehension's turns: D the new list -/
def cgo (body : Val → VH → (Option Val → VH → Prop) → Prop) (ok : VH → Prop) (D : Nat) (fin : VH → Prop) : List Val → VH → Prop
  | [], h => ok h ∧ fin h
  | v :: r, h => ok h ∧ body v h fun o h' => match o with
    | some y => ∃ acc, h' D = some (.lst acc) ∧ acc.length < SZ ∧ cgo body ok D fin r (up h' D (.lst (acc ++ [y])))
    | none => cgo body ok D fin r h'
def fgo (body : Val → VS → VH → (VS → VH → Prop) → Prop) (ok : VH → Prop) (nx : VS → VH → Prop) : List Val → VS → VH → Prop
  | [], σ, h => ok h ∧ nx σ h
  | v :: r, σ, h => ok h ∧ body v σ h fun σ' h' => fgo body ok nx r σ' h'
def wgo (test : VS → VH → (Bool → VH → Prop) → Prop) (body : VS → VH → (VS → VH → Prop) → Prop) (nx : VS → VH → Prop) : Nat → VS → VH → Prop
  | 0, _, _ => False
  | n + 1, σ, h => test σ h fun b h1 => if b = true then body σ h1 fun σ' h' => wgo test body nx n σ' h' else nx σ h1
def rangeV (lo : Int) (n : Nat) : List Val := (List.range n).map fun (i : Nat) => .int (lo + (i : Int))
def enumFrom (i : Nat) : List Val → List Val
  | [] => []
  | v :: r => .tup [.int (i : Int), v] :: enumFrom (i + 1) r
def B62 (i : Int) : Prop := -(4611686018427387904) ≤ i ∧ i < 4611686018427387904
/-- what is walked: under a condition, these items, while this holds -/
inductive Src where
  | ok (c : Prop) (xs : List Val) (g : VH → Prop) | bad
def Src.wp : Src → (List Val → (VH → Prop) → Prop) → Prop
  | .ok c xs g, R => c ∧ R xs g
  | .bad, _ => False
theorem Src.mono {r : Src} {R R' : List Val → (VH → Prop) → Prop} (H : ∀ xs g, R xs g → R' xs g) (a : r.wp R) : r.wp R' := by
  cases r with
  | ok c xs g => exact ⟨a.1, H _ _ a.2⟩
  | bad => exact a
def tt : VH → Prop := fun _ => True
def srcOf (x : Val) (h : VH) : Src := match x with
  | .tup xs => .ok True xs tt
  | .rls xs => .ok True xs tt
  | .str a => .ok True (a.map fun c => .str [c]) tt
  | .ref a => (match h a with
    | some (.lst xs) => .ok True xs fun h' => h' a = some (.lst xs)
    | _ => .bad)
  | _ => .bad
def src1 (x : Val) : Src := match x with
  | .int j => .ok (B62 j) (rangeV 0 j.toNat) tt
  | _ => .bad
def src2 (x y : Val) : Src := match x, y with
  | .int i, .int j => .ok (B62 i ∧ B62 j) (rangeV i (j - i).toNat) tt
  | _, _ => .bad
def src3 (x y z : Val) : Src := match x, y, z with
  | .int i, .int j, .int c => .ok (L2.RgC i j c (PySem.Builtin.Range.rangeSize i j c).toNat) ((List.range (PySem.Builtin.Range.rangeSize i j c).toNat).map fun (k : Nat) => .int (i + (k : Int) * c)) tt
  | _, _, _ => .bad
def srcE (x : Val) (h : VH) : Src := match x with
  | .rls xs => .ok True (enumFrom 0 xs) tt
  | .tup xs => .ok True (enumFrom 0 xs) tt
  | .ref a => (match h a with
    | some (.lst xs) => .ok True (enumFrom 0 xs) fun h' => h' a = some (.lst xs)
    | _ => .bad)
  | _ => .bad
def srcI (x : Val) (h : VH) : Src := match x with
  | .ref a => (match h a with
    | some (.dic kt kvs) => .ok True (kvs.map fun p => .tup [p.1, p.2]) fun h' => h' a = some (.dic kt kvs)
    | _ => .bad)
  | _ => .bad
def srcR (x : Val) : Src := match x with
  | .int j => .ok (B62 j) (rangeV 0 j.toNat).reverse tt
  | _ => .bad
/-- what a list-like value holds, and while what it does -/
def keepV (x : Val) (h : VH) : Option (List Val × (VH → Prop)) := match x with
  | .tup xs => some (xs, tt)
  | .rls xs => some (xs, tt)
  | .ref a => (match h a with
    | some (.lst xs) => some (xs, fun h' => h' a = some (.lst xs))
    | _ => none)
  | _ => none
def zipV (xs ys : List Val) : List Val := (xs.zip ys).map fun p => .tup [p.1, p.2]
def srcZ (x y : Val) (h : VH) : Src := match keepV x h, keepV y h with
  | some (xs, g), some (ys, k) => .ok True (zipV xs ys) fun h' => g h' ∧ k h'
  | _, _ => .bad
def setR (x y v : Val) (h : VH) : Res := match x with
  | .ref a => (match h a with
    | some (.lst xs) => (match y with
      | .int k => (match L2.ixN xs.length k with
        | some j => .put True a (.lst (xs.set j v)) .non
        | none => .bad)
      | _ => .bad)
    | some (.dic kt kvs) => .put (keyB kt y = true ∧ kvs.length < SZ) a (.dic kt (dput y v kvs)) .non
    | _ => .bad)
  | _ => .bad
def fldR (x : Val) (f : String) (h : VH) : Res := match x with
  | .ref a => (match h a with
    | some (.ins _ fs) => (match flook f fs with
      | some v => .ok v
      | none => .bad)
    | _ => .bad)
  | _ => .bad
def sflR (ok : String → String → Bool) (x : Val) (f : String) (v : Val) (h : VH) : Res := match x with
  | .ref a => (match h a with
    | some (.ins c fs) => .put (fs.length < 1000 ∧ ok c f = true) a (.ins c (fput f v fs)) .non
    | _ => .bad)
  | _ => .bad
/-- the class of an instance that has no such attribute of its own -/
def mthC (x : Val) (m : String) (h : VH) : Option String := match x with
  | .ref a => (match h a with
    | some (.ins c fs) => (match flook m fs with
      | some _ => none
      | none => some c)
    | _ => none)
  | _ => none
def negR (x : Val) : Res := match x with
  | .int i => .ok (.int (-i))
  | _ => .bad
def invR (x : Val) : Res := match x with
  | .int i => .ok (.int (-i - 1))
  | _ => .bad
def isN (x : Val) : Bool := match x with
  | .non => true
  | _ => false
/-- a display at p -/
def dctK (p : Nat) (Q : KV) (h : VH) (o : Option (List (Val × Val))) : Prop := match o with
  | some kvs => h p = some (.dic false []) ∧ (kvs.all fun q => leafK q.1) = true ∧ kvs.length ≤ 15 ∧ Q (.ref p) (up h p (.dic false (dputs [] kvs)))
  | none => False
theorem dctK_mono {p : Nat} {Q Q' : KV} {h : VH} {o : Option (List (Val × Val))} (H : ∀ v h, Q v h → Q' v h) (z : dctK p Q h o) : dctK p Q' h o := by
  cases o with
  | none => exact z
  | some kvs => exact ⟨z.1, z.2.1, z.2.2.1, H _ _ z.2.2.2⟩
def lrngR (x : Val) : Res := match x with
  | .int j => .new (B62 j ∧ j ≤ 16777216) (.lst (rangeV 0 j.toNat))
  | _ => .bad
def intO (x : Val) : Option Int := match x with
  | .int i => some i
  | _ => none
/-- x op= y, of ints -/
def augR (o : Bop) (x y : Val) (_ : VH) : Res := match o with
  | .add => intR (fun i j => .ok (.int (i + j))) x y
  | .sub => intR (fun i j => .ok (.int (i - j))) x y
  | _ => .bad
/-- the built-in types by name -/
def bltTy (n : String) : Bool := n == "NoneType" || n == "bool" || n == "int" || n == "str" || n == "tuple" || n == "list" || n == "dict" || n == "ValueError"
/-- a value's type, by name -/
def tyN (x : Val) (h : VH) : Option String := match x with
  | .non => some "NoneType"
  | .bl _ => some "bool"
  | .int _ => some "int"
  | .str _ => some "str"
  | .tup _ => some "tuple"
  | .rls _ => some "list"
  | .ref a => (match h a with
    | some (.lst _) => some "list"
    | some (.dic _ _) => some "dict"
    | some (.ins d _) => some d
    | some (.xd _) => none
    | some (.lck _ _) => none
    | none => none)
  | .fn _ => none
  | .ktp _ => none
def isiR (isi : String → List String → Option Bool) (x : Val) (h : VH) (cs : List String) : Res := match tyN x h with
  | some t => (match isi t cs with
    | some b => .ok (.bl b)
    | none => .bad)
  | none => .bad
/-- the field of an exception -/
def xfR (exc : String → Option (List String)) (e : Exc) (f : String) (h : VH) : Res := match e.d with
  | some d => (match h d with
    | some (.xd fs) => (match flook f fs with
      | some v => .if_ (∃ ns, exc e.cls = some ns ∧ f ∈ ns) v
      | none => .bad)
    | _ => .bad)
  | none => .bad
/-- an exception against classes, one behind the other -/
def xiA (sub : String → String → Option Bool) (c : String) : List String → Option Bool
  | [] => some false
  | x :: r => (match sub c x with
    | some true => some true
    | some false => xiA sub c r
    | none => none)
def xiR (sub : String → String → Option Bool) (e : Exc) (cs : List String) (h : VH) : Res := match cs with
  | [c] => (match sub e.cls c with
    | some b => .if_ (∀ d, e.d = some d → ∃ fs, h d = some (.xd fs)) (.bl b)
    | none => .bad)
  | [] => .bad
  | c :: d :: r => (match xiA sub e.cls (c :: d :: r) with
    | some b => .if_ (∀ d, e.d = some d → ∃ fs, h d = some (.xd fs)) (.bl b)
    | none => .bad)
/-- an exception is made -/
def litEs : Es → Bool
  | .nil => true
  | .cons (.str _) .nil => true
  | _ => false
/-- the class may be raised so -/
def raiC (lit : Bool) (o : Option (List String)) : Prop := match o with
  | some [] => lit = true
  | some (_ :: ns) => ns.length ≤ 5
  | none => False
def raiK (o : Option (List String)) (c : String) (vs : List Val) (h : VH) (k : Exc → VH → Prop) : Prop := match o with
  | some [] => k ⟨c, none⟩ h
  | some (n :: ns) => (n :: ns).length = vs.length ∧ ∀ d, h d = none → k ⟨c, some d⟩ (up h d (.xd ((n :: ns).zip vs).reverse))
  | none => False
/-- an exception class with fields -/
def excN (o : Option (List String)) : Prop := match o with
  | some (_ :: _) => True
  | _ => False
/-- what an except suite that raises wishes -/
def rkK (b : Option Bool) (v : Option Val) (o : Option (List String)) (c : String) (k : Exc → VH → Prop) (ko : VH → Prop) (h : VH) : Prop := match b with
  | some true => (match v with
    | some v => raiK o c [v] h k
    | none => False)
  | some false => ko h
  | none => False
/-- the type of a value that has methods -/
def kindV (ty : String) (u : Val) (h : VH) : Prop := match u with
  | .str _ => ty = "str"
  | .int _ => ty = "int"
  | .ref a => (match h a with
    | some (.lst _) => ty = "list"
    | some (.dic _ _) => ty = "dict"
    | _ => False)
  | _ => False
/-- a list that may be known as a value -/
def frzV (v : Val) (h : VH) : Option (Nat × List Val) := match v with
  | .ref a => (match h a with
    | some (.lst xs) => some (a, xs)
    | _ => none)
  | _ => none
def frzK (Q : KV) : KV := fun v h => match frzV v h with
  | some (a, xs) => Q (.rls xs) (del h a)
  | none => Q v h
/-- a value's truth -/
def onT (k : Bool → VH → Prop) : KV := fun x h => (truB x h).wp fun t => k t h
/-- a dict is walked: locked -/
def lckV (x : Val) (h : VH) : Option (Nat × Bool × List (Val × Val)) := match x with
  | .ref a => (match h a with
    | some (.dic t kvs) => some (a, t, kvs)
    | _ => none)
  | _ => none
def itemsD (kvs : List (Val × Val)) : List Val := kvs.map fun p => .tup [p.1, p.2]
def lckK (x : Val) (h : VH) (k : Nat → Bool → List (Val × Val) → Prop) : Prop := match lckV x h with
  | some (a, t, kvs) => k a t kvs
  | none => False
theorem lckK_mono {x : Val} {h : VH} {k k' : Nat → Bool → List (Val × Val) → Prop} (H : ∀ a t kvs, k a t kvs → k' a t kvs) (z : lckK x h k) : lckK x h k' := by
  unfold lckK at z ⊢
  split at z
  · exact H _ _ _ z
  · exact z
/-- keys, one behind the other -/
def kgo (key : Val → VH → KV → Prop) (fin : List Val → VH → Prop) : List Val → List Val → VH → Prop
  | [], ks, h => fin ks h
  | v :: r, ks, h => key v h fun k h' => kgo key fin r (ks ++ [k]) h'
theorem kgo_mono {key key' : Val → VH → KV → Prop} {fin fin' : List Val → VH → Prop} (hk : ∀ v h (Q Q' : KV), (∀ v h, Q v h → Q' v h) → key v h Q → key' v h Q') (hf : ∀ ks h, fin ks h → fin' ks h) :
    ∀ (r ks : List Val) (h : VH), kgo key fin r ks h → kgo key' fin' r ks h
  | [], ks, h, z => hf _ _ z
  | v :: r, ks, h, z => hk v h _ _ (fun k h' q => kgo_mono hk hf r (ks ++ [k]) h' q) z
def srtK (Q : KV) (xs ks : List Val) (h : VH) : Prop := KeyOk ks ∧ xs.length ≤ SZ ∧ ∀ p, h p = none → Q (.ref p) (up h p (.lst (ksort ks xs)))
mutual
def wpE (Γ : Gam) : E → VS → VH → KV → KX → Prop
  | .non, _, h, Q, _ => Q .non h
  | .bl b, _, h, Q, _ => Q (.bl b) h
  | .int i, _, h, Q, _ => Q (.int i) h
  | .str x, _, h, Q, _ => Q (.str x) h
  | .var i, σ, h, Q, _ => (match sget σ i with
    | some v => Q v h
    | none => False)
  | .glb x, _, h, Q, _ => (match Γ.con x with
    | some v => Q v h
    | none => False)
  | .bop o a b, σ, h, Q, X => wpE Γ a σ h (fun x h1 => wpE Γ b σ h1 (fun y h2 => (bopR o x y h2).wp h2 Q) X) X
  | .neg a, σ, h, Q, X => wpE Γ a σ h (fun x h1 => (negR x).wp h1 Q) X
  | .inv a, σ, h, Q, X => wpE Γ a σ h (fun x h1 => (invR x).wp h1 Q) X
  | .not a, σ, h, Q, X => wpE Γ a σ h (onT fun b h1 => Q (.bl (!b)) h1) X
  | .lg o es, σ, h, Q, X => wpL Γ o es σ h Q X
  | .cmp o a b, σ, h, Q, X => wpE Γ a σ h (fun x h1 => wpE Γ b σ h1 (fun y h2 => (cmpR o x y h2).wp fun t => Q (.bl t) h2) X) X
  | .chn o p a b c, σ, h, Q, X => wpE Γ a σ h (fun x h1 => wpE Γ b σ h1 (fun y h2 => (cmpR o x y h2).wp fun t => if t = true then wpE Γ c σ h2 (fun z h3 => (cmpR p y z h3).wp fun t => Q (.bl t) h3) X else Q (.bl false) h2) X) X
  | .isn a, σ, h, Q, X => wpE Γ a σ h (fun x h1 => Q (.bl (isN x)) h1) X
  | .ntn a, σ, h, Q, X => wpE Γ a σ h (fun x h1 => Q (.bl (!isN x)) h1) X
  | .ife c a b, σ, h, Q, X => wpE Γ c σ h (onT fun t h1 => if t = true then wpE Γ a σ h1 Q X else wpE Γ b σ h1 Q X) X
  | .call f es, σ, h, Q, X => wpEs Γ es σ h (fun vs h1 => Γ.call f vs h1 Q X) X
  | .bif f es, σ, h, Q, X => wpEs Γ es σ h (fun vs h1 => (bifR f vs h1).wp h1 Q) X
  | .mth o m es, σ, h, Q, X => wpE Γ o σ h (fun x h1 => match mthC x m h1 with
    | some c => (match Γ.mth c m with
      | some l => wpEs Γ es σ h1 (fun vs h2 => Γ.call l (x :: vs) h2 Q X) X
      | none => False)
    | none => False) X
  | .bmt m ty o es, σ, h, Q, X => wpE Γ o σ h (fun x h1 => kindV ty x h1 ∧ wpEs Γ es σ h1 (fun vs h2 => (bmtR m x vs h2).wp h2 Q) X) X
  | .fld o f, σ, h, Q, X => wpE Γ o σ h (fun x h1 => (fldR x f h1).wp h1 Q) X
  | .idx a i, σ, h, Q, X => wpE Γ a σ h (fun x h1 => wpE Γ i σ h1 (fun y h2 => (idxR x y h2).wp h2 Q) X) X
  | .slc a lo hi, σ, h, Q, X => wpE Γ a σ h (fun x h1 => wpO Γ lo σ h1 (fun l h2 => wpO Γ hi σ h2 (fun u h3 => (slcR x l u h3).wp h3 Q) X) X) X
  | .lst es, σ, h, Q, X => wpEs Γ es σ h (fun vs h1 => vs.length ≤ SZ ∧ ∀ p, h1 p = none → Q (.ref p) (up h1 p (.lst vs))) X
  | .tup es, σ, h, Q, X => wpEs Γ es σ h (fun vs h1 => vs.length ≤ SZ ∧ Q (.tup vs) h1) X
  | .dct es, σ, h, Q, X => ∀ p, h p = none → wpEs Γ es σ (up h p (.dic false [])) (fun vs h1 => dctK p Q h1 (pairsOf vs)) X
  | .dctT, _, h, Q, _ => ∀ p, h p = none → Q (.ref p) (up h p (.dic true []))
  | .cmpr el t it c vs, σ, h, Q, X => wpIt Γ it σ h (fun items ok h1 => ∀ D, h1 D = none →
      cgo (fun v h k => gset t v (swipe σ vs) fun σ' => wpC Γ c σ' h (fun b h2 => if b = true then wpE Γ el σ' h2 (fun y h3 => k (some y) h3) (fun _ _ => False) else k none h2) (fun _ _ => False)) ok D (fun h' => Q (.ref D) h') items (up h1 D (.lst []))) X
  | .lrng a, σ, h, Q, X => wpE Γ a σ h (fun x h1 => (lrngR x).wp h1 Q) X
  | .revl a, σ, h, Q, X => wpE Γ a σ h (fun x h1 => (revR x h1).wp h1 Q) X
  | .srtd a, σ, h, Q, X => wpE Γ a σ h (fun x h1 => (srtdR x h1).wp h1 Q) X
  | .isi a cs, σ, h, Q, X => wpE Γ a σ h (fun x h1 => (isiR Γ.isi x h1 cs).wp h1 Q) X
  | .xfld f, σ, h, Q, _ => ∃ i a e, Γ.cur = some (i, a, e) ∧ sget σ i = some (.ref a) ∧ (xfR Γ.exc e f h).wp h Q
  | .xisi cs, σ, h, Q, _ => ∃ i a e, Γ.cur = some (i, a, e) ∧ sget σ i = some (.ref a) ∧ (xiR Γ.sub e cs h).wp h Q
  | .srtk a n body, σ, h, Q, X => wpE Γ a σ h (fun x h1 => match lstV x h1 with
    | some xs => kgo (fun v h Q => wpE Γ body (some v :: List.replicate (n - 1) none) h Q (fun _ _ => False)) (srtK Q xs) xs [] h1
    | none => False) X
  | .srtf a f, σ, h, Q, X => wpE Γ a σ h (fun x h1 => match lstV x h1 with
    | some xs => kgo (fun v h Q => Γ.call f [v] h Q (fun _ _ => False)) (srtK Q xs) xs [] h1
    | none => False) X
  | .cmprD el t e c vs, σ, h, Q, X => wpE Γ e σ h (fun x h1 => lckK x h1 fun a kt kvs => ∀ D, up h1 a (.lck kt kvs) D = none →
      cgo (fun v h k => gset t v (swipe σ vs) fun σ' => wpC Γ c σ' h (fun b h2 => if b = true then wpE Γ el σ' h2 (fun y h3 => k (some y) h3) (fun _ _ => False) else k none h2) (fun _ _ => False)) (fun h' => h' a = some (.lck kt kvs)) D (fun h' => Q (.ref D) (up h' a (.dic kt kvs))) (itemsD kvs) (up (up h1 a (.lck kt kvs)) D (.lst []))) X
  | .calld f es ds, σ, h, Q, X => wpEs Γ es σ h (fun vs h1 => Γ.call f (vs ++ ds) h1 Q X) X
  | .frz e, σ, h, Q, X => wpE Γ e σ h (frzK Q) X
def wpEs (Γ : Gam) : Es → VS → VH → (List Val → VH → Prop) → KX → Prop
  | .nil, _, h, Q, _ => Q [] h
  | .cons e es, σ, h, Q, X => wpE Γ e σ h (fun v h1 => wpEs Γ es σ h1 (fun vs h2 => Q (v :: vs) h2) X) X
/-- and (o = true), or -/
def wpL (Γ : Gam) (o : Bool) : Es → VS → VH → KV → KX → Prop
  | .nil, _, _, _, _ => False
  | .cons e es, σ, h, Q, X => wpE Γ e σ h (fun x h1 => match es with
    | .nil => Q x h1
    | .cons _ _ => (truB x h1).wp fun t => if t = o then wpL Γ o es σ h1 Q X else Q x h1) X
/-- a part of a slice -/
def wpO (Γ : Gam) : O → VS → VH → (Option Int → VH → Prop) → KX → Prop
  | .no, _, h, Q, _ => Q none h
  | .some e, σ, h, Q, X => wpE Γ e σ h (fun x h1 => match intO x with
    | some i => Q (some i) h1
    | none => False) X
/-- a condition, perhaps none -/
def wpC (Γ : Gam) : O → VS → VH → (Bool → VH → Prop) → KX → Prop
  | .no, _, h, k, _ => k true h
  | .some e, σ, h, k, X => wpE Γ e σ h (onT k) X
def wpIt (Γ : Gam) : It → VS → VH → (List Val → (VH → Prop) → VH → Prop) → KX → Prop
  | .pl e, σ, h, R, X => wpE Γ e σ h (fun x h1 => (srcOf x h1).wp fun xs ok => R xs ok h1) X
  | .r1 a, σ, h, R, X => wpE Γ a σ h (fun x h1 => (src1 x).wp fun xs ok => R xs ok h1) X
  | .r2 a b, σ, h, R, X => wpE Γ a σ h (fun x h1 => wpE Γ b σ h1 (fun y h2 => (src2 x y).wp fun xs ok => R xs ok h2) X) X
  | .r3 a b c, σ, h, R, X => wpE Γ a σ h (fun x h1 => wpE Γ b σ h1 (fun y h2 => wpE Γ c σ h2 (fun z h3 => (src3 x y z).wp fun xs ok => R xs ok h3) X) X) X
  | .en e, σ, h, R, X => wpE Γ e σ h (fun x h1 => (srcE x h1).wp fun xs ok => R xs ok h1) X
  | .zp a b, σ, h, R, X => wpE Γ a σ h (fun x h1 => wpE Γ b σ h1 (fun y h2 => (srcZ x y h2).wp fun xs ok => R xs ok h2) X) X
  | .items e, σ, h, R, X => wpE Γ e σ h (fun x h1 => (srcI x h1).wp fun xs ok => R xs ok h1) X
  | .rv a, σ, h, R, X => wpE Γ a σ h (fun x h1 => (srcR x).wp fun xs ok => R xs ok h1) X
end
def wpT (Γ : Gam) (e : E) (σ : VS) (h : VH) (k : Bool → VH → Prop) (X : KX) : Prop := wpE Γ e σ h (onT k) X
structure Ds where
  nx : VS → VH → Prop
  rt : KV
  ex : Exc → VS → VH → Prop
mutual
def wpS (Γ : Gam) : S → VS → VH → Ds → Prop
  | .exp e, σ, h, D => wpE Γ e σ h (fun _ h1 => D.nx σ h1) (fun x h1 => D.ex x σ h1)
  | .asg g e, σ, h, D => wpE Γ e σ h (fun v h1 => gset g v σ fun σ' => D.nx σ' h1) (fun x h1 => D.ex x σ h1)
  | .sfl o f e, σ, h, D => wpE Γ e σ h (fun v h1 => wpE Γ o σ h1 (fun x h2 => (sflR Γ.fld x f v h2).wp h2 fun _ h3 => D.nx σ h3) (fun x h1 => D.ex x σ h1)) (fun x h1 => D.ex x σ h1)
  | .ssb o i e, σ, h, D => wpE Γ e σ h (fun v h1 => wpE Γ o σ h1 (fun x h2 => wpE Γ i σ h2 (fun y h3 => (setR x y v h3).wp h3 fun _ h4 => D.nx σ h4) (fun x h1 => D.ex x σ h1)) (fun x h1 => D.ex x σ h1)) (fun x h1 => D.ex x σ h1)
  | .aug i op e, σ, h, D => (match sget σ i with
    | some x => wpE Γ e σ h (fun y h1 => (augR op x y h1).wp h1 fun z h2 => D.nx (sset σ i (some z)) h2) (fun x h1 => D.ex x σ h1)
    | none => False)
  | .ret e, σ, h, D => wpE Γ e σ h D.rt (fun x h1 => D.ex x σ h1)
  | .ife c a b, σ, h, D => wpT Γ c σ h (fun t h1 => if t = true then wpSs Γ a σ h1 D else wpSs Γ b σ h1 D) (fun x h1 => D.ex x σ h1)
  | .loop g it body, σ, h, D => wpIt Γ it σ h (fun items ok h1 => fgo (fun v σ h k => gset g v σ fun σ' => wpSs Γ body σ' h { D with nx := k }) ok D.nx items σ h1) (fun x h1 => D.ex x σ h1)
  | .loopD g e body, σ, h, D => wpE Γ e σ h (fun x h1 => lckK x h1 fun a kt kvs => fgo (fun v σ h k => gset g v σ fun σ' => wpSs Γ body σ' h { nx := k, rt := fun v h => h a = some (.lck kt kvs) ∧ D.rt v (up h a (.dic kt kvs)), ex := D.ex }) (fun h' => h' a = some (.lck kt kvs)) (fun σ' h' => D.nx σ' (up h' a (.dic kt kvs))) (itemsD kvs) σ (up h1 a (.lck kt kvs))) (fun x h1 => D.ex x σ h1)
  | .whl c body, σ, h, D => ∃ n, wgo (fun σ h k => wpT Γ c σ h k (fun x h1 => D.ex x σ h1)) (fun σ h k => wpSs Γ body σ h { D with nx := k }) D.nx n σ h
  | .rai c es, σ, h, D => raiC (litEs es) (Γ.exc c) ∧ wpEs Γ es σ h (fun vs h1 => raiK (Γ.exc c) c vs h1 fun e h2 => D.ex e σ h2) (fun x h1 => D.ex x σ h1)
  | .try_ body hs els, σ, h, D => wpSs Γ body σ h { nx := fun σ h => wpSs Γ els σ h D, rt := D.rt, ex := fun e σ h => wpHs Γ hs e σ h D }
  | .pas, σ, h, D => D.nx σ h
  | .frz i, σ, h, D => (match sget σ i with
    | some v => (match frzV v h with
      | some (a, xs) => D.nx (sset σ i (some (.rls xs))) (del h a)
      | none => D.nx σ h)
    | none => D.nx σ h)
  | .nev, _, _, _ => False
  | .tryR body c c2 j els, σ, h, D => excN (Γ.exc c2) ∧ wpSs Γ body σ h { nx := fun σ h => wpSs Γ els σ h D, rt := D.rt, ex := fun e σ h => rkK (Γ.sub e.cls c) (sget σ j) (Γ.exc c2) c2 (fun e2 h2 => D.ex e2 σ h2) (D.ex e σ) h }
  | .thru body els, σ, h, D => wpSs Γ body σ h { nx := fun σ h => wpSs Γ els σ h D, rt := D.rt, ex := fun _ _ _ => False }
def wpSs (Γ : Gam) : Ss → VS → VH → Ds → Prop
  | .nil, σ, h, D => D.nx σ h
  | .cons s ss, σ, h, D => wpS Γ s σ h { D with nx := fun σ h => wpSs Γ ss σ h D }
def wpHs (Γ : Gam) : Hs → Exc → VS → VH → Ds → Prop
  | .nil, e, σ, h, D => D.ex e σ h
  | .cons c i b hs, e, σ, h, D => (match Γ.sub e.cls c with
    | some true => ∀ a, h a = none → wpSs { Γ with cur := some (i, a, e) } b (sset σ i (some (.ref a))) h { nx := fun σ' h' => D.nx (sset σ' i none) h', rt := D.rt, ex := fun _ _ _ => False }
    | some false => wpHs Γ hs e σ h D
    | none => False)
end
end MP
end
section
/-! MpC: a weaker wish is met too. -/
namespace MP
section
variable {h : VH}
theorem onT_mono {k k' : Bool → VH → Prop} (H : ∀ t h, k t h → k' t h) {x : Val} (a : onT k x h) : onT k' x h := Bes.mono (fun t q => H t h q) a
theorem gset_mono {g : G} {v : Val} {σ : VS} {k k' : VS → Prop} (H : ∀ σ, k σ → k' σ) (a : gset g v σ k) : gset g v σ k' := by
  cases g with
  | nm i => exact H _ a
  | tp is =>
    cases v with
    | tup xs => exact ⟨a.1, H _ a.2⟩
    | _ => exact a
theorem cgo_mono {body body' : Val → VH → (Option Val → VH → Prop) → Prop} {ok : VH → Prop} {D : Nat} {fin fin' : VH → Prop} (hb : ∀ v h (k k' : Option Val → VH → Prop), (∀ o h, k o h → k' o h) → body v h k → body' v h k') (hf : ∀ h, fin h → fin' h) :
    ∀ (xs : List Val) (h : VH), cgo body ok D fin xs h → cgo body' ok D fin' xs h
  | [], h, a => ⟨a.1, hf _ a.2⟩
  | v :: r, h, a => ⟨a.1, hb v h _ _ (fun o h' q => by
      cases o with
      | none => exact cgo_mono hb hf r h' q
      | some y => obtain ⟨acc, h1, h2, h3⟩ := q; exact ⟨acc, h1, h2, cgo_mono hb hf r _ h3⟩) a.2⟩
theorem fgo_mono {body body' : Val → VS → VH → (VS → VH → Prop) → Prop} {ok : VH → Prop} {nx nx' : VS → VH → Prop} (hb : ∀ v σ h (k k' : VS → VH → Prop), (∀ σ h, k σ h → k' σ h) → body v σ h k → body' v σ h k') (hf : ∀ σ h, nx σ h → nx' σ h) :
    ∀ (xs : List Val) (σ : VS) (h : VH), fgo body ok nx xs σ h → fgo body' ok nx' xs σ h
  | [], σ, h, a => ⟨a.1, hf _ _ a.2⟩
  | v :: r, σ, h, a => ⟨a.1, hb v σ h _ _ (fun σ' h' q => fgo_mono hb hf r σ' h' q) a.2⟩
theorem wgo_mono {test test' : VS → VH → (Bool → VH → Prop) → Prop} {body body' : VS → VH → (VS → VH → Prop) → Prop} {nx nx' : VS → VH → Prop} (ht : ∀ σ h (k k' : Bool → VH → Prop), (∀ b h, k b h → k' b h) → test σ h k → test' σ h k')
    (hb : ∀ σ h (k k' : VS → VH → Prop), (∀ σ h, k σ h → k' σ h) → body σ h k → body' σ h k') (hf : ∀ σ h, nx σ h → nx' σ h) :
    ∀ (n : Nat) (σ : VS) (h : VH), wgo test body nx n σ h → wgo test' body' nx' n σ h
  | 0, _, _, a => a
  | n + 1, σ, h, a => ht σ h _ _ (fun b h1 q => by
      cases b with
      | true => exact hb σ h1 _ _ (fun σ' h' z => wgo_mono ht hb hf n σ' h' z) q
      | false => exact hf _ _ q) a
theorem raiK_mono {o : Option (List String)} {c : String} {vs : List Val} {h : VH} {k k' : Exc → VH → Prop} (H : ∀ e h, k e h → k' e h) (z : raiK o c vs h k) : raiK o c vs h k' := by
  unfold raiK at z ⊢
  split at z
  · exact H _ _ z
  · exact ⟨z.1, fun d hd => H _ _ (z.2 d hd)⟩
  · exact z
theorem rkK_mono {b : Option Bool} {v : Option Val} {o : Option (List String)} {c : String} {k k' : Exc → VH → Prop} {ko ko' : VH → Prop} {h : VH} (H : ∀ e h, k e h → k' e h) (H' : ∀ h, ko h → ko' h) (z : rkK b v o c k ko h) : rkK b v o c k' ko' h := by
  unfold rkK at z ⊢
  cases b with
  | none => exact z
  | some b =>
    cases b with
    | false => exact H' _ z
    | true =>
      cases v with
      | none => exact z
      | some v => exact raiK_mono H z
/-- Γ' takes whatever Γ takes, for more wishes -/
structure Le (Γ Γ' : Gam) : Prop where
  con : Γ'.con = Γ.con
  mth : Γ'.mth = Γ.mth
  sub : Γ'.sub = Γ.sub
  exc : Γ'.exc = Γ.exc
  cur : Γ'.cur = Γ.cur
  isi : Γ'.isi = Γ.isi
  fld : Γ'.fld = Γ.fld
  call : ∀ f vs h (Q Q' : KV) (X X' : KX), (∀ v h, Q v h → Q' v h) → (∀ e h, X e h → X' e h) → Γ.call f vs h Q X → Γ'.call f vs h Q' X'
variable {Γ Γ' : Gam} (L : Le Γ Γ')
include L
mutual
theorem wpE_mono : ∀ (e : E) (σ : VS) (h : VH) (Q Q' : KV) (X X' : KX), (∀ v h, Q v h → Q' v h) → (∀ e h, X e h → X' e h) → wpE Γ e σ h Q X → wpE Γ' e σ h Q' X'
  | .non, σ, h, Q, Q', X, X', H, HX, a => H _ _ a
  | .bl b, σ, h, Q, Q', X, X', H, HX, a => H _ _ a
  | .int i, σ, h, Q, Q', X, X', H, HX, a => H _ _ a
  | .str x, σ, h, Q, Q', X, X', H, HX, a => H _ _ a
  | .var i, σ, h, Q, Q', X, X', H, HX, a => by
    simp only [wpE] at a ⊢
    cases e : sget σ i with
    | none => rw [e] at a; exact a
    | some v => rw [e] at a; exact H _ _ a
  | .glb x, σ, h, Q, Q', X, X', H, HX, a => by
    simp only [wpE, L.con] at a ⊢
    cases e : Γ.con x with
    | none => rw [e] at a; exact a
    | some v => rw [e] at a; exact H _ _ a
  | .bop o a b, σ, h, Q, Q', X, X', H, HX, z => by
    simp only [wpE] at z ⊢
    exact wpE_mono a σ h _ _ _ _ (fun x h1 z => wpE_mono b σ h1 _ _ _ _ (fun y h2 z => Res.mono H z) HX z) HX z
  | .neg a, σ, h, Q, Q', X, X', H, HX, z => by
    simp only [wpE] at z ⊢
    exact wpE_mono a σ h _ _ _ _ (fun x h1 z => Res.mono H z) HX z
  | .inv a, σ, h, Q, Q', X, X', H, HX, z => by
    simp only [wpE] at z ⊢
    exact wpE_mono a σ h _ _ _ _ (fun x h1 z => Res.mono H z) HX z
  | .not a, σ, h, Q, Q', X, X', H, HX, z => by
    simp only [wpE] at z ⊢
    exact wpE_mono a σ h _ _ _ _ (fun x h1 z => onT_mono (fun t h z => H _ _ z) z) HX z
  | .lg o es, σ, h, Q, Q', X, X', H, HX, z => by
    simp only [wpE] at z ⊢
    exact wpL_mono o es σ h Q Q' X X' H HX z
  | .cmp o a b, σ, h, Q, Q', X, X', H, HX, z => by
    simp only [wpE] at z ⊢
    exact wpE_mono a σ h _ _ _ _ (fun x h1 z => wpE_mono b σ h1 _ _ _ _ (fun y h2 z => Bes.mono (fun t z => H _ _ z) z) HX z) HX z
  | .chn o p a b c, σ, h, Q, Q', X, X', H, HX, z => by
    simp only [wpE] at z ⊢
    exact wpE_mono a σ h _ _ _ _ (fun x h1 z => wpE_mono b σ h1 _ _ _ _ (fun y h2 z => Bes.mono (fun t z => by
      cases t with
      | true => exact wpE_mono c σ h2 _ _ _ _ (fun w h3 z => Bes.mono (fun t z => H _ _ z) z) HX z
      | false => exact H _ _ z) z) HX z) HX z
  | .isn a, σ, h, Q, Q', X, X', H, HX, z => by
    simp only [wpE] at z ⊢
    exact wpE_mono a σ h _ _ _ _ (fun x h1 z => H _ _ z) HX z
  | .ntn a, σ, h, Q, Q', X, X', H, HX, z => by
    simp only [wpE] at z ⊢
    exact wpE_mono a σ h _ _ _ _ (fun x h1 z => H _ _ z) HX z
  | .ife c a b, σ, h, Q, Q', X, X', H, HX, z => by
    simp only [wpE] at z ⊢
    exact wpE_mono c σ h _ _ _ _ (fun x h1 z => onT_mono (fun t h z => by
      cases t with
      | true => exact wpE_mono a σ h _ _ _ _ H HX z
      | false => exact wpE_mono b σ h _ _ _ _ H HX z) z) HX z
  | .call f es, σ, h, Q, Q', X, X', H, HX, z => by
    simp only [wpE] at z ⊢
    exact wpEs_mono es σ h _ _ _ _ (fun vs h1 z => L.call _ _ _ _ _ _ _ H HX z) HX z
  | .bif f es, σ, h, Q, Q', X, X', H, HX, z => by
    simp only [wpE] at z ⊢
    exact wpEs_mono es σ h _ _ _ _ (fun vs h1 z => Res.mono H z) HX z
  | .mth o m es, σ, h, Q, Q', X, X', H, HX, z => by
    simp only [wpE, L.mth] at z ⊢
    refine wpE_mono o σ h _ _ _ _ (fun x h1 z => ?_) HX z
    cases e : mthC x m h1 with
    | none => rw [e] at z; exact z
    | some c =>
      rw [e] at z
      dsimp only at z ⊢
      cases e2 : Γ.mth c m with
      | none => rw [e2] at z; exact z
      | some l => rw [e2] at z; exact wpEs_mono es σ h1 _ _ _ _ (fun vs h1 z => L.call _ _ _ _ _ _ _ H HX z) HX z
  | .bmt m ty o es, σ, h, Q, Q', X, X', H, HX, z => by
    simp only [wpE] at z ⊢
    exact wpE_mono o σ h _ _ _ _ (fun x h1 z => ⟨z.1, wpEs_mono es σ h1 _ _ _ _ (fun vs h1 z => Res.mono H z) HX z.2⟩) HX z
  | .fld o f, σ, h, Q, Q', X, X', H, HX, z => by
    simp only [wpE] at z ⊢
    exact wpE_mono o σ h _ _ _ _ (fun x h1 z => Res.mono H z) HX z
  | .idx a i, σ, h, Q, Q', X, X', H, HX, z => by
    simp only [wpE] at z ⊢
    exact wpE_mono a σ h _ _ _ _ (fun x h1 z => wpE_mono i σ h1 _ _ _ _ (fun y h2 z => Res.mono H z) HX z) HX z
  | .slc a lo hi, σ, h, Q, Q', X, X', H, HX, z => by
    simp only [wpE] at z ⊢
    exact wpE_mono a σ h _ _ _ _ (fun x h1 z => wpO_mono lo σ h1 _ _ _ _ (fun y h2 z => wpO_mono hi σ h2 _ _ _ _ (fun y h2 z => Res.mono H z) HX z) HX z) HX z
  | .lst es, σ, h, Q, Q', X, X', H, HX, z => by
    simp only [wpE] at z ⊢
    exact wpEs_mono es σ h _ _ _ _ (fun vs h1 z => ⟨z.1, fun p hp => H _ _ (z.2 p hp)⟩) HX z
  | .tup es, σ, h, Q, Q', X, X', H, HX, z => by
    simp only [wpE] at z ⊢
    exact wpEs_mono es σ h _ _ _ _ (fun vs h1 z => ⟨z.1, H _ _ z.2⟩) HX z
  | .dct es, σ, h, Q, Q', X, X', H, HX, z => by
    simp only [wpE] at z ⊢
    exact fun p hp => wpEs_mono es σ _ _ _ _ _ (fun vs h1 z => dctK_mono H z) HX (z p hp)
  | .dctT, σ, h, Q, Q', X, X', H, HX, z => by
    simp only [wpE] at z ⊢
    exact fun p hp => H _ _ (z p hp)
  | .cmpr el t it c vs, σ, h, Q, Q', X, X', H, HX, z => by
    simp only [wpE] at z ⊢
    refine wpIt_mono it σ h _ _ _ _ (fun items ok h1 z D hD => cgo_mono (fun v h k k' Hk z => gset_mono (fun σ' z => wpC_mono c σ' h _ _ _ _ (fun b h2 z => ?_) (fun _ _ z => z) z) z) (fun h z => H _ _ z) _ _ (z D hD)) HX z
    cases b with
    | true => exact wpE_mono el σ' h2 _ _ _ _ (fun y h3 z => Hk _ _ z) (fun _ _ z => z) z
    | false => exact Hk _ _ z
  | .lrng a, σ, h, Q, Q', X, X', H, HX, z => by
    simp only [wpE] at z ⊢
    exact wpE_mono a σ h _ _ _ _ (fun x h1 z => Res.mono H z) HX z
  | .revl a, σ, h, Q, Q', X, X', H, HX, z => by
    simp only [wpE] at z ⊢
    exact wpE_mono a σ h _ _ _ _ (fun x h1 z => Res.mono H z) HX z
  | .srtd a, σ, h, Q, Q', X, X', H, HX, z => by
    simp only [wpE] at z ⊢
    exact wpE_mono a σ h _ _ _ _ (fun x h1 z => Res.mono H z) HX z
  | .isi a cs, σ, h, Q, Q', X, X', H, HX, z => by
    simp only [wpE, L.isi] at z ⊢
    exact wpE_mono a σ h _ _ _ _ (fun x h1 z => Res.mono H z) HX z
  | .xfld f, σ, h, Q, Q', X, X', H, HX, z => by
    simp only [wpE, L.cur, L.exc] at z ⊢
    obtain ⟨i, a, e, z1, z2, z3⟩ := z
    exact ⟨i, a, e, z1, z2, Res.mono H z3⟩
  | .xisi cs, σ, h, Q, Q', X, X', H, HX, z => by
    simp only [wpE, L.cur, L.sub] at z ⊢
    obtain ⟨i, a, e, z1, z2, z3⟩ := z
    exact ⟨i, a, e, z1, z2, Res.mono H z3⟩
  | .srtk a n b, σ, h, Q, Q', X, X', H, HX, z => by
    simp only [wpE] at z ⊢
    refine wpE_mono a σ h _ _ _ _ (fun x h1 z => ?_) HX z
    cases q : lstV x h1 with
    | none => rw [q] at z; exact z
    | some xs =>
      rw [q] at z
      dsimp only at z ⊢
      refine kgo_mono (key := fun v h Q => wpE Γ b (some v :: List.replicate (n - 1) none) h Q fun _ _ => False) (key' := fun v h Q => wpE Γ' b (some v :: List.replicate (n - 1) none) h Q fun _ _ => False) (fun v h Q Q' HQ z => wpE_mono b _ h _ _ _ _ HQ (fun _ _ z => z) z) (fun ks h z => ?_) _ _ _ z
      exact ⟨z.1, z.2.1, fun p hp => H _ _ (z.2.2 p hp)⟩
  | .srtf a f, σ, h, Q, Q', X, X', H, HX, z => by
    simp only [wpE] at z ⊢
    refine wpE_mono a σ h _ _ _ _ (fun x h1 z => ?_) HX z
    cases q : lstV x h1 with
    | none => rw [q] at z; exact z
    | some xs =>
      rw [q] at z
      dsimp only at z ⊢
      refine kgo_mono (key := fun v h Q => Γ.call f [v] h Q fun _ _ => False) (key' := fun v h Q => Γ'.call f [v] h Q fun _ _ => False) (fun v h Q Q' HQ z => L.call _ _ _ _ _ _ _ HQ (fun _ _ z => z) z) (fun ks h z => ?_) _ _ _ z
      exact ⟨z.1, z.2.1, fun p hp => H _ _ (z.2.2 p hp)⟩
  | .cmprD el t e c vs, σ, h, Q, Q', X, X', H, HX, z => by
    simp only [wpE] at z ⊢
    refine wpE_mono e σ h _ _ _ _ (fun x h1 z => lckK_mono (fun a kt kvs z D hD => cgo_mono (fun v h k k' Hk z => gset_mono (fun σ' z => wpC_mono c σ' h _ _ _ _ (fun b h2 z => ?_) (fun _ _ z => z) z) z) (fun h z => H _ _ z) _ _ (z D hD)) z) HX z
    cases b with
    | true => exact wpE_mono el σ' h2 _ _ _ _ (fun y h3 z => Hk _ _ z) (fun _ _ z => z) z
    | false => exact Hk _ _ z
  | .calld f es ds, σ, h, Q, Q', X, X', H, HX, z => by
    simp only [wpE] at z ⊢
    exact wpEs_mono es σ h _ _ _ _ (fun vs h1 z => L.call _ _ _ _ _ _ _ H HX z) HX z
  | .frz e, σ, h, Q, Q', X, X', H, HX, z => by
    simp only [wpE] at z ⊢
    refine wpE_mono e σ h _ _ _ _ (fun v h1 z => ?_) HX z
    unfold frzK at z ⊢
    cases q : frzV v h1 with
    | none => rw [q] at z; exact H _ _ z
    | some p => rw [q] at z; exact H _ _ z
theorem wpEs_mono : ∀ (e : Es) (σ : VS) (h : VH) (Q Q' : List Val → VH → Prop) (X X' : KX), (∀ v h, Q v h → Q' v h) → (∀ e h, X e h → X' e h) → wpEs Γ e σ h Q X → wpEs Γ' e σ h Q' X'
  | .nil, σ, h, Q, Q', X, X', H, HX, z => by
    simp only [wpEs] at z ⊢
    exact H _ _ z
  | .cons e es, σ, h, Q, Q', X, X', H, HX, z => by
    simp only [wpEs] at z ⊢
    exact wpE_mono e σ h _ _ _ _ (fun v h1 z => wpEs_mono es σ h1 _ _ _ _ (fun vs h2 z => H _ _ z) HX z) HX z
theorem wpL_mono (o : Bool) : ∀ (e : Es) (σ : VS) (h : VH) (Q Q' : KV) (X X' : KX), (∀ v h, Q v h → Q' v h) → (∀ e h, X e h → X' e h) → wpL Γ o e σ h Q X → wpL Γ' o e σ h Q' X'
  | .nil, σ, h, Q, Q', X, X', H, HX, z => by
    simp only [wpL] at z
  | .cons e es, σ, h, Q, Q', X, X', H, HX, z => by
    simp only [wpL] at z ⊢
    refine wpE_mono e σ h _ _ _ _ (fun x h1 z => ?_) HX z
    cases es with
    | nil => exact H _ _ z
    | cons e' es' =>
      refine Bes.mono (fun t z => ?_) z
      by_cases q : t = o
      · rw [if_pos q] at z ⊢
        exact wpL_mono o (.cons e' es') σ h1 _ _ _ _ H HX z
      · rw [if_neg q] at z ⊢
        exact H _ _ z
theorem wpO_mono : ∀ (e : O) (σ : VS) (h : VH) (Q Q' : Option Int → VH → Prop) (X X' : KX), (∀ v h, Q v h → Q' v h) → (∀ e h, X e h → X' e h) → wpO Γ e σ h Q X → wpO Γ' e σ h Q' X'
  | .no, σ, h, Q, Q', X, X', H, HX, z => by
    simp only [wpO] at z ⊢
    exact H _ _ z
  | .some e, σ, h, Q, Q', X, X', H, HX, z => by
    simp only [wpO] at z ⊢
    refine wpE_mono e σ h _ _ _ _ (fun x h1 z => ?_) HX z
    cases e : intO x with
    | none => rw [e] at z; exact z
    | some i => rw [e] at z; exact H _ _ z
theorem wpC_mono : ∀ (e : O) (σ : VS) (h : VH) (Q Q' : Bool → VH → Prop) (X X' : KX), (∀ v h, Q v h → Q' v h) → (∀ e h, X e h → X' e h) → wpC Γ e σ h Q X → wpC Γ' e σ h Q' X'
  | .no, σ, h, Q, Q', X, X', H, HX, z => by
    simp only [wpC] at z ⊢
    exact H _ _ z
  | .some e, σ, h, Q, Q', X, X', H, HX, z => by
    simp only [wpC] at z ⊢
    exact wpE_mono e σ h _ _ _ _ (fun x h1 z => onT_mono H z) HX z
theorem wpIt_mono : ∀ (e : It) (σ : VS) (h : VH) (Q Q' : List Val → (VH → Prop) → VH → Prop) (X X' : KX), (∀ v g h, Q v g h → Q' v g h) → (∀ e h, X e h → X' e h) → wpIt Γ e σ h Q X → wpIt Γ' e σ h Q' X'
  | .pl e, σ, h, Q, Q', X, X', H, HX, z => by
    simp only [wpIt] at z ⊢
    exact wpE_mono e σ h _ _ _ _ (fun x h1 z => Src.mono (fun xs g z => H _ _ _ z) z) HX z
  | .r1 e, σ, h, Q, Q', X, X', H, HX, z => by
    simp only [wpIt] at z ⊢
    exact wpE_mono e σ h _ _ _ _ (fun x h1 z => Src.mono (fun xs g z => H _ _ _ z) z) HX z
  | .r2 a b, σ, h, Q, Q', X, X', H, HX, z => by
    simp only [wpIt] at z ⊢
    exact wpE_mono a σ h _ _ _ _ (fun x h1 z => wpE_mono b σ h1 _ _ _ _ (fun x h1 z => Src.mono (fun xs g z => H _ _ _ z) z) HX z) HX z
  | .r3 a b c, σ, h, Q, Q', X, X', H, HX, z => by
    simp only [wpIt] at z ⊢
    exact wpE_mono a σ h _ _ _ _ (fun x h1 z => wpE_mono b σ h1 _ _ _ _ (fun x h1 z => wpE_mono c σ h1 _ _ _ _ (fun x h1 z => Src.mono (fun xs g z => H _ _ _ z) z) HX z) HX z) HX z
  | .en e, σ, h, Q, Q', X, X', H, HX, z => by
    simp only [wpIt] at z ⊢
    exact wpE_mono e σ h _ _ _ _ (fun x h1 z => Src.mono (fun xs g z => H _ _ _ z) z) HX z
  | .zp a b, σ, h, Q, Q', X, X', H, HX, z => by
    simp only [wpIt] at z ⊢
    exact wpE_mono a σ h _ _ _ _ (fun x h1 z => wpE_mono b σ h1 _ _ _ _ (fun x h1 z => Src.mono (fun xs g z => H _ _ _ z) z) HX z) HX z
  | .items e, σ, h, Q, Q', X, X', H, HX, z => by
    simp only [wpIt] at z ⊢
    exact wpE_mono e σ h _ _ _ _ (fun x h1 z => Src.mono (fun xs g z => H _ _ _ z) z) HX z
  | .rv e, σ, h, Q, Q', X, X', H, HX, z => by
    simp only [wpIt] at z ⊢
    exact wpE_mono e σ h _ _ _ _ (fun x h1 z => Src.mono (fun xs g z => H _ _ _ z) z) HX z
end
end
structure Ds.Le (D D' : Ds) : Prop where
  nx : ∀ σ h, D.nx σ h → D'.nx σ h
  rt : ∀ v h, D.rt v h → D'.rt v h
  ex : ∀ e σ h, D.ex e σ h → D'.ex e σ h
mutual
theorem wpS_mono {Γ Γ' : Gam} : ∀ (L : Le Γ Γ') (s : S) (σ : VS) (h : VH) (D D' : Ds), D.Le D' → wpS Γ s σ h D → wpS Γ' s σ h D'
  | L, .exp e, σ, h, D, D', H, z => by
    simp only [wpS] at z ⊢
    exact wpE_mono L e σ h _ _ _ _ (fun _ _ z => H.nx _ _ z) (fun _ _ z => H.ex _ _ _ z) z
  | L, .asg g e, σ, h, D, D', H, z => by
    simp only [wpS] at z ⊢
    exact wpE_mono L e σ h _ _ _ _ (fun _ _ z => gset_mono (fun σ z => H.nx _ _ z) z) (fun _ _ z => H.ex _ _ _ z) z
  | L, .sfl o f e, σ, h, D, D', H, z => by
    simp only [wpS, L.fld] at z ⊢
    exact wpE_mono L e σ h _ _ _ _ (fun _ _ z => wpE_mono L o σ _ _ _ _ _ (fun _ _ z => Res.mono (fun _ _ z => H.nx _ _ z) z) (fun _ _ z => H.ex _ _ _ z) z) (fun _ _ z => H.ex _ _ _ z) z
  | L, .ssb o i e, σ, h, D, D', H, z => by
    simp only [wpS] at z ⊢
    exact wpE_mono L e σ h _ _ _ _ (fun _ _ z => wpE_mono L o σ _ _ _ _ _ (fun _ _ z => wpE_mono L i σ _ _ _ _ _ (fun _ _ z => Res.mono (fun _ _ z => H.nx _ _ z) z) (fun _ _ z => H.ex _ _ _ z) z) (fun _ _ z => H.ex _ _ _ z) z) (fun _ _ z => H.ex _ _ _ z) z
  | L, .aug i op e, σ, h, D, D', H, z => by
    simp only [wpS] at z ⊢
    cases q : sget σ i with
    | none => rw [q] at z; exact z
    | some x =>
      rw [q] at z
      exact wpE_mono L e σ h _ _ _ _ (fun _ _ z => Res.mono (fun _ _ z => H.nx _ _ z) z) (fun _ _ z => H.ex _ _ _ z) z
  | L, .ret e, σ, h, D, D', H, z => by
    simp only [wpS] at z ⊢
    exact wpE_mono L e σ h _ _ _ _ (fun _ _ z => H.rt _ _ z) (fun _ _ z => H.ex _ _ _ z) z
  | L, .ife c a b, σ, h, D, D', H, z => by
    simp only [wpS, wpT] at z ⊢
    exact wpE_mono L c σ h _ _ _ _ (fun _ _ z => onT_mono (fun t h z => by
      cases t with
      | true => exact wpSs_mono L a σ h D D' H z
      | false => exact wpSs_mono L b σ h D D' H z) z) (fun _ _ z => H.ex _ _ _ z) z
  | L, .loop g it body, σ, h, D, D', H, z => by
    simp only [wpS] at z ⊢
    refine wpIt_mono L it σ h _ _ _ _ (fun xs ok h1 (z : fgo (fun v σ h k => gset g v σ fun σ' => wpSs Γ body σ' h { D with nx := k }) ok D.nx xs σ h1) => ?_) (fun _ _ z => H.ex _ _ _ z) z
    exact fgo_mono (body := fun v σ h k => gset g v σ fun σ' => wpSs Γ body σ' h { D with nx := k }) (body' := fun v σ h k => gset g v σ fun σ' => wpSs Γ' body σ' h { D' with nx := k })
      (fun v σ h k k' Hk z => gset_mono (fun σ' z => wpSs_mono L body σ' h { D with nx := k } { D' with nx := k' } ⟨Hk, H.rt, H.ex⟩ z) z) H.nx _ _ _ z
  | L, .loopD g e body, σ, h, D, D', H, z => by
    simp only [wpS] at z ⊢
    refine wpE_mono L e σ h _ _ _ _ (fun x h1 z => lckK_mono (fun a kt kvs z => ?_) z) (fun _ _ z => H.ex _ _ _ z) z
    exact fgo_mono (body := fun v σ h k => gset g v σ fun σ' => wpSs Γ body σ' h { nx := k, rt := fun v h => h a = some (.lck kt kvs) ∧ D.rt v (up h a (.dic kt kvs)), ex := D.ex }) (body' := fun v σ h k => gset g v σ fun σ' => wpSs Γ' body σ' h { nx := k, rt := fun v h => h a = some (.lck kt kvs) ∧ D'.rt v (up h a (.dic kt kvs)), ex := D'.ex })
      (fun v σ h k k' Hk z => gset_mono (fun σ' z => wpSs_mono L body σ' h { nx := k, rt := fun v h => h a = some (.lck kt kvs) ∧ D.rt v (up h a (.dic kt kvs)), ex := D.ex } { nx := k', rt := fun v h => h a = some (.lck kt kvs) ∧ D'.rt v (up h a (.dic kt kvs)), ex := D'.ex } ⟨Hk, fun v h z => ⟨z.1, H.rt _ _ z.2⟩, H.ex⟩ z) z) (fun σ h z => H.nx _ _ z) _ _ _ z
  | L, .whl c body, σ, h, D, D', H, z => by
    simp only [wpS, wpT] at z ⊢
    obtain ⟨n, z⟩ := z
    exact ⟨n, wgo_mono (fun σ h k k' Hk z => wpE_mono L c σ h _ _ _ _ (fun _ _ z => onT_mono Hk z) (fun _ _ z => H.ex _ _ _ z) z) (fun σ h k k' Hk z => wpSs_mono L body σ h { D with nx := k } { D' with nx := k' } ⟨Hk, H.rt, H.ex⟩ z) H.nx n σ h z⟩
  | L, .rai c es, σ, h, D, D', H, z => by
    simp only [wpS, L.exc] at z ⊢
    refine ⟨z.1, wpEs_mono L es σ h _ _ _ _ (fun vs h1 z => ?_) (fun _ _ z => H.ex _ _ _ z) z.2⟩
    exact raiK_mono (fun e h z => H.ex _ _ _ z) z
  | L, .try_ body hs els, σ, h, D, D', H, z => by
    simp only [wpS] at z ⊢
    exact wpSs_mono L body σ h { nx := fun σ h => wpSs Γ els σ h D, rt := D.rt, ex := fun e σ h => wpHs Γ hs e σ h D } { nx := fun σ h => wpSs Γ' els σ h D', rt := D'.rt, ex := fun e σ h => wpHs Γ' hs e σ h D' } ⟨fun σ h z => wpSs_mono L els σ h D D' H z, H.rt, fun e σ h z => wpHs_mono L hs e σ h D D' H z⟩ z
  | L, .pas, σ, h, D, D', H, z => by
    simp only [wpS] at z ⊢
    exact H.nx _ _ z
  | L, .frz i, σ, h, D, D', H, z => by
    simp only [wpS] at z ⊢
    cases q : sget σ i with
    | none => rw [q] at z; exact H.nx _ _ z
    | some v =>
      rw [q] at z
      dsimp only at z ⊢
      cases q2 : frzV v h with
      | none => rw [q2] at z; exact H.nx _ _ z
      | some p => rw [q2] at z; exact H.nx _ _ z
  | L, .nev, σ, h, D, D', H, z => by
    simp only [wpS] at z
  | L, .tryR body c c2 j els, σ, h, D, D', H, z => by
    simp only [wpS, L.sub, L.exc] at z ⊢
    exact ⟨z.1, wpSs_mono L body σ h { nx := fun σ h => wpSs Γ els σ h D, rt := D.rt, ex := fun e σ h => rkK (Γ.sub e.cls c) (sget σ j) (Γ.exc c2) c2 (fun e2 h2 => D.ex e2 σ h2) (D.ex e σ) h } { nx := fun σ h => wpSs Γ' els σ h D', rt := D'.rt, ex := fun e σ h => rkK (Γ.sub e.cls c) (sget σ j) (Γ.exc c2) c2 (fun e2 h2 => D'.ex e2 σ h2) (D'.ex e σ) h }
      ⟨fun σ h z => wpSs_mono L els σ h D D' H z, H.rt, fun e σ h z => rkK_mono (fun e h z => H.ex _ _ _ z) (fun h z => H.ex _ _ _ z) z⟩ z.2⟩
  | L, .thru body els, σ, h, D, D', H, z => by
    simp only [wpS] at z ⊢
    exact wpSs_mono L body σ h { nx := fun σ h => wpSs Γ els σ h D, rt := D.rt, ex := fun _ _ _ => False } { nx := fun σ h => wpSs Γ' els σ h D', rt := D'.rt, ex := fun _ _ _ => False } ⟨fun σ h z => wpSs_mono L els σ h D D' H z, H.rt, fun _ _ _ z => z⟩ z
theorem wpSs_mono {Γ Γ' : Gam} : ∀ (L : Le Γ Γ') (s : Ss) (σ : VS) (h : VH) (D D' : Ds), D.Le D' → wpSs Γ s σ h D → wpSs Γ' s σ h D'
  | L, .nil, σ, h, D, D', H, z => by
    simp only [wpSs] at z ⊢
    exact H.nx _ _ z
  | L, .cons s ss, σ, h, D, D', H, z => by
    simp only [wpSs] at z ⊢
    exact wpS_mono L s σ h { D with nx := fun σ h => wpSs Γ ss σ h D } { D' with nx := fun σ h => wpSs Γ' ss σ h D' } ⟨fun σ h z => wpSs_mono L ss σ h D D' H z, H.rt, H.ex⟩ z
theorem wpHs_mono {Γ Γ' : Gam} : ∀ (L : Le Γ Γ') (s : Hs) (e : Exc) (σ : VS) (h : VH) (D D' : Ds), D.Le D' → wpHs Γ s e σ h D → wpHs Γ' s e σ h D'
  | L, .nil, e, σ, h, D, D', H, z => by
    simp only [wpHs] at z ⊢
    exact H.ex _ _ _ z
  | L, .cons c i b hs, e, σ, h, D, D', H, z => by
    simp only [wpHs, L.sub] at z ⊢
    cases q : Γ.sub e.cls c with
    | none => rw [q] at z; exact z
    | some t =>
      rw [q] at z
      cases t with
      | true =>
        intro a ha
        have z2 := wpSs_mono (Γ := { Γ with cur := some (i, a, e) }) (Γ' := { Γ' with cur := some (i, a, e) }) ⟨L.con, L.mth, L.sub, L.exc, rfl, L.isi, L.fld, L.call⟩ b (sset σ i (some (.ref a))) h { nx := fun σ' h' => D.nx (sset σ' i none) h', rt := D.rt, ex := fun _ _ _ => False } { nx := fun σ' h' => D'.nx (sset σ' i none) h', rt := D'.rt, ex := fun _ _ _ => False } ⟨fun σ' h' z => H.nx _ _ z, H.rt, fun _ _ _ z => z⟩ (z a ha)
        rw [L.sub] at z2
        exact z2
      | false => exact wpHs_mono L hs e σ h D D' H z
end
end MP
end
section
/-! MpD: how the values and the heap of MpA stand for those of the layer. -/
namespace MP
open PySem PySem.Spec PyProof.Rows L2
/-- where the program's classes and functions stand -/
structure Tb where
  cls : String → Addr
  fn : String → Addr
  tabs : List (Addr × Str) := []
  cps : List (Addr × Addr) := []
abbrev Frag := PySem.W.Frag
/-- a list that is never written -/
def RoL (K : Frag) (H : Hp) (a : Addr) (ys : List V) : Prop := (∃ o, H a = some (.frz o (.lst ys))) ∨
  ∃ (o : PySem.Obj) (its : Array Value) (n : Nat), K.lookup a = some o ∧ o.cls = .type "list" ∧ o.dict = none ∧ o.data = .seq its n ∧ its.size ≤ sizeLine ∧ Vals ys its.toList
theorem RoL.sq {K : Frag} {H : Hp} {a : Addr} {ys : List V} (h : RoL K H a ys) : SqL K H a ys := h.elim (fun h => .inl (.inr h)) .inr
/-- what is locked for good -/
def Fz : HO → Prop
  | .lst _ => True
  | .tup _ => True
  | _ => False
/-- what values need that they stand for the same -/
structure HLw (H H' : Hp) : Prop where
  tup : ∀ b xs, H b = some (.tup xs) → H' b = some (.tup xs)
  frz : ∀ b o u, H b = some (.frz o u) → Fz u → H' b = some (.frz o u)
structure HLe (H H' : Hp) : Prop where
  tup : ∀ b xs, H b = some (.tup xs) → H' b = some (.tup xs)
  frz : ∀ b o u, H b = some (.frz o u) → H' b = some (.frz o u)
  ext : ∀ b φ, H b = some (.ext φ) → H' b = some (.ext φ)
theorem HLe.w {H H' : Hp} (l : HLe H H') : HLw H H' := ⟨l.tup, fun b o u h _ => l.frz b o u h⟩
theorem HLe.refl {H : Hp} : HLe H H := ⟨fun _ _ h => h, fun _ _ _ h => h, fun _ _ h => h⟩
theorem HLe.trans {H H1 H2 : Hp} (a : HLe H H1) (b : HLe H1 H2) : HLe H H2 := ⟨fun c xs h => b.tup c xs (a.tup c xs h), fun c o u h => b.frz c o u (a.frz c o u h), fun c φ h => b.ext c φ (a.ext c φ h)⟩
theorem HLe.new {H : Hp} {p : Addr} {o : HO} (hp : H p = none) : HLe H (upd H p o) :=
  ⟨fun b xs h => by rw [upd_ne (ne_of_none h hp)]; exact h, fun b o u h => by rw [upd_ne (ne_of_none h hp)]; exact h, fun b φ h => by rw [upd_ne (ne_of_none h hp)]; exact h⟩
/-- all is kept but the tables -/
theorem HLe.extN {H H' : Hp} (e : LamX.ExtN H H') : HLe H H' := ⟨fun b xs h => e b _ h (fun _ z => nomatch z), fun b o u h => e b _ h (fun _ z => nomatch z), fun b φ h => e b _ h (fun _ z => nomatch z)⟩
theorem HLe.keep {H H' : Hp} (e : ∀ b o, H b = some o → H' b = some o) : HLe H H' := ⟨fun b xs h => e b _ h, fun b o u h => e b _ h, fun b φ h => e b _ h⟩
/-- a thing that is no tuple, not locked for good, no table, is changed -/
def Free : HO → Prop
  | .tup _ => False
  | .frz _ _ => False
  | .tbl _ => False
  | .ext _ => False
  | _ => True
theorem HLe.put {H : Hp} {p : Addr} {o u : HO} (hp : H p = some u) (f : Free u) : HLe H (upd H p o) := by
  refine ⟨fun b xs h => ?_, fun b o' u' h => ?_, fun b φ h => ?_⟩
  · rw [upd_ne]
    · exact h
    · rintro rfl
      rw [hp] at h
      cases h
      exact f
  · rw [upd_ne]
    · exact h
    · rintro rfl
      rw [hp] at h
      cases h
      exact f
  · rw [upd_ne]
    · exact h
    · rintro rfl
      rw [hp] at h
      cases h
      exact f
theorem tabs_new {H : Hp} {p : Addr} {o : HO} {L : List (Addr × Str)} (hp : H p = none) (t : LamX.Tabs L H) : LamX.Tabs L (upd H p o) := t.ext fun b u e => by rw [upd_ne (ne_of_none e hp)]; exact e
theorem tabs_put {H : Hp} {p : Addr} {o u : HO} {L : List (Addr × Str)} (hp : H p = some u) (f : Free u) (t : LamX.Tabs L H) : LamX.Tabs L (upd H p o) := fun q hq => by
  obtain ⟨ps, h1, h2, h3⟩ := t q hq
  refine ⟨ps, ?_, h2, fun pos cv hc => ?_⟩
  · rw [upd_ne]
    · exact h1
    · rintro rfl
      rw [hp] at h1
      cases h1
      exact f
  · obtain ⟨c, e1, e2⟩ := h3 pos cv hc
    refine ⟨c, e1, ?_⟩
    rw [upd_ne]
    · exact e2
    · rintro rfl
      rw [hp] at e2
      cases e2
      exact f
theorem SqT.lew {K : Frag} {H H' : Hp} {a : Addr} {ys : List V} (L : HLw H H') (h : SqT K H a ys) : SqT K H' a ys := by
  rcases h with (h | ⟨o, h⟩) | h
  · exact .inl (.inl (L.tup _ _ h))
  · exact .inl (.inr ⟨o, L.frz _ _ _ h True.intro⟩)
  · exact .inr h
theorem RoL.lew {K : Frag} {H H' : Hp} {a : Addr} {ys : List V} (L : HLw H H') (h : RoL K H a ys) : RoL K H' a ys := by
  rcases h with ⟨o, h⟩ | h
  · exact .inl ⟨o, L.frz _ _ _ h True.intro⟩
  · exact .inr h
theorem SqT.le {K : Frag} {H H' : Hp} {a : Addr} {ys : List V} (L : HLe H H') (h : SqT K H a ys) : SqT K H' a ys := SqT.lew L.w h
theorem RoL.le {K : Frag} {H H' : Hp} {a : Addr} {ys : List V} (L : HLe H H') (h : RoL K H a ys) : RoL K H' a ys := RoL.lew L.w h
section
variable (T : Tb) (K : Frag) (H : Hp)
mutual
def RV : Val → V → Prop
  | .non, v => v = .non
  | .bl b, v => v = .bl b
  | .int i, v => v = .int i
  | .str x, v => v = .str ⟨x.toArray⟩ ∧ x.length ≤ SZ
  | .tup xs, v => ∃ a ys, v = .ref a ∧ H a = some (.tup ys) ∧ RVs xs ys
  | .rls xs, v => ∃ a ys, v = .ref a ∧ RoL K H a ys ∧ RVs xs ys
  | .ref a, v => v = .ref a
  | .fn l, v => v = .ref (T.fn l)
  | .ktp xs, v => ∃ a ys, v = .ref a ∧ SqT K H a ys ∧ RVs xs ys
def RVs : List Val → List V → Prop
  | [], vs => vs = []
  | x :: xs, vs => ∃ v r, vs = v :: r ∧ RV x v ∧ RVs xs r
end
def RF : List (String × Val) → List (Str × V) → Prop
  | [], gs => gs = []
  | (f, x) :: fs, gs => ∃ v r, gs = (Str.ofString f, v) :: r ∧ RV T K H x v ∧ RF fs r
end
section
variable {T : Tb} {K : Frag} {H H' : Hp}
mutual
theorem RV.lew (L : HLw H H') : ∀ {x : Val} {v : V}, RV T K H x v → RV T K H' x v
  | .non, _, h => by simpa [RV] using h
  | .bl _, _, h => by simpa [RV] using h
  | .int _, _, h => by simpa [RV] using h
  | .str _, _, h => by simpa [RV] using h
  | .tup xs, v, h => by
    rw [RV] at h ⊢
    obtain ⟨a, ys, h1, h2, h3⟩ := h
    exact ⟨a, ys, h1, L.tup _ _ h2, RVs.lew L h3⟩
  | .rls xs, v, h => by
    rw [RV] at h ⊢
    obtain ⟨a, ys, h1, h2, h3⟩ := h
    exact ⟨a, ys, h1, RoL.lew L h2, RVs.lew L h3⟩
  | .ref _, _, h => by simpa [RV] using h
  | .fn _, _, h => by simpa [RV] using h
  | .ktp xs, v, h => by
    rw [RV] at h ⊢
    obtain ⟨a, ys, h1, h2, h3⟩ := h
    exact ⟨a, ys, h1, SqT.lew L h2, RVs.lew L h3⟩
theorem RVs.lew (L : HLw H H') : ∀ {xs : List Val} {vs : List V}, RVs T K H xs vs → RVs T K H' xs vs
  | [], _, h => by simpa [RVs] using h
  | x :: xs, vs, h => by
    rw [RVs] at h ⊢
    obtain ⟨v, r, h1, h2, h3⟩ := h
    exact ⟨v, r, h1, RV.lew L h2, RVs.lew L h3⟩
end
theorem RF.lew (L : HLw H H') : ∀ {xs : List (String × Val)} {vs : List (Str × V)}, RF T K H xs vs → RF T K H' xs vs
  | [], _, h => h
  | (f, x) :: xs, vs, h => by
    obtain ⟨v, r, h1, h2, h3⟩ := h
    exact ⟨v, r, h1, h2.lew L, RF.lew L h3⟩
theorem RV.le (L : HLe H H') {x : Val} {v : V} (h : RV T K H x v) : RV T K H' x v := RV.lew L.w h
theorem RVs.le (L : HLe H H') {x : List Val} {v : List V} (h : RVs T K H x v) : RVs T K H' x v := RVs.lew L.w h
theorem RF.le (L : HLe H H') {x : List (String × Val)} {v : List (Str × V)} (h : RF T K H x v) : RF T K H' x v := RF.lew L.w h
theorem RVs.nil : RVs T K H [] [] := by rw [RVs]
theorem RVs.cons {x : Val} {xs : List Val} {v : V} {vs : List V} (h : RV T K H x v) (r : RVs T K H xs vs) : RVs T K H (x :: xs) (v :: vs) := by rw [RVs]; exact ⟨v, vs, rfl, h, r⟩
theorem RVs.of_nil {vs : List V} (h : RVs T K H [] vs) : vs = [] := by rw [RVs] at h; exact h
theorem RVs.of_cons {x : Val} {xs : List Val} {vs : List V} (h : RVs T K H (x :: xs) vs) : ∃ v r, vs = v :: r ∧ RV T K H x v ∧ RVs T K H xs r := by rw [RVs] at h; exact h
theorem RVs.length : ∀ {xs : List Val} {vs : List V}, RVs T K H xs vs → xs.length = vs.length
  | [], vs, h => by rw [h.of_nil]; rfl
  | x :: xs, vs, h => by obtain ⟨v, r, rfl, _, h3⟩ := h.of_cons; rw [List.length_cons, List.length_cons, h3.length]
theorem RVs.append : ∀ {xs ys : List Val} {vs ws : List V}, RVs T K H xs vs → RVs T K H ys ws → RVs T K H (xs ++ ys) (vs ++ ws)
  | [], ys, vs, ws, h, g => by rw [h.of_nil]; exact g
  | x :: xs, ys, vs, ws, h, g => by obtain ⟨v, r, rfl, h2, h3⟩ := h.of_cons; exact .cons h2 (h3.append g)
theorem RVs.get : ∀ {xs : List Val} {vs : List V} {i : Nat} {x : Val}, RVs T K H xs vs → xs[i]? = some x → ∃ v, vs[i]? = some v ∧ RV T K H x v
  | [], _, _, _, _, e => by simp at e
  | y :: xs, vs, 0, x, h, e => by
    obtain ⟨v, r, rfl, h2, h3⟩ := h.of_cons
    simp at e
    subst e
    exact ⟨v, rfl, h2⟩
  | y :: xs, vs, i + 1, x, h, e => by
    obtain ⟨v, r, rfl, h2, h3⟩ := h.of_cons
    simpa using h3.get (i := i) (x := x) (by simpa using e)
theorem RVs.set : ∀ {xs : List Val} {vs : List V} (i : Nat) {x : Val} {v : V}, RV T K H x v → RVs T K H xs vs → RVs T K H (xs.set i x) (vs.set i v)
  | [], _, _, _, _, _, h => by rw [h.of_nil]; exact .nil
  | y :: xs, vs, 0, x, v, r, h => by
    obtain ⟨w, s, rfl, h2, h3⟩ := h.of_cons
    exact .cons r h3
  | y :: xs, vs, i + 1, x, v, r, h => by
    obtain ⟨w, s, rfl, h2, h3⟩ := h.of_cons
    exact .cons h2 (h3.set i r)
theorem RVs.take : ∀ {xs : List Val} {vs : List V} (n : Nat), RVs T K H xs vs → RVs T K H (xs.take n) (vs.take n)
  | _, _, 0, _ => .nil
  | [], _, _ + 1, h => by rw [h.of_nil]; exact .nil
  | x :: xs, vs, n + 1, h => by
    obtain ⟨w, s, rfl, h2, h3⟩ := h.of_cons
    exact .cons h2 (h3.take n)
theorem RVs.drop : ∀ {xs : List Val} {vs : List V} (n : Nat), RVs T K H xs vs → RVs T K H (xs.drop n) (vs.drop n)
  | _, _, 0, h => h
  | [], _, _ + 1, h => by rw [h.of_nil]; exact .nil
  | x :: xs, vs, n + 1, h => by
    obtain ⟨w, s, rfl, h2, h3⟩ := h.of_cons
    exact h3.drop n
/-! ### dicts -/
def ofK : Key → Val
  | .inl i => .int i
  | .inr x => .str x.cps.toList
def okK : Key → Prop
  | .inl _ => True
  | .inr x => x.cps.toList.length ≤ SZ
section
variable (T : Tb) (K : Frag) (H : Hp)
def RD : List (Val × Val) → List (Key × V) → Prop
  | [], ks => ks = []
  | (k, v) :: r, ks => ∃ j y s, ks = (j, y) :: s ∧ k = ofK j ∧ okK j ∧ RV T K H v y ∧ RD r s
def RDt : List (Val × Val) → List (List Key × V) → Prop
  | [], ks => ks = []
  | (k, v) :: r, ks => ∃ j y s, ks = (j, y) :: s ∧ k = .tup (j.map ofK) ∧ (∀ i ∈ j, okK i) ∧ RV T K H v y ∧ RDt r s
end
theorem RD.lew (L : HLw H H') : ∀ {xs : List (Val × Val)} {ks : List (Key × V)}, RD T K H xs ks → RD T K H' xs ks
  | [], _, h => h
  | (k, v) :: r, _, ⟨j, y, s, e, h1, h2, h3, h4⟩ => ⟨j, y, s, e, h1, h2, h3.lew L, h4.lew L⟩
theorem RDt.lew (L : HLw H H') : ∀ {xs : List (Val × Val)} {ks : List (List Key × V)}, RDt T K H xs ks → RDt T K H' xs ks
  | [], _, h => h
  | (k, v) :: r, _, ⟨j, y, s, e, h1, h2, h3, h4⟩ => ⟨j, y, s, e, h1, h2, h3.lew L, h4.lew L⟩
theorem RD.le (L : HLe H H') {xs : List (Val × Val)} {ks : List (Key × V)} (h : RD T K H xs ks) : RD T K H' xs ks := RD.lew L.w h
theorem RDt.le (L : HLe H H') {xs : List (Val × Val)} {ks : List (List Key × V)} (h : RDt T K H xs ks) : RDt T K H' xs ks := RDt.lew L.w h
theorem ofK_inj : ∀ {a b : Key}, ofK a = ofK b → a = b
  | .inl i, .inl j, e => by injection e with e; rw [e]
  | .inr x, .inr y, e => by
    injection e with e
    obtain ⟨⟨x⟩⟩ := x
    obtain ⟨⟨y⟩⟩ := y
    have : x = y := e
    rw [this]
  | .inl _, .inr _, e => by cases e
  | .inr _, .inl _, e => by cases e
theorem ofKs_inj : ∀ {a b : List Key}, a.map ofK = b.map ofK → a = b
  | [], [], _ => rfl
  | x :: a, y :: b, e => by
    rw [List.map_cons, List.map_cons] at e
    injection e with e1 e2
    rw [ofK_inj e1, ofKs_inj e2]
  | [], _ :: _, e => by cases e
  | _ :: _, [], e => by cases e
theorem rv_leaf {k : Val} {y : V} (h : RV T K H k y) (z : leafK k = true) : ∃ j, k = ofK j ∧ okK j ∧ y = kV j := by
  cases k with
  | int i => rw [RV] at h; exact ⟨.inl i, rfl, True.intro, h⟩
  | str x => rw [RV] at h; exact ⟨.inr ⟨x.toArray⟩, rfl, h.2, h.1⟩
  | _ => cases z
theorem rv_leafs : ∀ {ks : List Val} {ys : List V}, RVs T K H ks ys → ks.all leafK = true → ∃ js : List Key, ks = js.map ofK ∧ (∀ i ∈ js, okK i) ∧ ys = js.map kV
  | [], ys, h, _ => ⟨[], rfl, (fun _ m => nomatch m), by rw [RVs] at h; rw [h]; rfl⟩
  | k :: ks, ys, h, z => by
    rw [RVs] at h
    obtain ⟨v, r, rfl, h1, h2⟩ := h
    rw [List.all_cons, Bool.and_eq_true] at z
    obtain ⟨j, rfl, q1, rfl⟩ := rv_leaf h1 z.1
    obtain ⟨js, rfl, q2, rfl⟩ := rv_leafs h2 z.2
    exact ⟨j :: js, rfl, fun i hi => by rcases List.mem_cons.mp hi with rfl | hi; exact q1; exact q2 i hi, rfl⟩
theorem of_rv {j : Key} (h : okK j) : RV T K H (ofK j) (kV j) := by
  cases j with
  | inl i => show RV T K H (.int i) _; rw [RV]; rfl
  | inr x => show RV T K H (.str x.cps.toList) _; rw [RV]; exact ⟨rfl, h⟩
/-- two look-ups that say the same -/
def RVo (T : Tb) (K : Frag) (H : Hp) : Option Val → Option V → Prop
  | none, none => True
  | some v, some y => RV T K H v y
  | _, _ => False
theorem RD.look {j : Key} : ∀ {xs : List (Val × Val)} {ks : List (Key × V)}, RD T K H xs ks → RVo T K H (dlook (ofK j) xs) (valV ks j)
  | [], _, h => by cases h; exact True.intro
  | (k, v) :: r, _, ⟨i, y, s, e, h1, h2, h3, h4⟩ => by
    subst e h1
    unfold dlook
    by_cases q : ofK j = ofK i
    · rw [if_pos q, valV_pos (show (i, y).1 = j from (ofK_inj q).symm)]
      exact h3
    · rw [if_neg q, valV_neg (show ¬ (i, y).1 = j from fun e => q (by rw [← e]))]
      exact h4.look
theorem RDt.look {j : List Key} : ∀ {xs : List (Val × Val)} {ks : List (List Key × V)}, RDt T K H xs ks → RVo T K H (dlook (.tup (j.map ofK)) xs) (valV ks j)
  | [], _, h => by cases h; exact True.intro
  | (k, v) :: r, _, ⟨i, y, s, e, h1, h2, h3, h4⟩ => by
    subst e h1
    unfold dlook
    by_cases q : Val.tup (j.map ofK) = .tup (i.map ofK)
    · rw [if_pos q, valV_pos (show (i, y).1 = j from (ofKs_inj (by injection q)).symm)]
      exact h3
    · rw [if_neg q, valV_neg (show ¬ (i, y).1 = j from fun e => q (by rw [← e]))]
      exact h4.look
theorem RD.any {j : Key} : ∀ {xs : List (Val × Val)} {ks : List (Key × V)}, RD T K H xs ks → (xs.any fun p => decide (p.1 = ofK j)) = ks.any fun p => decide (p.1 = j)
  | [], _, h => by cases h; rfl
  | (k, v) :: r, _, ⟨i, y, s, e, h1, h2, h3, h4⟩ => by
    subst e h1
    rw [List.any_cons, List.any_cons, h4.any]
    congr 1
    exact decide_eq_decide.mpr ⟨fun e => ofK_inj e, fun e => by show ofK i = ofK j; rw [show i = j from e]⟩
theorem RDt.any {j : List Key} : ∀ {xs : List (Val × Val)} {ks : List (List Key × V)}, RDt T K H xs ks → (xs.any fun p => decide (p.1 = .tup (j.map ofK))) = ks.any fun p => decide (p.1 = j)
  | [], _, h => by cases h; rfl
  | (k, v) :: r, _, ⟨i, y, s, e, h1, h2, h3, h4⟩ => by
    subst e h1
    rw [List.any_cons, List.any_cons, h4.any]
    congr 1
    exact decide_eq_decide.mpr ⟨fun e => ofKs_inj (by injection e), fun e => by show Val.tup (i.map ofK) = .tup (j.map ofK); rw [show i = j from e]⟩
theorem RD.repl {j : Key} {v : Val} {y : V} (rv : RV T K H v y) : ∀ {xs : List (Val × Val)} {ks : List (Key × V)}, RD T K H xs ks → RD T K H (xs.map fun p => if p.1 = ofK j then (p.1, v) else p) (ks.map fun p => if p.1 = j then (p.1, y) else p)
  | [], _, h => by cases h; rfl
  | (k, w) :: r, _, ⟨i, z, s, e, h1, h2, h3, h4⟩ => by
    subst e h1
    rw [List.map_cons, List.map_cons]
    by_cases q : i = j
    · subst q
      rw [if_pos rfl, if_pos rfl]
      exact ⟨i, y, _, rfl, rfl, h2, rv, h4.repl rv⟩
    · rw [if_neg (fun e => q (ofK_inj e)), if_neg q]
      exact ⟨i, z, _, rfl, rfl, h2, h3, h4.repl rv⟩
theorem RDt.repl {j : List Key} {v : Val} {y : V} (rv : RV T K H v y) : ∀ {xs : List (Val × Val)} {ks : List (List Key × V)}, RDt T K H xs ks → RDt T K H (xs.map fun p => if p.1 = .tup (j.map ofK) then (p.1, v) else p) (ks.map fun p => if p.1 = j then (p.1, y) else p)
  | [], _, h => by cases h; rfl
  | (k, w) :: r, _, ⟨i, z, s, e, h1, h2, h3, h4⟩ => by
    subst e h1
    rw [List.map_cons, List.map_cons]
    by_cases q : i = j
    · subst q
      rw [if_pos rfl, if_pos rfl]
      exact ⟨i, y, _, rfl, rfl, h2, rv, h4.repl rv⟩
    · rw [if_neg (fun e => q (ofKs_inj (by injection e))), if_neg q]
      exact ⟨i, z, _, rfl, rfl, h2, h3, h4.repl rv⟩
theorem RD.snoc {j : Key} {v : Val} {y : V} (hj : okK j) (rv : RV T K H v y) : ∀ {xs : List (Val × Val)} {ks : List (Key × V)}, RD T K H xs ks → RD T K H (xs ++ [(ofK j, v)]) (ks ++ [(j, y)])
  | [], _, h => by cases h; exact ⟨j, y, [], rfl, rfl, hj, rv, rfl⟩
  | (k, w) :: r, _, ⟨i, z, s, e, h1, h2, h3, h4⟩ => by
    subst e
    exact ⟨i, z, _, rfl, h1, h2, h3, h4.snoc hj rv⟩
theorem RDt.snoc {j : List Key} {v : Val} {y : V} (hj : ∀ i ∈ j, okK i) (rv : RV T K H v y) : ∀ {xs : List (Val × Val)} {ks : List (List Key × V)}, RDt T K H xs ks → RDt T K H (xs ++ [(.tup (j.map ofK), v)]) (ks ++ [(j, y)])
  | [], _, h => by cases h; exact ⟨j, y, [], rfl, rfl, hj, rv, rfl⟩
  | (k, w) :: r, _, ⟨i, z, s, e, h1, h2, h3, h4⟩ => by
    subst e
    exact ⟨i, z, _, rfl, h1, h2, h3, h4.snoc hj rv⟩
theorem RD.put {j : Key} {v : Val} {y : V} (hj : okK j) (rv : RV T K H v y) {xs : List (Val × Val)} {ks : List (Key × V)} (r : RD T K H xs ks) : RD T K H (dput (ofK j) v xs) (putK ks j y) := by
  unfold dput putK
  rw [r.any]
  split
  · exact r.repl rv
  · exact r.snoc hj rv
theorem RDt.put {j : List Key} {v : Val} {y : V} (hj : ∀ i ∈ j, okK i) (rv : RV T K H v y) {xs : List (Val × Val)} {ks : List (List Key × V)} (r : RDt T K H xs ks) : RDt T K H (dput (.tup (j.map ofK)) v xs) (putK ks j y) := by
  unfold dput putK
  rw [r.any]
  split
  · exact r.repl rv
  · exact r.snoc hj rv
theorem RD.len : ∀ {xs : List (Val × Val)} {ks : List (Key × V)}, RD T K H xs ks → xs.length = ks.length
  | [], _, h => by cases h; rfl
  | (k, w) :: r, _, ⟨i, z, s, e, h1, h2, h3, h4⟩ => by subst e; rw [List.length_cons, List.length_cons, h4.len]
theorem RDt.len : ∀ {xs : List (Val × Val)} {ks : List (List Key × V)}, RDt T K H xs ks → xs.length = ks.length
  | [], _, h => by cases h; rfl
  | (k, w) :: r, _, ⟨i, z, s, e, h1, h2, h3, h4⟩ => by subst e; rw [List.length_cons, List.length_cons, h4.len]
/-- a dict and what stands for it -/
def RDo (T : Tb) (K : Frag) (H : Hp) (t : Bool) (kvs : List (Val × Val)) (o : HO) : Prop := match t with
  | false => ∃ ks, o = .dK ks ∧ RD T K H kvs ks
  | true => ∃ ks, o = .dT ks ∧ RDt T K H kvs ks
theorem RDo.lew (L : HLw H H') {t : Bool} {kvs : List (Val × Val)} {o : HO} (h : RDo T K H t kvs o) : RDo T K H' t kvs o := by
  cases t with
  | false => obtain ⟨ks, h1, h2⟩ := h; exact ⟨ks, h1, h2.lew L⟩
  | true => obtain ⟨ks, h1, h2⟩ := h; exact ⟨ks, h1, h2.lew L⟩
theorem RDo.le (L : HLe H H') {t : Bool} {kvs : List (Val × Val)} {o : HO} (h : RDo T K H t kvs o) : RDo T K H' t kvs o := RDo.lew L.w h
theorem RDo.free {t : Bool} {kvs : List (Val × Val)} {o : HO} (h : RDo T K H t kvs o) : Free o := by
  cases t with
  | false => obtain ⟨ks, rfl, h2⟩ := h; exact True.intro
  | true => obtain ⟨ks, rfl, h2⟩ := h; exact True.intro
/-- an object and what stands for it -/
def RO (T : Tb) (K : Frag) (H : Hp) : Obj → HO → Prop
  | .lst xs, o => ∃ ys, o = .lst ys ∧ RVs T K H xs ys
  | .ins c fs, o => (∃ dx gs, o = .ins (T.cls c) dx gs ∧ RF T K H fs gs) ∧ (Cls K (T.cls c) ∧ bltTy c = false) ∧ ∀ p ∈ fs, NoAttr K (T.cls c) (Str.ofString p.1)
  | .dic t kvs, o => RDo T K H t kvs o
  | .xd fs, o => ∃ gs, o = .xd gs ∧ RF T K H fs gs
  | .lck t kvs, o => ∃ od u, o = .frz od u ∧ RDo T K H t kvs u
theorem RO.lew (L : HLw H H') {x : Obj} {o : HO} (h : RO T K H x o) : RO T K H' x o := by
  cases x with
  | lst xs => obtain ⟨ys, h1, h2⟩ := h; exact ⟨ys, h1, h2.lew L⟩
  | ins c fs => obtain ⟨⟨dx, gs, h1, h2⟩, h3⟩ := h; exact ⟨⟨dx, gs, h1, h2.lew L⟩, h3⟩
  | dic t kvs => exact RDo.lew L h
  | xd fs => obtain ⟨gs, h1, h2⟩ := h; exact ⟨gs, h1, h2.lew L⟩
  | lck t kvs => obtain ⟨od, u, h1, h2⟩ := h; exact ⟨od, u, h1, h2.lew L⟩
theorem RO.le (L : HLe H H') {x : Obj} {o : HO} (h : RO T K H x o) : RO T K H' x o := RO.lew L.w h
theorem RO.noTbl {x : Obj} {o : HO} (h : RO T K H x o) (ps : Array Value) : o ≠ .tbl ps := by
  intro e
  subst e
  cases x with
  | lst xs => obtain ⟨ys, q, h2⟩ := h; cases q
  | ins c fs => obtain ⟨⟨dx, gs, q, h2⟩, _⟩ := h; cases q
  | dic t kvs => exact RDo.free h
  | xd fs => obtain ⟨gs, q, h2⟩ := h; cases q
  | lck t kvs => obtain ⟨od, u, q, h2⟩ := h; cases q
structure RH (T : Tb) (K : Frag) (h : VH) (H : Hp) : Prop where
  obj : ∀ a o, h a = some o → ∃ u, H a = some u ∧ RO T K H o u
  tabs : LamX.Tabs T.tabs H
instance {T : Tb} {K : Frag} {h : VH} {H : Hp} : CoeFun (RH T K h H) (fun _ => ∀ a o, h a = some o → ∃ u, H a = some u ∧ RO T K H o u) := ⟨fun r => r.obj⟩
theorem RH.fresh {h : VH} {p : Addr} (r : RH T K h H) (hp : H p = none) : h p = none := by
  cases e : h p with
  | none => rfl
  | some o =>
    obtain ⟨u, e2, _⟩ := r.obj p o e
    rw [hp] at e2
    cases e2
theorem RH.new {h : VH} {p : Addr} {x : Obj} {o : HO} (r : RH T K h H) (hp : H p = none) (ro : RO T K (upd H p o) x o) : RH T K (up h p x) (upd H p o) := ⟨fun a y e => by
  unfold up at e
  by_cases q : a = p
  · subst q
    rw [if_pos rfl] at e
    cases e
    exact ⟨o, upd_same, ro⟩
  · rw [if_neg q] at e
    obtain ⟨u, e2, r2⟩ := r.obj a y e
    exact ⟨u, by rw [upd_ne q]; exact e2, r2.le (.new hp)⟩, tabs_new hp r.tabs⟩
theorem RH.put {h : VH} {p : Addr} {x : Obj} {o u : HO} (r : RH T K h H) (hp : H p = some u) (f : Free u) (ro : RO T K (upd H p o) x o) : RH T K (up h p x) (upd H p o) := ⟨fun a y e => by
  unfold up at e
  by_cases q : a = p
  · subst q
    rw [if_pos rfl] at e
    cases e
    exact ⟨o, upd_same, ro⟩
  · rw [if_neg q] at e
    obtain ⟨u, e2, r2⟩ := r.obj a y e
    exact ⟨u, by rw [upd_ne q]; exact e2, r2.le (.put hp f)⟩, tabs_put hp f r.tabs⟩
/-- an object of the layer's own (a tuple, an own dict) comes -/
theorem RH.side {h : VH} {p : Addr} {o : HO} (r : RH T K h H) (hp : H p = none) : RH T K h (upd H p o) := ⟨fun a y e => by
  obtain ⟨u, e2, r2⟩ := r.obj a y e
  exact ⟨u, by rw [upd_ne (ne_of_none e2 hp)]; exact e2, r2.le (.new hp)⟩, tabs_new hp r.tabs⟩
/-- things come, the tables stay right -/
theorem RH.more {h : VH} {H' : Hp} (r : RH T K h H) (e : LamX.ExtN H H') (t : LamX.Tabs T.tabs H') : RH T K h H' := ⟨fun a y q => by
  obtain ⟨u, e2, r2⟩ := r.obj a y q
  refine ⟨u, e a u e2 (fun ps z => ?_), r2.le (.extN e)⟩
  exact r2.noTbl ps z, t⟩
/-- an object is known as a value -/
theorem RH.frz {h : VH} {p : Addr} {ys : List V} {od : PySem.Obj} (r : RH T K h H) (hp : H p = some (.lst ys)) : RH T K (del h p) (upd H p (.frz od (.lst ys))) := ⟨fun a y e => by
  unfold del at e
  by_cases q : a = p
  · rw [if_pos q] at e; cases e
  · rw [if_neg q] at e
    obtain ⟨u, e2, r2⟩ := r.obj a y e
    exact ⟨u, by rw [upd_ne q]; exact e2, r2.le (.put hp True.intro)⟩, tabs_put hp True.intro r.tabs⟩
theorem HLe.lock {d : Addr} {od : PySem.Obj} {u : HO} (h : H d = some u) (f : Free u) : HLe H (upd H d (.frz od u)) := .put h f
/-- a dict is locked -/
theorem RH.lock {h : VH} {d : Addr} {t : Bool} {kvs : List (Val × Val)} {u : HO} {od : PySem.Obj} (r : RH T K h H) (e : h d = some (.dic t kvs)) (hd : H d = some u) : RH T K (up h d (.lck t kvs)) (upd H d (.frz od u)) := by
  obtain ⟨u', e2, ro⟩ := r.obj d _ e
  rw [hd] at e2
  cases e2
  have f : Free u := RDo.free ro
  exact r.put hd f ⟨od, u, rfl, RDo.le (.put hd f) ro⟩
theorem HLw.unlock {d : Addr} {od : PySem.Obj} {u : HO} (h : H d = some (.frz od u)) (n : ¬ Fz u) : HLw H (upd H d u) := by
  refine ⟨fun b xs e => ?_, fun b o' u' e fz => ?_⟩
  · rw [upd_ne]
    · exact e
    · rintro rfl
      rw [h] at e
      cases e
  · rw [upd_ne]
    · exact e
    · rintro rfl
      rw [h] at e
      cases e
      exact n fz
theorem RDo.nofz {t : Bool} {kvs : List (Val × Val)} {o : HO} (h : RDo T K H t kvs o) : ¬ Fz o := by
  cases t with
  | false => obtain ⟨ks, rfl, h2⟩ := h; exact id
  | true => obtain ⟨ks, rfl, h2⟩ := h; exact id
/-- .. and open again -/
theorem RH.unlock {h : VH} {d : Addr} {t : Bool} {kvs : List (Val × Val)} {u : HO} {od : PySem.Obj} (r : RH T K h H) (e : h d = some (.lck t kvs)) (hd : H d = some (.frz od u)) : ¬ Fz u ∧ RH T K (up h d (.dic t kvs)) (upd H d u) := by
  obtain ⟨u', e2, od', u2, q, ro⟩ := r.obj d _ e
  subst q
  rw [hd] at e2
  cases e2
  have n := ro.nofz
  have l : HLw H (upd H d u) := .unlock hd n
  refine ⟨n, fun a y e => ?_, fun p hp => ?_⟩
  · unfold up at e
    by_cases q : a = d
    · subst q
      rw [if_pos rfl] at e
      cases e
      exact ⟨u, upd_same, RDo.lew l ro⟩
    · rw [if_neg q] at e
      obtain ⟨u3, e3, r3⟩ := r.obj a y e
      exact ⟨u3, by rw [upd_ne q]; exact e3, r3.lew l⟩
  · obtain ⟨ps, h1, h2, h3⟩ := r.tabs p hp
    refine ⟨ps, ?_, h2, fun pos cv hc => ?_⟩
    · rw [upd_ne]
      · exact h1
      · intro z
        rw [z, hd] at h1
        cases h1
    · obtain ⟨c, e1, e2⟩ := h3 pos cv hc
      refine ⟨c, e1, ?_⟩
      rw [upd_ne]
      · exact e2
      · intro z
        rw [z, hd] at e2
        cases e2
/-- from ahead of the lock to behind it -/
theorem HLe.over {H1 H2 : Hp} {d : Addr} {od : PySem.Obj} {u : HO} (h : H1 d = some u) (f : Free u) (l : HLe (upd H1 d (.frz od u)) H2) : HLe H1 (upd H2 d u) := by
  have k : ∀ b o, H1 b = some o → ¬ Free o → b ≠ d := fun b o e n z => by
    rw [z, h] at e
    cases e
    exact n f
  refine ⟨fun b xs e => ?_, fun b o' u' e => ?_, fun b φ e => ?_⟩
  · have n := k b _ e id
    rw [upd_ne n]
    exact l.tup b xs (by rw [upd_ne n]; exact e)
  · have n := k b _ e id
    rw [upd_ne n]
    exact l.frz b o' u' (by rw [upd_ne n]; exact e)
  · have n := k b _ e id
    rw [upd_ne n]
    exact l.ext b φ (by rw [upd_ne n]; exact e)
/-- slots -/
def RS (T : Tb) (K : Frag) (H : Hp) (σv : VS) (σ : L2.St) : Prop := σv.length = σ.length ∧ ∀ i x, sget σv i = some x → ∃ v, σ[i]? = some (some v) ∧ RV T K H x v
theorem RS.lew (L : HLw H H') {σv : VS} {σ : L2.St} (h : RS T K H σv σ) : RS T K H' σv σ := ⟨h.1, fun i x e => let ⟨v, h1, h2⟩ := h.2 i x e; ⟨v, h1, h2.lew L⟩⟩
theorem RS.le (L : HLe H H') {σv : VS} {σ : L2.St} (h : RS T K H σv σ) : RS T K H' σv σ := RS.lew L.w h
theorem sset_length : ∀ (σ : VS) (i : Nat) (v : Option Val), (sset σ i v).length = σ.length
  | [], _, _ => rfl
  | _ :: _, 0, _ => rfl
  | _ :: r, i + 1, v => by unfold sset; rw [List.length_cons, List.length_cons, sset_length r i v]
theorem sget_sset_ne : ∀ (σ : VS) (i j : Nat) (v : Option Val), i ≠ j → sget (sset σ i v) j = sget σ j
  | [], _, _, _, _ => rfl
  | x :: r, 0, 0, v, h => (h rfl).elim
  | x :: r, 0, j + 1, v, h => rfl
  | x :: r, i + 1, 0, v, h => rfl
  | x :: r, i + 1, j + 1, v, h => by unfold sset sget; exact sget_sset_ne r i j v fun e => h (by rw [e])
theorem sget_sset_same : ∀ (σ : VS) (i : Nat) (v : Option Val), i < σ.length → sget (sset σ i v) i = v
  | [], _, _, h => absurd h (Nat.not_lt_zero _)
  | x :: r, 0, v, h => rfl
  | x :: r, i + 1, v, h => by unfold sset sget; exact sget_sset_same r i v (Nat.lt_of_succ_lt_succ h)
theorem sset_none_of_le : ∀ (σ : VS) (i : Nat) (v : Option Val), σ.length ≤ i → sset σ i v = σ
  | [], _, _, h => rfl
  | x :: r, 0, v, h => absurd h (Nat.not_succ_le_zero _)
  | x :: r, i + 1, v, h => by unfold sset; rw [sset_none_of_le r i v (Nat.le_of_succ_le_succ h)]
theorem RS.set {σv : VS} {σ : L2.St} {i : Nat} {x : Val} {v : V} (h : RS T K H σv σ) (r : RV T K H x v) : RS T K H (sset σv i (some x)) (σ.set i (some v)) := by
  refine ⟨by rw [sset_length, List.length_set]; exact h.1, fun j y e => ?_⟩
  by_cases q : i = j
  · subst q
    by_cases l : i < σv.length
    · rw [sget_sset_same _ _ _ l] at e
      cases e
      exact ⟨v, by rw [List.getElem?_set_self (by rw [← h.1]; exact l)], r⟩
    · rw [sset_none_of_le _ _ _ (Nat.le_of_not_lt l)] at e
      obtain ⟨w, h1, h2⟩ := h.2 i y e
      have : i < σ.length := (List.getElem?_eq_some_iff.mp h1).1
      rw [h.1] at l
      exact (l this).elim
  · rw [sget_sset_ne _ _ _ _ q] at e
    obtain ⟨w, h1, h2⟩ := h.2 j y e
    exact ⟨w, by rw [List.getElem?_set_ne q]; exact h1, h2⟩
theorem RS.wipe1 {σv : VS} {σ : L2.St} {i : Nat} (h : RS T K H σv σ) : RS T K H (sset σv i none) (σ.set i none) := by
  refine ⟨by rw [sset_length, List.length_set]; exact h.1, fun j y e => ?_⟩
  by_cases q : i = j
  · subst q
    by_cases l : i < σv.length
    · rw [sget_sset_same _ _ _ l] at e
      cases e
    · rw [sset_none_of_le _ _ _ (Nat.le_of_not_lt l)] at e
      obtain ⟨w, h1, h2⟩ := h.2 i y e
      have : i < σ.length := (List.getElem?_eq_some_iff.mp h1).1
      rw [h.1] at l
      exact (l this).elim
  · rw [sget_sset_ne _ _ _ _ q] at e
    obtain ⟨w, h1, h2⟩ := h.2 j y e
    exact ⟨w, by rw [List.getElem?_set_ne q]; exact h1, h2⟩
theorem RS.wipe {σv : VS} {σ : L2.St} (h : RS T K H σv σ) : ∀ vs : List Nat, RS T K H (swipe σv vs) (wipe σ vs)
  | [] => h
  | i :: r => (h.wipe r).wipe1
/-- more is forgotten -/
theorem RS.weak {σv : VS} {σ : L2.St} (h : RS T K H σv σ) {i : Nat} : RS T K H (sset σv i none) σ := by
  refine ⟨by rw [sset_length]; exact h.1, fun j y e => ?_⟩
  by_cases q : i = j
  · subst q
    by_cases l : i < σv.length
    · rw [sget_sset_same _ _ _ l] at e
      cases e
    · rw [sset_none_of_le _ _ _ (Nat.le_of_not_lt l)] at e
      exact h.2 i y e
  · rw [sget_sset_ne _ _ _ _ q] at e
    exact h.2 j y e
end
end MP
end
section
set_option maxHeartbeats 1000000
/-! MpE: the operations on values keep what MpA says of them. -/
namespace MP
open PySem PySem.Spec PyProof.Rows L2
/-- what is wanted, told of the own heap -/
def dn (T : Tb) (K : Frag) (H : Hp) (Q : VK) : KV := fun v h' => ∀ x H', HLe H H' → RH T K h' H' → RV T K H' v x → Q x H'
theorem dn.at {T : Tb} {K : Frag} {H : Hp} {Q : VK} {v : Val} {h : VH} {x : V} (d : dn T K H Q v h) (r : RH T K h H) (rv : RV T K H v x) : Q x H := d x H .refl r rv
section
variable {T : Tb} {K : Frag} {H : Hp}
theorem rv_int {i : Int} {v : V} : RV T K H (.int i) v ↔ v = .int i := by rw [RV]
theorem rv_bl {i : Bool} {v : V} : RV T K H (.bl i) v ↔ v = .bl i := by rw [RV]
theorem rv_non {v : V} : RV T K H .non v ↔ v = .non := by rw [RV]
theorem rv_str {x : List Nat} {v : V} : RV T K H (.str x) v ↔ v = .str ⟨x.toArray⟩ ∧ x.length ≤ SZ := by rw [RV]
theorem rv_tup {xs : List Val} {v : V} : RV T K H (.tup xs) v ↔ ∃ a ys, v = .ref a ∧ H a = some (.tup ys) ∧ RVs T K H xs ys := by rw [RV]
theorem rv_tupS {xs : List Val} {v : V} (h : RV T K H (.tup xs) v) : ∃ a ys, v = .ref a ∧ SqT K H a ys ∧ RVs T K H xs ys := by
  obtain ⟨a, ys, e, h1, h2⟩ := rv_tup.mp h
  exact ⟨a, ys, e, SqT.of h1, h2⟩
theorem rv_ktp {xs : List Val} {v : V} : RV T K H (.ktp xs) v ↔ ∃ a ys, v = .ref a ∧ SqT K H a ys ∧ RVs T K H xs ys := by rw [RV]
theorem rv_rls {xs : List Val} {v : V} : RV T K H (.rls xs) v ↔ ∃ a ys, v = .ref a ∧ RoL K H a ys ∧ RVs T K H xs ys := by rw [RV]
theorem rv_ref {a : Addr} {v : V} : RV T K H (.ref a) v ↔ v = .ref a := by rw [RV]
theorem rv_fn {a : String} {v : V} : RV T K H (.fn a) v ↔ v = .ref (T.fn a) := by rw [RV]
end
theorem szl : sizeLine = SZ := sizeLine_eq
/-- a list of the own heap stands in the layer's -/
theorem RH.lst {T : Tb} {K : Frag} {h : VH} {H : Hp} {a : Addr} {xs : List Val} (r : RH T K h H) (e : h a = some (.lst xs)) : ∃ ys, H a = some (.lst ys) ∧ RVs T K H xs ys := by
  obtain ⟨u, e1, ys, rfl, e2⟩ := r a _ e
  exact ⟨ys, e1, e2⟩
theorem RH.ins {T : Tb} {K : Frag} {h : VH} {H : Hp} {a : Addr} {c : String} {fs : List (String × Val)} (r : RH T K h H) (e : h a = some (.ins c fs)) : ∃ dx gs, H a = some (.ins (T.cls c) dx gs) ∧ RF T K H fs gs ∧ (Cls K (T.cls c) ∧ bltTy c = false) ∧ ∀ p ∈ fs, NoAttr K (T.cls c) (Str.ofString p.1) := by
  obtain ⟨u, e1, ⟨dx, gs, rfl, e2⟩, e3⟩ := r a _ e
  exact ⟨dx, gs, e1, e2, e3⟩
section
variable {T : Tb} {K : Frag} {H : Hp} {Q : VK} {h : VH}
/-- a new list -/
theorem dn.newL {xs : List Val} {ys : List V} (d : ∀ p, h p = none → dn T K H Q (.ref p) (up h p (.lst xs))) (r : RH T K h H) (rs : RVs T K H xs ys) : ∀ p, H p = none → Q (.ref p) (upd H p (.lst ys)) := fun p hp =>
  d p (r.fresh hp) _ _ (.new hp) (r.new hp ⟨ys, rfl, rs.le (.new hp)⟩) (rv_ref.mpr rfl)
/-- a new tuple -/
theorem dn.newT {xs : List Val} {ys : List V} (d : dn T K H Q (.tup xs) h) (r : RH T K h H) (rs : RVs T K H xs ys) : ∀ p, H p = none → Q (.ref p) (upd H p (.tup ys)) := fun p hp =>
  d _ _ (.new hp) (r.side hp) (rv_tup.mpr ⟨p, ys, rfl, upd_same, rs.le (.new hp)⟩)
/-- a list is changed -/
theorem dn.putL {a : Addr} {xs zs : List Val} {ys ws : List V} {v : Val} {x : V} (d : dn T K H Q v (up h a (.lst zs))) (r : RH T K h H) (e : H a = some (.lst ys)) (rs : RVs T K H zs ws) (rv : RV T K H v x) : Q x (upd H a (.lst ws)) :=
  d _ _ (.put e True.intro) (r.put e True.intro ⟨ws, rfl, rs.le (.put e True.intro)⟩) (rv.le (.put e True.intro))
end
/-! ### binary operators -/
def r2 (T : Tb) (K : Frag) (R : Val → Val → VH → Res) : R2 := fun x y H Q => ∃ a b h, RV T K H a x ∧ RV T K H b y ∧ RH T K h H ∧ (R a b h).wp h (dn T K H Q)
section
variable {X : Cx} {T : Tb}
theorem op_intR {f : Value → Value → Sem Value} {C : Int → Int → Prop} {g : Int → Int → Int} {F : Int → Int → Res} (base : OpR X f (rI C fun i j => .int (g i j)))
    (hF : ∀ i j h Q, (F i j).wp h Q → C i j ∧ Q (.int (g i j)) h) : OpR X f (r2 T X.K fun x y _ => intR F x y) := by
  intro pins s σ H x y v u Q I rx ry ⟨a, b, h, ra, rb, rh, w⟩
  unfold intR at w
  dsimp only at w
  split at w
  · rename_i i j
    rw [rv_int] at ra rb
    subst ra
    subst rb
    obtain ⟨c, q⟩ := hF _ _ _ _ w
    exact base pins s σ H _ _ v u Q I rx ry ⟨i, j, rfl, rfl, c, q.at rh (rv_int.mpr rfl)⟩
  · exact w.elim
theorem op_intR0 {f : Value → Value → Sem Value} {g : Int → Int → Int} (base : OpR X f (rI0 fun i j => .int (g i j))) : OpR X f (r2 T X.K fun x y _ => intR (fun i j => .ok (.int (g i j))) x y) := by
  refine op_intR (C := fun _ _ => True) (g := g) (fun pins s σ H x y v u Q I rx ry ⟨i, j, e1, e2, _, q⟩ => base pins s σ H x y v u Q I rx ry ⟨i, j, e1, e2, q⟩) fun i j h Q w => ⟨True.intro, w⟩
def opOf : Bop → Operator
  | .add => .Add | .sub => .Sub | .mul => .Mult | .fdiv => .FloorDiv | .mod => .Mod | .shl => .LShift | .shr => .RShift | .band => .BitAnd | .bor => .BitOr | .bxor => .BitXor | .pow => .Pow
theorem lstR_of {K : Frag} {H : Hp} {h : VH} {a : Val} {x : V} {xs : List Val} (rh : RH T K h H) (ra : RV T K H a x) (e : lstV a h = some xs) : ∃ p ys, x = .ref p ∧ SqL K H p ys ∧ RVs T K H xs ys := by
  unfold lstV at e
  split at e
  · obtain ⟨p, ys, rfl, sp, q⟩ := rv_rls.mp ra
    cases e
    exact ⟨p, ys, rfl, sp.sq, q⟩
  · obtain rfl := rv_ref.mp ra
    split at e
    · rename_i e2
      obtain ⟨ys, e1, q⟩ := rh.lst e2
      cases e
      exact ⟨_, ys, rfl, .of e1, q⟩
    · cases e
  · cases e
theorem op_catL : OpR X (binaryOp .Add) (fun x y H Q => ∃ l b xs zs, x = .ref l ∧ y = .ref b ∧ SqL X.K H l xs ∧ SqL X.K H b zs ∧ xs.length + zs.length ≤ sizeLine ∧ ∀ p, H p = none → Q (.ref p) (upd H p (.lst (xs ++ zs)))) := by
  intro pins s σ H x y v u Q I rx ry h
  obtain ⟨l, b, xs, zs, rfl, rfl, hH, hB, hz, q⟩ := h
  cases rx
  cases ry
  obtain ⟨its, r, ⟨⟨cls, dd, data, sl⟩, n, ho, hc, hd, hs⟩, z⟩ := I.list hH
  obtain ⟨its2, r2, ⟨⟨cls2, dd2, data2, sl2⟩, n2, ho2, hc2, hd2, hs2⟩, z2⟩ := I.list hB
  simp only at hc hd hs hc2 hd2 hs2
  subst hc hd hs hc2 hd2 hs2
  have l1 := r.length
  have l2 := r2.length
  refine concat_meets ⟨_, ho, rfl⟩ ⟨_, ho2, rfl⟩ noFill_list_add seq_list_add PySem.F.slot_list_add PySem.F.entry_list_add (PySem.F.args_list_add_2 _ _) (list_addW l b its.toArray its2.toArray n n2 none none sl sl2 (by rw [List.size_toArray, List.size_toArray]; omega)) ⟨ho, ho2, ?_⟩
  have ea : its.toArray ++ its2.toArray = (its ++ its2).toArray := by simp
  rw [ea]
  exact ⟨.ref _, _, I.lnew (t' := s.toks) (r.append r2) (by rw [List.length_append]; omega), rfl, q _ I.fresh⟩
theorem op_addV : OpR X (binaryOp .Add) (r2 T X.K addR) := by
  intro pins s σ H x y v u Q I rx ry ⟨a, b, h, ra, rb, rh, w⟩
  unfold addR at w
  split at w
  · rw [rv_int] at ra rb
    subst ra
    subst rb
    exact op_add pins s σ H _ _ v u Q I rx ry ⟨_, _, rfl, rfl, dn.at w rh (rv_int.mpr rfl)⟩
  · rename_i a b
    rw [rv_str] at ra rb
    obtain ⟨rfl, ha⟩ := ra
    obtain ⟨rfl, hb⟩ := rb
    refine op_add_str pins s σ H _ _ v u Q I rx ry ⟨_, _, rfl, rfl, ?_, ?_⟩
    · rw [szl]
      show a.toArray.size + b.toArray.size ≤ SZ
      rw [List.size_toArray, List.size_toArray]
      exact w.1
    · refine dn.at w.2 rh (rv_str.mpr ⟨?_, ?_⟩)
      · show V.str ⟨a.toArray ++ b.toArray⟩ = _
        rw [List.append_toArray]
      · rw [List.length_append]; exact w.1
  · rename_i a b
    rw [rv_tup] at ra rb
    obtain ⟨p, ys, rfl, sp, rs⟩ := ra
    obtain ⟨q, zs, rfl, sq, rt⟩ := rb
    refine op_catA pins s σ H _ _ v u Q I rx ry ⟨p, q, ys, zs, rfl, rfl, SqT.of sp, SqT.of sq, by rw [szl, ← rs.length, ← rt.length]; exact w.1, fun e => ?_, fun _ e => ?_, fun _ _ => ?_⟩
    · refine dn.at w.2 rh (rv_tup.mpr ⟨q, zs, rfl, sq, ?_⟩)
      subst e
      have : a = [] := List.eq_nil_of_length_eq_zero (by rw [rs.length]; rfl)
      subst this
      exact rt
    · refine dn.at w.2 rh (rv_tup.mpr ⟨p, ys, rfl, sp, ?_⟩)
      subst e
      have : b = [] := List.eq_nil_of_length_eq_zero (by rw [rt.length]; rfl)
      subst this
      rw [List.append_nil]
      exact rs
    · exact dn.newT w.2 rh (rs.append rt)
  · split at w
    · rename_i xs ys e1 e2
      obtain ⟨a, xs', rfl, h1, r1⟩ := lstR_of rh ra e1
      obtain ⟨b, ys', rfl, h2, r2⟩ := lstR_of rh rb e2
      exact op_catL pins s σ H _ _ v u Q I rx ry ⟨a, b, xs', ys', rfl, rfl, h1, h2, by rw [szl, ← r1.length, ← r2.length]; exact w.1, dn.newL w.2 rh (r1.append r2)⟩
    · exact w.elim
theorem RVs.rep {K : Frag} {H : Hp} {xs : List Val} {ys : List V} (h : RVs T K H xs ys) : ∀ k : Nat, RVs T K H (List.replicate k xs).flatten (List.replicate k ys).flatten
  | 0 => .nil
  | k + 1 => by
    rw [List.replicate_succ, List.replicate_succ, List.flatten_cons, List.flatten_cons]
    exact h.append (h.rep k)
theorem rep_str (c : Nat) : ∀ (k : Nat) (acc : Array Nat), (List.replicate k #[c]).foldl (· ++ ·) acc = acc ++ (List.replicate k c).toArray
  | 0, acc => by simp
  | k + 1, acc => by
    rw [List.replicate_succ, List.foldl_cons, rep_str c k, List.replicate_succ, Array.append_assoc]
    congr 1
    simp
/-- a sign so often -/
theorem op_mulS {K : Frag} : OpR X (binaryOp .Mult) (fun x y H Q => ∃ (c : Nat) (k : Int), x = V.str ⟨#[c]⟩ ∧ y = V.int k ∧ 2 ≤ k ∧ k < 16777217 ∧ Q (V.str ⟨(List.replicate k.toNat c).toArray⟩) H) := by
  intro pins s σ H x y v u Q I rx ry ⟨c, k, e1, e2, c1, c2, q⟩
  subst e1
  subst e2
  obtain ⟨t, rfl⟩ := rx
  obtain ⟨t', rfl⟩ := ry
  have hk : (k == 1 || (⟨#[c]⟩ : PySem.Str).length == 0) = false := by
    have : (k == 1) = false := by rw [beq_eq_false_iff_ne]; omega
    rw [this]
    rfl
  refine P.mul_str (by rw [decide_eq_false (by omega), decide_eq_false (by omega)]; rfl) (fun _ _ => ?_) (fun _ _ => ?_) ?_
  · show ¬ ((1 : Nat) : Int) > _
    have : (1 : Int) ≤ (2 ^ 63 - 1) / k := (Int.le_ediv_iff_mul_le (by omega)).mpr (by omega)
    omega
  · show decide (1 * k.toNat > sizeLine) = false
    rw [szl, decide_eq_false]
    rw [show SZ = 16777216 from rfl]
    omega
  · rw [if_neg (by omega), hk, if_neg (by decide), rep_str]
    refine ⟨?_, ?_⟩
    · show (#[] ++ (List.replicate k.toNat c).toArray).size ≤ sizeLine
      rw [szl, show SZ = 16777216 from rfl]
      simp
      omega
    · refine ⟨.str ⟨(List.replicate k.toNat c).toArray⟩, H, I.tok _, ⟨s.toks, ?_⟩, q⟩
      simp
theorem op_mulV : OpR X (binaryOp .Mult) (r2 T X.K mulR) := by
  intro pins s σ H x y v u Q I rx ry ⟨a, b, h, ra, rb, rh, w⟩
  unfold mulR at w
  split at w
  · rw [rv_int] at ra rb
    subst ra
    subst rb
    exact op_mulX pins s σ H _ _ v u Q I rx ry ⟨_, _, rfl, rfl, w.1, dn.at w.2 rh (rv_int.mpr rfl)⟩
  · rename_i a k
    rw [rv_ref] at ra
    rw [rv_int] at rb
    subst ra
    subst rb
    split at w
    · rename_i xs e1
      obtain ⟨ys, h1, r1⟩ := rh.lst e1
      obtain ⟨⟨c1, c2, c3⟩, w⟩ := w
      refine op_rep pins s σ H _ _ v u Q I rx ry ⟨a, k, ys, rfl, rfl, h1, by omega, by omega, by rw [szl, ← r1.length]; exact c3, ?_⟩
      exact dn.newL w rh (r1.rep _)
    · exact w.elim
  · rename_i c k
    rw [rv_str] at ra
    rw [rv_int] at rb
    obtain ⟨rfl, _⟩ := ra
    subst rb
    exact op_mulS (K := X.K) pins s σ H _ _ v u Q I rx ry ⟨c, k, rfl, rfl, w.1.1, w.1.2, dn.at w.2 rh (rv_str.mpr ⟨rfl, by have := w.1; rw [List.length_replicate, show SZ = 16777216 from rfl]; omega⟩)⟩
  · exact w.elim
theorem op_bop (o : Bop) : OpR X (binaryOp (opOf o)) (r2 T X.K (bopR o)) := by
  cases o with
  | add => exact op_addV
  | mul => exact op_mulV
  | sub => exact op_intR0 op_sub
  | fdiv => exact op_intR (C := fun _ j => MP.CDiv j) (fun pins s σ H x y v u Q I rx ry ⟨i, j, e1, e2, c, q⟩ => op_fdivW pins s σ H x y v u Q I rx ry ⟨i, j, e1, e2, c, q⟩) fun i j h Q w => w
  | mod => exact op_intR op_mod fun i j h Q w => w
  | shl => exact op_intR (C := MP.CShl) (fun pins s σ H x y v u Q I rx ry ⟨i, j, e1, e2, c, q⟩ => op_shlW pins s σ H x y v u Q I rx ry ⟨i, j, e1, e2, ⟨c.1, by have := c.2; omega⟩, q⟩) fun i j h Q w => w
  | shr => exact op_intR op_shr fun i j h Q w => w
  | band => exact op_intR0 op_and
  | bor => exact op_intR0 op_or
  | bxor => exact op_intR0 op_xor
  | pow => exact op_intR (C := MP.CPow) op_pow fun i j h Q w => w
end
/-! ### dicts: what is read, what is put -/
section
variable {T : Tb} {K : Frag} {H : Hp} {h : VH} {a : Nat} {t : Bool} {kvs : List (Val × Val)} {k v : Val} {y z : V}
theorem RVo.some {o : Option V} {x : Val} (r : RVo T K H (some x) o) : ∃ y, o = some y ∧ RV T K H x y := by
  cases o with
  | none => exact r.elim
  | some y => exact ⟨y, rfl, r⟩
theorem RVo.isSome {o : Option V} {p : Option Val} (r : RVo T K H p o) : o.isSome = p.isSome := by
  cases p <;> cases o <;> first | rfl | exact r.elim
theorem RVo.getD {o : Option V} {p : Option Val} (r : RVo T K H p o) (rv : RV T K H v y) : RV T K H (p.getD v) (o.getD y) := by
  cases p <;> cases o <;> first | exact r.elim | exact rv | exact r
theorem dget_of (rh : RH T K h H) (e : h a = some (.dic t kvs)) (rk : RV T K H k y) (hk : keyB t k = true) : ∃ o, DGet H a y o ∧ RVo T K H (dlook k kvs) o := by
  obtain ⟨u, e1, ro⟩ := rh _ _ e
  cases t with
  | false =>
    obtain ⟨ks, rfl, rd⟩ := ro
    obtain ⟨j, rfl, _, rfl⟩ := rv_leaf rk hk
    exact ⟨_, DGet.k e1, rd.look⟩
  | true =>
    obtain ⟨ks, rfl, rd⟩ := ro
    cases k with
    | tup xs =>
      obtain ⟨b, ys, rfl, eb, rs⟩ := rv_tup.mp rk
      obtain ⟨js, rfl, _, rfl⟩ := rv_leafs rs hk
      exact ⟨_, DGet.t e1 eb, rd.look⟩
    | _ => cases hk
theorem dput_of (rh : RH T K h H) (e : h a = some (.dic t kvs)) (rk : RV T K H k y) (hk : keyB t k = true) (rv : RV T K H v z) (hl : kvs.length < SZ) : ∃ H', DPut H a y z H' ∧ HLe H H' ∧ RH T K (up h a (.dic t (dput k v kvs))) H' := by
  obtain ⟨u, e1, ro⟩ := rh _ _ e
  cases t with
  | false =>
    obtain ⟨ks, rfl, rd⟩ := ro
    obtain ⟨j, rfl, hj, rfl⟩ := rv_leaf rk hk
    have l : HLe H (upd H a (.dK (putK ks j z))) := .put e1 True.intro
    exact ⟨_, DPut.k e1 (by rw [← rd.len, szl]; exact hl), l, rh.put e1 True.intro ⟨_, rfl, (rd.put hj rv).le l⟩⟩
  | true =>
    obtain ⟨ks, rfl, rd⟩ := ro
    cases k with
    | tup xs =>
      obtain ⟨b, ys, rfl, eb, rs⟩ := rv_tup.mp rk
      obtain ⟨js, rfl, hj, rfl⟩ := rv_leafs rs hk
      have l : HLe H (upd H a (.dT (putK ks js z))) := .put e1 True.intro
      exact ⟨_, DPut.t e1 eb (by rw [← rd.len, szl]; exact hl), l, rh.put e1 True.intro ⟨_, rfl, (rd.put hj rv).le l⟩⟩
    | _ => cases hk
theorem RH.dK (rh : RH T K h H) (e : h a = some (.dic false kvs)) : ∃ ks, H a = some (.dK ks) ∧ RD T K H kvs ks := by
  obtain ⟨u, e1, ks, rfl, rd⟩ := rh _ _ e
  exact ⟨ks, e1, rd⟩
theorem RH.dT (rh : RH T K h H) (e : h a = some (.dic true kvs)) : ∃ ks, H a = some (.dT ks) ∧ RDt T K H kvs ks := by
  obtain ⟨u, e1, ks, rfl, rd⟩ := rh _ _ e
  exact ⟨ks, e1, rd⟩
end
end MP
end
section
set_option maxHeartbeats 1000000
/-! MpF: comparisons, truth, subscripts, slices, built-in functions and methods. -/
namespace MP
open PySem PySem.Spec PyProof.Rows L2
section
variable {T : Tb} {K : Frag} {H : Hp} {h : VH}
mutual
theorem dp_of (rh : RH T K h H) : ∀ (d : PyData) (v : Val) (x : V), DV h v d → RV T K H v x → Dp K H x d
  | .none, _, _, hd, r => by cases hd; rw [rv_non.mp r]; exact .non
  | .bool b, _, _, hd, r => by cases hd; rw [rv_bl.mp r]; exact .bl b
  | .int i, _, _, hd, r => by cases hd; rw [rv_int.mp r]; exact .int i
  | .str x, _, _, hd, r => by cases hd; rw [(rv_str.mp r).1]; exact .str _
  | .list ds, _, _, hd, r => by
    cases hd with
    | rls hs =>
      obtain ⟨a, ys, rfl, ro, rs⟩ := rv_rls.mp r
      exact .lst ro.sq (dps_of rh ds _ _ hs rs)
    | lst e hs =>
      rw [rv_ref.mp r]
      obtain ⟨ys, e1, rs⟩ := rh.lst e
      exact .lst (SqL.of e1) (dps_of rh ds _ _ hs rs)
  | .tuple ds, _, _, hd, r => by
    cases hd with
    | tup hs =>
      obtain ⟨a, ys, rfl, ro, rs⟩ := rv_tupS r
      exact .tup ro (dps_of rh ds _ _ hs rs)
  | .dict _, _, _, hd, _ => by cases hd
theorem dps_of (rh : RH T K h H) : ∀ (ds : List PyData) (vs : List Val) (xs : List V), DVs h vs ds → RVs T K H vs xs → DpAll K H xs ds
  | [], _, _, hd, r => by cases hd; rw [r.of_nil]; exact .nil
  | d :: ds, _, _, hd, r => by
    cases hd with
    | cons h1 h2 =>
      obtain ⟨v, s, rfl, r1, r2⟩ := r.of_cons
      exact .cons (dp_of rh d _ _ h1 r1) (dps_of rh ds _ _ h2 r2)
end
end
/-- what is wanted of a truth -/
def dnB (T : Tb) (K : Frag) (H : Hp) (Q : Bool → Hp → Prop) : Bool → VH → Prop := fun t h' => ∀ H', HLe H H' → RH T K h' H' → Q t H'
def rB (T : Tb) (K : Frag) (R : Val → Val → VH → Bes) : R2 := fun x y H Q => ∃ a b h, RV T K H a x ∧ RV T K H b y ∧ RH T K h H ∧ (R a b h).wp fun t => Q (.bl t) H
section
variable {X : Cx} {T : Tb}
theorem op_intB {f : Value → Value → Sem Value} {g : Int → Int → Bool} (base : OpR X f (rI0 fun i j => .bl (g i j))) : OpR X f (rB T X.K fun x y _ => intB g x y) := by
  intro pins s σ H x y v u Q I rx ry ⟨a, b, h, ra, rb, rh, w⟩
  unfold intB at w
  dsimp only at w
  split at w
  · rename_i i j
    rw [rv_int] at ra rb
    subst ra
    subst rb
    exact base pins s σ H _ _ v u Q I rx ry ⟨i, j, rfl, rfl, w⟩
  · exact w.elim
theorem str_inj {a b : List Nat} : decide (V.str ⟨a.toArray⟩ = V.str ⟨b.toArray⟩) = decide (a = b) := by
  rw [Bool.eq_iff_iff]
  simp
theorem int_inj {a b : Int} : decide (V.int a = V.int b) = decide (a = b) := by
  rw [Bool.eq_iff_iff]
  simp
theorem bl_inj {a b : Bool} : decide (V.bl a = V.bl b) = decide (a = b) := by
  rw [Bool.eq_iff_iff]
  simp
theorem eq_core (hu : X.A.units + 64 < cLine) {f : Value → Value → Sem Value} {neg : Bool → Bool} (b1 : OpR X f fun x y H Q => scal x y = true ∧ Q (.bl (neg (decide (x = y)))) H)
    (b2 : OpR X f fun x y H Q => ∃ d e, Dp X.K H x d ∧ Dp X.K H y e ∧ SeqAt.shaped d = true ∧ SeqAt.shaped e = true ∧ Q (.bl (neg (PyData.eqv d e))) H) :
    OpR X f (fun x y H Q => ∃ a b h, RV T X.K H a x ∧ RV T X.K H b y ∧ RH T X.K h H ∧ (eqR a b h).wp fun t => Q (.bl (neg t)) H) := by
  intro pins s σ H x y v u Q I rx ry ⟨a, b, h, ra, rb, rh, w⟩
  unfold eqR at w
  split at w
  · rw [rv_int] at ra rb
    subst ra
    subst rb
    exact b1 pins s σ H _ _ v u Q I rx ry ⟨rfl, by rw [int_inj]; exact w⟩
  · rw [rv_str] at ra rb
    obtain ⟨rfl, _⟩ := ra
    obtain ⟨rfl, _⟩ := rb
    exact b1 pins s σ H _ _ v u Q I rx ry ⟨rfl, by rw [str_inj]; exact w⟩
  · rw [rv_bl] at ra rb
    subst ra
    subst rb
    exact b1 pins s σ H _ _ v u Q I rx ry ⟨rfl, by rw [bl_inj]; exact w⟩
  · obtain ⟨t, ⟨d, e, h1, h2, h3, h4, rfl⟩, w⟩ := w
    exact b2 pins s σ H _ _ v u Q I rx ry ⟨d, e, dp_of rh d _ _ h1 ra, dp_of rh e _ _ h2 rb, h3, h4, w⟩
theorem op_eqV (hu : X.A.units + 64 < cLine) : OpR X (compareOp .Eq) (rB T X.K eqR) := eq_core (neg := id) hu op_eq (op_eqD hu)
theorem Bes.not_wp {r : Bes} {k : Bool → Prop} (h : r.not.wp k) : r.wp fun t => k (!t) := by
  cases r with
  | ok t => exact h
  | ex p =>
    obtain ⟨t, h1, h2⟩ := h
    exact ⟨!t, h1, by show k (!!t); rw [Bool.not_not]; exact h2⟩
  | bad => exact h
theorem op_neV (hu : X.A.units + 64 < cLine) : OpR X (compareOp .NotEq) (rB T X.K fun x y h => (eqR x y h).not) := by
  intro pins s σ H x y v u Q I rx ry ⟨a, b, h, ra, rb, rh, w⟩
  exact eq_core (neg := not) hu op_ne (op_neD hu) pins s σ H x y v u Q I rx ry ⟨a, b, h, ra, rb, rh, Bes.not_wp w⟩
theorem mem_core {neg : Bool → Bool} {o : CmpOp} (hu : X.A.units + 65 < cLine) (bs : OpR X (compareOp o) fun x y H Q => ∃ (c : Nat) (z : Str), x = .str ⟨#[c]⟩ ∧ y = .str z ∧ Q (.bl (neg (decide (c ∈ z.cps.toList)))) H)
    (bl : ∀ {A : Around} {E : Value → Shared → Prop} {s : Shared} {c x : Value} {xs : List PyData} {d : PyData} {as bs : List Addr} {Q : Value → Shared → Prop}, Reads s.heap c (.list xs) as → Reads s.heap x d bs → PyData.canLayAll0 xs = true → d.canLay0 = true →
      A.units + 1 + min (PyData.depthAll xs) d.depth < cLine → Q (.bool (neg (xs.any fun y => PyData.eqv y d))) s → wpAny (model X.prog X.w) A (compareOp o x c) Q E s)
    (bt : ∀ {A : Around} {E : Value → Shared → Prop} {s : Shared} {c x : Value} {xs : List PyData} {d : PyData} {as bs : List Addr} {Q : Value → Shared → Prop}, Reads s.heap c (.tuple xs) as → Reads s.heap x d bs → PyData.canLayAll0 xs = true → d.canLay0 = true →
      A.units + 1 + min (PyData.depthAll xs) d.depth < cLine → Q (.bool (neg (xs.any fun y => PyData.eqv y d))) s → wpAny (model X.prog X.w) A (compareOp o x c) Q E s)
    (bd : ∀ {pins : List (Addr × PySem.Obj)} {σ : L2.St} {H : Hp} {s : Shared} {a : Addr} {y : V} {u : Value} {o' : Option V} {Q : Value → Shared → Prop}, X.A.units + 1 < cLine → Inv X pins σ H s → DGet H a y o' → RelV y u → (∀ s', Inv X pins σ H s' → Q (.bool (neg o'.isSome)) s') → wpAny (model X.prog X.w) X.A (compareOp o u (.ref a)) Q X.xe s) :
    OpR X (compareOp o) (fun x y H Q => ∃ a b h, RV T X.K H a x ∧ RV T X.K H b y ∧ RH T X.K h H ∧ (inR a b h).wp fun t => Q (.bl (neg t)) H) := by
  intro pins s σ H x y v u Q I rx ry ⟨a, b, h, ra, rb, rh, w⟩
  unfold inR at w
  split at w
  · rename_i zs
    split at w
    · rename_i c
      rw [rv_str] at ra rb
      obtain ⟨rfl, _⟩ := ra
      obtain ⟨rfl, _⟩ := rb
      exact bs pins s σ H _ _ v u Q I rx ry ⟨c, _, rfl, rfl, w⟩
    · exact w.elim
  · rename_i ys
    obtain ⟨t, ⟨d, es, h1, h2, h3, h4, rfl⟩, w⟩ := w
    obtain ⟨as, q1⟩ := Dp.reads I d _ _ (dp_of rh d _ _ h1 ra) rx
    obtain ⟨cs, q2⟩ := Dp.reads I (.tuple es) _ _ (dp_of rh (.tuple es) _ _ (.tup h2) rb) ry
    exact bt q2 q1 h4 (SeqAt.canLay_of_shaped h3) (room_in_shaped h3 hu) ⟨.bl _, H, I, rfl, w⟩
  · rename_i ys
    obtain ⟨t, ⟨d, es, h1, h2, h3, h4, rfl⟩, w⟩ := w
    obtain ⟨as, q1⟩ := Dp.reads I d _ _ (dp_of rh d _ _ h1 ra) rx
    obtain ⟨cs, q2⟩ := Dp.reads I (.list es) _ _ (dp_of rh (.list es) _ _ (.rls h2) rb) ry
    exact bl q2 q1 h4 (SeqAt.canLay_of_shaped h3) (room_in_shaped h3 hu) ⟨.bl _, H, I, rfl, w⟩
  · rename_i ys
    obtain ⟨t, ⟨d, es, h1, h2, h3, h4, rfl⟩, w⟩ := w
    obtain ⟨as, q1⟩ := Dp.reads I d _ _ (dp_of rh d _ _ h1 ra) rx
    have rb' : Dp X.K H y (.tuple es) := by
      obtain ⟨p, zs, rfl, sp, rs⟩ := rv_ktp.mp rb
      exact .tup sp (dps_of rh es _ _ h2 rs)
    obtain ⟨cs, q2⟩ := Dp.reads I (.tuple es) _ _ rb' ry
    exact bt q2 q1 h4 (SeqAt.canLay_of_shaped h3) (room_in_shaped h3 hu) ⟨.bl _, H, I, rfl, w⟩
  · rename_i p
    split at w
    · rename_i ys e
      obtain ⟨t, ⟨d, es, h1, h2, h3, h4, rfl⟩, w⟩ := w
      obtain ⟨as, q1⟩ := Dp.reads I d _ _ (dp_of rh d _ _ h1 ra) rx
      obtain ⟨cs, q2⟩ := Dp.reads I (.list es) _ _ (dp_of rh (.list es) _ _ (.lst e h2) rb) ry
      exact bl q2 q1 h4 (SeqAt.canLay_of_shaped h3) (room_in_shaped h3 hu) ⟨.bl _, H, I, rfl, w⟩
    · rename_i kt kvs e
      obtain ⟨t, ⟨hk, rfl⟩, w⟩ := w
      obtain ⟨o', g, ro⟩ := dget_of rh e ra hk
      rw [rv_ref.mp rb] at ry
      cases ry
      exact bd (by omega) I g rx fun s' I' => ⟨.bl _, H, I', rfl, by rw [ro.isSome]; exact w⟩
    · exact w.elim
  · exact w.elim
theorem op_memV (hu : X.A.units + 65 < cLine) : OpR X (compareOp .In) (rB T X.K inR) := mem_core (neg := id) hu op_in_sign SeqAt.in_list_reads SeqAt.in_tuple_reads d_in
theorem op_nmemV (hu : X.A.units + 65 < cLine) : OpR X (compareOp .NotIn) (rB T X.K fun x y h => (inR x y h).not) := by
  intro pins s σ H x y v u Q I rx ry ⟨a, b, h, ra, rb, rh, w⟩
  exact mem_core (neg := not) hu op_notIn_sign SeqAt.notIn_list_reads SeqAt.notIn_tuple_reads d_notIn pins s σ H x y v u Q I rx ry ⟨a, b, h, ra, rb, rh, Bes.not_wp w⟩
def cmpOf : Cop → CmpOp
  | .eq => .Eq | .ne => .NotEq | .lt => .Lt | .le => .LtE | .gt => .Gt | .ge => .GtE | .mem => .In | .nmem => .NotIn
theorem op_cmp (hu : X.A.units + 65 < cLine) (o : Cop) : OpR X (compareOp (cmpOf o)) (rB T X.K (cmpR o)) := by
  cases o with
  | eq => exact op_eqV (by omega)
  | ne => exact op_neV (by omega)
  | lt => exact op_intB op_lt
  | le => exact op_intB op_le
  | gt => exact op_intB op_gt
  | ge => exact op_intB op_ge
  | mem => exact op_memV hu
  | nmem => exact op_nmemV hu
/-! ### truth -/
theorem tru_of {a : Val} {x : V} {H : Hp} {h : VH} {k : Bool → Prop} (ra : RV T X.K H a x) (rh : RH T X.K h H) (w : (truB a h).wp k) : ∃ t, TruV X.K x H t ∧ k t := by
  unfold truB at w
  split at w
  · rw [rv_non.mp ra]; exact ⟨false, rfl, w⟩
  · rw [rv_bl.mp ra]; exact ⟨_, rfl, w⟩
  · rw [rv_int.mp ra]; exact ⟨_, rfl, w⟩
  · rename_i a
    obtain ⟨rfl, ha⟩ := rv_str.mp ra
    refine ⟨_, ⟨by rw [szl]; show a.toArray.size ≤ SZ; rw [List.size_toArray]; exact ha, rfl⟩, ?_⟩
    have e : ((((⟨a.toArray⟩ : Str).length : Nat) : Int) != 0) = !a.isEmpty := by
      show ((a.toArray.size : Int) != 0) = _
      cases a <;> simp
      all_goals omega
    rw [e]
    exact w
  · rename_i xs
    obtain ⟨p, ys, rfl, sp, rs⟩ := rv_tupS ra
    refine ⟨!xs.isEmpty, .inr (.inl ⟨ys, sp, ?_⟩), w⟩
    have := rs.length
    cases xs <;> cases ys <;> simp at this ⊢
  · rename_i xs
    obtain ⟨p, ys, rfl, sp, rs⟩ := rv_rls.mp ra
    refine ⟨!xs.isEmpty, .inl ⟨ys, sp.sq, ?_⟩, w⟩
    have := rs.length
    cases xs <;> cases ys <;> simp at this ⊢
  · split at w
    · rename_i xs e
      rw [rv_ref.mp ra]
      obtain ⟨ys, e1, rs⟩ := rh.lst e
      refine ⟨!xs.isEmpty, .inl ⟨ys, SqL.of e1, ?_⟩, w⟩
      have := rs.length
      cases xs <;> cases ys <;> simp at this ⊢
    · rename_i kvs e
      rw [rv_ref.mp ra]
      obtain ⟨ks, e1, rd⟩ := rh.dK e
      refine ⟨!kvs.isEmpty, .inr (.inr ⟨ks, e1, ?_⟩), w⟩
      have := rd.len
      cases kvs <;> cases ks <;> simp at this ⊢
    · exact w.elim
  · exact w.elim
end
end MP
end
section
set_option maxHeartbeats 1000000
/-! MpG: subscripts, slices, built-in functions. -/
namespace MP
open PySem PySem.Spec PyProof.Rows L2
section
variable {X : Cx} {T : Tb}
theorem at_eq {α : Type} (xs : List α) (i : Int) : at_ xs i = atI xs i := by
  unfold at_ atI ixN
  by_cases h0 : 0 ≤ i
  · rw [if_pos h0, if_pos h0]
    by_cases h1 : i < xs.length
    · rw [if_pos h1]; rfl
    · rw [if_neg h1]
      show xs[i.toNat]? = none
      rw [List.getElem?_eq_none_iff]
      omega
  · rw [if_neg h0, if_neg h0]
    by_cases h1 : -(xs.length : Int) ≤ i
    · rw [if_pos h1, if_pos h1]; rfl
    · rw [if_neg h1, if_neg h1]; rfl
theorem at_get {K : Frag} {H : Hp} {xs : List Val} {ys : List V} {i : Int} {x : Val} (rs : RVs T K H xs ys) (h : at_ xs i = some x) : ∃ y, atI ys i = some y ∧ RV T K H x y := by
  rw [← at_eq]
  unfold at_ at h ⊢
  have hl := rs.length
  by_cases h0 : 0 ≤ i
  · rw [if_pos h0] at h ⊢
    exact rs.get h
  · rw [if_neg h0] at h ⊢
    rw [← hl]
    by_cases h1 : -(xs.length : Int) ≤ i
    · rw [if_pos h1] at h ⊢
      exact rs.get h
    · rw [if_neg h1] at h
      cases h
def rIxD : R2 := fun x y H Q => ∃ a v, x = .ref a ∧ DGet H a y (some v) ∧ Q v H
theorem ix_dict (hu : X.A.units + 1 < cLine) : IxR X rIxD := by
  intro value slice pins s σ H x y v u Q I rx ry ⟨a, w, ex, g, q⟩ hs
  subst ex
  obtain rfl : v = Value.ref a := rx
  have hT := dict_typeIs I g
  unfold subscriptTail
  refine wpAny_bind ?_
  rw [getitemInPython_of_ne hT.not_modules]
  refine wpAny_bind (wpAny_specialOf hT PySem.F.slot_dict_getitem.lookup ?_)
  have fin : wpAny (model X.prog X.w) X.A (subscripted slice false (.ref a) u) (fun r s₃ => wpAny (model X.prog X.w) X.A (letTemporaryGo value (.ref a) r >>= fun _ => pure r) (EP X pins σ Q) X.xe s₃) X.xe s := by
    rw [hs]
    exact wpAny_operating (d_getItem hu I g ry fun w' s3 I3 rw' => wpAny_bind (wpAny_letTemporaryGo (wpAny_pure ⟨w, H, I3, rw', q⟩)))
  first
    | exact wpAny_pure (wpAny_bind fin)
    | exact wpAny_bind (wpAny_pure (wpAny_bind fin))
    | exact wpAny_bind fin
theorem ix_val (hu : X.A.units + 1 < cLine) : IxR X (r2 T X.K idxR) := by
  intro value slice pins s σ H x y v u Q I rx ry ⟨a, b, h, ra, rb, rh, w⟩ hs
  unfold idxR at w
  split at w
  · rename_i z
    unfold idxS at w
    split at w
    · rename_i i
      obtain ⟨v', ⟨c, hc, rfl⟩, w⟩ := w
      obtain ⟨rfl, hz⟩ := rv_str.mp ra
      obtain rfl := rv_int.mp rb
      refine ix_str value slice pins s σ H _ _ v u Q I rx ry ⟨_, i, c, rfl, rfl, ?_, ?_, ?_⟩ hs
      · rw [szl]; show z.toArray.size ≤ SZ; rw [List.size_toArray]; exact hz
      · rw [← at_eq]; exact hc
      · exact w.at rh (rv_str.mpr ⟨rfl, by show 1 ≤ SZ; decide⟩)
    · exact w.elim
  · rename_i xs
    unfold idxL at w
    split at w
    · rename_i i
      obtain ⟨v', hc, w⟩ := w
      obtain ⟨p, ys, rfl, sp, rs⟩ := rv_tupS ra
      obtain rfl := rv_int.mp rb
      obtain ⟨y, hy, ry'⟩ := at_get rs hc
      exact ix_tup value slice pins s σ H _ _ v u Q I rx ry ⟨p, ys, i, y, rfl, rfl, sp, hy, w.at rh ry'⟩ hs
    · exact w.elim
  · rename_i xs
    unfold idxL at w
    split at w
    · rename_i i
      obtain ⟨v', hc, w⟩ := w
      obtain ⟨p, ys, rfl, sp, rs⟩ := rv_rls.mp ra
      obtain rfl := rv_int.mp rb
      obtain ⟨y, hy, ry'⟩ := at_get rs hc
      exact ix_list value slice pins s σ H _ _ v u Q I rx ry ⟨p, ys, i, y, rfl, rfl, sp.sq, hy, w.at rh ry'⟩ hs
    · exact w.elim
  · split at w
    · rename_i xs e
      unfold idxL at w
      split at w
      · rename_i i
        obtain ⟨v', hc, w⟩ := w
        obtain rfl := rv_ref.mp ra
        obtain ⟨ys, e1, rs⟩ := rh.lst e
        obtain rfl := rv_int.mp rb
        obtain ⟨y, hy, ry'⟩ := at_get rs hc
        exact ix_list value slice pins s σ H _ _ v u Q I rx ry ⟨_, ys, i, y, rfl, rfl, SqL.of e1, hy, w.at rh ry'⟩ hs
      · exact w.elim
    · rename_i kt kvs e
      obtain ⟨v', ⟨hk, hv⟩, w⟩ := w
      obtain ⟨o', g, ro⟩ := dget_of rh e rb hk
      rw [hv] at ro
      obtain ⟨y', rfl, rv'⟩ := ro.some
      exact ix_dict hu value slice pins s σ H _ _ v u Q I rx ry ⟨_, y', rv_ref.mp ra, g, w.at rh rv'⟩ hs
    · exact w.elim
  · exact w.elim
theorem clip_sIx (n d : Nat) (o : Option Int) : clip n d o = HT.sIx n d o := by
  cases o <;> rfl
theorem RVs.cut {K : Frag} {H : Hp} {xs : List Val} {ys : List V} (lo hi : Option Int) (h : RVs T K H xs ys) : RVs T K H (MP.cut xs lo hi) (cutV ys lo hi) := by
  unfold MP.cut cutV
  rw [clip_sIx, clip_sIx, h.length]
  exact (h.drop _).take _
def rSl (T : Tb) (K : Frag) : V → Option Int → Option Int → Hp → VK → Prop := fun x lo hi H Q => ∃ a h, RV T K H a x ∧ RH T K h H ∧ (slcR a lo hi h).wp h (dn T K H Q)
theorem sl_val : SlR X (rSl T X.K) := by
  intro pins s σ H x v vl vu lo hi sl Q I rx hs pl pu ⟨a, h, ra, rh, w⟩
  unfold slcR at w
  split at w
  · rename_i z
    obtain ⟨rfl, hz⟩ := rv_str.mp ra
    refine sl_str pins s σ H _ v vl vu lo hi sl Q I rx hs pl pu ⟨_, rfl, ?_, ?_⟩
    · rw [szl]; show z.toArray.size ≤ SZ; rw [List.size_toArray]; exact hz
    · refine dn.at w rh (rv_str.mpr ⟨?_, ?_⟩)
      · unfold cutS MP.cut
        rw [clip_sIx, clip_sIx]
        show V.str ⟨((z.toArray.toList.drop (HT.sIx z.toArray.size 0 lo)).take (HT.sIx z.toArray.size z.toArray.size hi - HT.sIx z.toArray.size 0 lo)).toArray⟩ = _
        rw [List.size_toArray]
      · unfold MP.cut
        rw [List.length_take, List.length_drop]
        omega
  · rename_i xs
    obtain ⟨p, ys, rfl, sp, rs⟩ := rv_tup.mp ra
    refine sl_tupA pins s σ H _ v vl vu lo hi sl Q I rx hs pl pu ⟨p, ys, rfl, SqT.of sp, fun e => ?_, fun _ => dn.newT w rh (rs.cut lo hi)⟩
    refine dn.at w rh (rv_tup.mpr ⟨p, ys, rfl, sp, ?_⟩)
    have z := rs.cut lo hi
    unfold cutV at z
    rw [e.1, e.2, List.drop_zero, Nat.sub_zero, List.take_length] at z
    exact z
  · rename_i xs
    obtain ⟨p, ys, rfl, sp, rs⟩ := rv_rls.mp ra
    exact sl_list pins s σ H _ v vl vu lo hi sl Q I rx hs pl pu ⟨p, ys, rfl, sp.sq, dn.newL w.2 rh (rs.cut lo hi)⟩
  · split at w
    · rename_i xs e
      obtain rfl := rv_ref.mp ra
      obtain ⟨ys, e1, rs⟩ := rh.lst e
      exact sl_list pins s σ H _ v vl vu lo hi sl Q I rx hs pl pu ⟨_, ys, rfl, SqL.of e1, dn.newL w.2 rh (rs.cut lo hi)⟩
    · exact w.elim
  · exact w.elim
/-! ### built-in functions -/
def rC (T : Tb) (K : Frag) (F : List Val → VH → Res) : List V → Hp → VK → Prop := fun xs H Q => ∃ vs h, RVs T K H vs xs ∧ RH T K h H ∧ (F vs h).wp h (dn T K H Q)
theorem c_len : CallR X (.builtin "len") (rC T X.K (bifR .len)) := by
  intro pins s σ H xs us Q I r ⟨vs, h, rs, rh, w⟩
  unfold bifR at w
  dsimp only at w
  split at w
  · rename_i a
    obtain ⟨x, t, rfl, ra, rt⟩ := rs.of_cons
    obtain rfl := rt.of_nil
    split at w
    · rename_i n e
      unfold lenV at e
      split at e
      · rename_i z
        obtain ⟨rfl, hz⟩ := rv_str.mp ra
        cases e
        refine call_len_str pins s σ H _ us Q I r ⟨_, rfl, ?_, ?_⟩
        · rw [szl]; show z.toArray.size ≤ SZ; rw [List.size_toArray]; exact hz
        · refine dn.at w rh (rv_int.mpr ?_)
          show V.int ((z.toArray.size : Nat) : Int) = _
          rw [List.size_toArray]
      · obtain ⟨p, ys, rfl, sp, q⟩ := rv_tupS ra
        cases e
        exact call_len_seq pins s σ H _ us Q I r ⟨p, ys, rfl, .inr sp, dn.at w rh (rv_int.mpr (by rw [q.length]))⟩
      · obtain ⟨p, ys, rfl, sp, q⟩ := rv_rls.mp ra
        cases e
        exact call_len_seq pins s σ H _ us Q I r ⟨p, ys, rfl, .inl sp.sq, dn.at w rh (rv_int.mpr (by rw [q.length]))⟩
      · obtain rfl := rv_ref.mp ra
        split at e
        · rename_i xs e2
          obtain ⟨ys, e1, q⟩ := rh.lst e2
          cases e
          exact call_len_seq pins s σ H _ us Q I r ⟨_, ys, rfl, .inl (SqL.of e1), dn.at w rh (rv_int.mpr (by rw [q.length]))⟩
        · rename_i kt kvs e2
          cases kt with
          | false =>
            obtain ⟨ks, e1, q⟩ := rh.dK e2
            cases e
            exact call_lenD pins s σ H _ us Q I r ⟨_, ks, rfl, e1, dn.at w rh (rv_int.mpr (by rw [q.len]))⟩
          | true =>
            obtain ⟨ks, e1, q⟩ := rh.dT e2
            cases e
            exact call_len_dT pins s σ H _ us Q I r ⟨_, ks, rfl, e1, dn.at w rh (rv_int.mpr (by rw [q.len]))⟩
        · cases e
      · cases e
    · exact w.elim
  · exact w.elim
theorem ints_of {K : Frag} {H : Hp} : ∀ {xs : List Val} {ns : List Int} {ys : List V}, intsOf xs = some ns → RVs T K H xs ys → ys = ns.map V.int
  | [], ns, ys, e, r => by cases e; rw [r.of_nil]; rfl
  | x :: xs, ns, ys, e, r => by
    obtain ⟨v, t, rfl, r1, r2⟩ := r.of_cons
    cases x with
    | int i =>
      simp only [intsOf] at e
      cases q : intsOf xs with
      | none => rw [q] at e; cases e
      | some ms =>
        rw [q] at e
        cases e
        rw [rv_int.mp r1, ints_of q r2]
        rfl
    | _ => simp [intsOf] at e
theorem bools_of {K : Frag} {H : Hp} : ∀ {xs : List Val} {ns : List Bool} {ys : List V}, boolsOf xs = some ns → RVs T K H xs ys → ys = ns.map V.bl
  | [], ns, ys, e, r => by cases e; rw [r.of_nil]; rfl
  | x :: xs, ns, ys, e, r => by
    obtain ⟨v, t, rfl, r1, r2⟩ := r.of_cons
    cases x with
    | bl i =>
      simp only [boolsOf] at e
      cases q : boolsOf xs with
      | none => rw [q] at e; cases e
      | some ms =>
        rw [q] at e
        cases e
        rw [rv_bl.mp r1, bools_of q r2]
        rfl
    | _ => simp [boolsOf] at e
theorem strs_of {K : Frag} {H : Hp} : ∀ {xs : List Val} {ns : List (List Nat)} {ys : List V}, strsOf xs = some ns → RVs T K H xs ys → ys = (ns.map fun z => (⟨z.toArray⟩ : Str)).map V.str
  | [], ns, ys, e, r => by cases e; rw [r.of_nil]; rfl
  | x :: xs, ns, ys, e, r => by
    obtain ⟨v, t, rfl, r1, r2⟩ := r.of_cons
    cases x with
    | str i =>
      simp only [strsOf] at e
      cases q : strsOf xs with
      | none => rw [q] at e; cases e
      | some ms =>
        rw [q] at e
        cases e
        rw [(rv_str.mp r1).1, strs_of q r2]
        rfl
    | _ => simp [strsOf] at e
theorem lstV_of {K : Frag} {H : Hp} {h : VH} {a : Val} {x : V} {xs : List Val} (rh : RH T K h H) (ra : RV T K H a x) (e : lstV a h = some xs) : ∃ p ys, x = .ref p ∧ SqL K H p ys ∧ RVs T K H xs ys := by
  exact lstR_of rh ra e
theorem items_ofH {K : Frag} {H : Hp} {h : VH} {a : Val} {x : V} {xs : List Val} (rh : RH T K h H) (ra : RV T K H a x) (e : itemsOf a h = some xs) : ∃ p ys, x = .ref p ∧ (SqL K H p ys ∨ H p = some (.tup ys)) ∧ RVs T K H xs ys := by
  unfold itemsOf at e
  split at e
  · obtain ⟨p, ys, rfl, sp, q⟩ := rv_tup.mp ra
    cases e
    exact ⟨p, ys, rfl, .inr sp, q⟩
  · obtain ⟨p, ys, rfl, sp, q⟩ := rv_rls.mp ra
    cases e
    exact ⟨p, ys, rfl, .inl sp.sq, q⟩
  · obtain rfl := rv_ref.mp ra
    split at e
    · rename_i e2
      obtain ⟨ys, e1, q⟩ := rh.lst e2
      cases e
      exact ⟨_, ys, rfl, .inl (SqL.of e1), q⟩
    · cases e
  · cases e
theorem items_of {K : Frag} {H : Hp} {h : VH} {a : Val} {x : V} {xs : List Val} (rh : RH T K h H) (ra : RV T K H a x) (e : itemsOf a h = some xs) : ∃ p ys, x = .ref p ∧ (SqL K H p ys ∨ SqT K H p ys) ∧ RVs T K H xs ys := by
  obtain ⟨p, ys, e1, h1, h2⟩ := items_ofH rh ra e
  exact ⟨p, ys, e1, h1.imp id SqT.of, h2⟩
theorem c_min (hc : X.calm = true) : CallR X (.builtin "min") (rC T X.K (bifR .min)) := by
  intro pins s σ H xs us Q I r ⟨vs, h, rs, rh, w⟩
  unfold bifR at w
  dsimp only at w
  split at w
  · obtain ⟨x, t, rfl, ra, rt⟩ := rs.of_cons
    obtain ⟨y, t, rfl, rb, rt⟩ := rt.of_cons
    obtain rfl := rt.of_nil
    obtain rfl := rv_int.mp ra
    obtain rfl := rv_int.mp rb
    exact call_min2 hc pins s σ H _ us Q I r ⟨_, _, rfl, dn.at w rh (rv_int.mpr rfl)⟩
  · obtain ⟨x, t, rfl, ra, rt⟩ := rs.of_cons
    obtain rfl := rt.of_nil
    split at w
    · rename_i xs e
      obtain ⟨p, ys, rfl, sp, q⟩ := lstV_of rh ra e
      split at w
      · rename_i n ns e2
        rw [ints_of e2 q] at sp
        exact cr_min hc pins s σ H _ us Q I r ⟨p, n :: ns, rfl, sp, Nat.zero_lt_succ _, fun m h1 h2 => (w.2 _ ⟨m, rfl, h1, h2⟩).at rh (rv_int.mpr rfl)⟩
      · exact w.elim
    · exact w.elim
  · exact w.elim
theorem c_max (hc : X.calm = true) : CallR X (.builtin "max") (rC T X.K (bifR .max)) := by
  intro pins s σ H xs us Q I r ⟨vs, h, rs, rh, w⟩
  unfold bifR at w
  dsimp only at w
  split at w
  · obtain ⟨x, t, rfl, ra, rt⟩ := rs.of_cons
    obtain ⟨y, t, rfl, rb, rt⟩ := rt.of_cons
    obtain rfl := rt.of_nil
    obtain rfl := rv_int.mp ra
    obtain rfl := rv_int.mp rb
    exact call_max2 hc pins s σ H _ us Q I r ⟨_, _, rfl, dn.at w rh (rv_int.mpr rfl)⟩
  · obtain ⟨x, t, rfl, ra, rt⟩ := rs.of_cons
    obtain rfl := rt.of_nil
    split at w
    · rename_i xs e
      obtain ⟨p, ys, rfl, sp, q⟩ := lstV_of rh ra e
      split at w
      · rename_i n ns e2
        rw [ints_of e2 q] at sp
        exact cr_max hc pins s σ H _ us Q I r ⟨p, n :: ns, rfl, sp, Nat.zero_lt_succ _, fun m h1 h2 => (w.2 _ ⟨m, rfl, h1, h2⟩).at rh (rv_int.mpr rfl)⟩
      · exact w.elim
    · exact w.elim
  · exact w.elim
theorem c_abs : CallR X (.builtin "abs") (rC T X.K (bifR .abs)) := by
  intro pins s σ H xs us Q I r ⟨vs, h, rs, rh, w⟩
  unfold bifR at w
  dsimp only at w
  split at w
  · obtain ⟨x, t, rfl, ra, rt⟩ := rs.of_cons
    obtain rfl := rt.of_nil
    obtain rfl := rv_int.mp ra
    exact call_abs pins s σ H _ us Q I r ⟨_, rfl, dn.at w rh (rv_int.mpr rfl)⟩
  · exact w.elim
theorem c_all (hc : X.calm = true) : CallR X (.builtin "all") (rC T X.K (bifR .all)) := by
  intro pins s σ H xs us Q I r ⟨vs, h, rs, rh, w⟩
  unfold bifR at w
  dsimp only at w
  split at w
  · obtain ⟨x, t, rfl, ra, rt⟩ := rs.of_cons
    obtain rfl := rt.of_nil
    split at w
    · rename_i xs e
      obtain ⟨p, ys, rfl, sp, q⟩ := lstV_of rh ra e
      split at w
      · rename_i bs e2
        rw [bools_of e2 q] at sp
        exact cr_all hc pins s σ H _ us Q I r ⟨p, bs, rfl, sp, dn.at w rh (rv_bl.mpr rfl)⟩
      · exact w.elim
    · exact w.elim
  · exact w.elim
theorem c_any (hc : X.calm = true) : CallR X (.builtin "any") (rC T X.K (bifR .any)) := by
  intro pins s σ H xs us Q I r ⟨vs, h, rs, rh, w⟩
  unfold bifR at w
  dsimp only at w
  split at w
  · obtain ⟨x, t, rfl, ra, rt⟩ := rs.of_cons
    obtain rfl := rt.of_nil
    split at w
    · rename_i xs e
      obtain ⟨p, ys, rfl, sp, q⟩ := lstV_of rh ra e
      split at w
      · rename_i bs e2
        rw [bools_of e2 q] at sp
        exact cr_any hc pins s σ H _ us Q I r ⟨p, bs, rfl, sp, dn.at w rh (rv_bl.mpr rfl)⟩
      · exact w.elim
    · exact w.elim
  · exact w.elim
theorem c_sum (hc : X.calm = true) : CallR X (.builtin "sum") (rC T X.K (bifR .sum)) := by
  intro pins s σ H xs us Q I r ⟨vs, h, rs, rh, w⟩
  unfold bifR at w
  dsimp only at w
  split at w
  · obtain ⟨x, t, rfl, ra, rt⟩ := rs.of_cons
    obtain rfl := rt.of_nil
    split at w
    · rename_i xs e
      obtain ⟨p, ys, rfl, sp, q⟩ := lstV_of rh ra e
      split at w
      · rename_i bs e2
        rw [ints_of e2 q] at sp
        exact cr_sum hc pins s σ H _ us Q I r ⟨p, bs, rfl, sp, dn.at w rh (rv_int.mpr rfl)⟩
      · exact w.elim
    · exact w.elim
  · exact w.elim
theorem c_int : CallR X (.type "int") (rC T X.K (bifR .int)) := by
  intro pins s σ H xs us Q I r ⟨vs, h, rs, rh, w⟩
  unfold bifR at w
  dsimp only at w
  split at w
  · obtain ⟨x, t, rfl, ra, rt⟩ := rs.of_cons
    obtain rfl := rt.of_nil
    obtain rfl := rv_int.mp ra
    exact call_int1 pins s σ H _ us Q I r (.inl ⟨_, rfl, dn.at w rh (rv_int.mpr rfl)⟩)
  · obtain ⟨x, t, rfl, ra, rt⟩ := rs.of_cons
    obtain rfl := rt.of_nil
    obtain rfl := rv_bl.mp ra
    exact call_int1 pins s σ H _ us Q I r (.inr ⟨_, rfl, dn.at w rh (rv_int.mpr rfl)⟩)
  · obtain ⟨x, t, rfl, ra, rt⟩ := rs.of_cons
    obtain rfl := rt.of_nil
    obtain ⟨rfl, _⟩ := rv_str.mp ra
    obtain ⟨v, ⟨n, h1, h2, rfl⟩, w⟩ := w
    exact call_int_str pins s σ H _ us Q I r ⟨_, n, rfl, h1, (by show Array.size _ ≤ 640; rw [List.size_toArray]; exact h2), dn.at w rh (rv_int.mpr rfl)⟩
  · exact w.elim
theorem c_str : CallR X (.type "str") (rC T X.K (bifR .str)) := by
  intro pins s σ H xs us Q I r ⟨vs, h, rs, rh, w⟩
  unfold bifR at w
  dsimp only at w
  split at w
  · rename_i i
    obtain ⟨x, t, rfl, ra, rt⟩ := rs.of_cons
    obtain rfl := rt.of_nil
    obtain rfl := rv_int.mp ra
    obtain ⟨⟨w1, w2⟩, w3⟩ := w
    obtain ⟨n, rfl⟩ := Int.eq_ofNat_of_zero_le w1
    have hn : n < 10 ^ 30 := by omega
    refine call_str_int pins s σ H _ us Q I r ⟨_, rfl, ?_, dn.at w3 rh (rv_str.mpr ⟨congrArg V.str (SX.num_S n), ?_⟩)⟩
    · rw [Int.natAbs_natCast]
      rcases Nat.eq_zero_or_pos n with z | z
      · rw [z]; decide
      · have := (Nat.log2_lt (by omega)).mpr (show n < 2 ^ 1920 from Nat.lt_trans hn (by decide +kernel))
        exact this
    · exact Nat.le_trans (TL.numL_len (by decide) hn) (by decide)
  · obtain ⟨x, t, rfl, ra, rt⟩ := rs.of_cons
    obtain rfl := rt.of_nil
    obtain ⟨rfl, hl⟩ := rv_str.mp ra
    exact SkE.call_str_str pins s σ H _ us Q I r ⟨_, rfl, dn.at w rh (rv_str.mpr ⟨rfl, hl⟩)⟩
  · exact w.elim
theorem c_list : CallR X (.type "list") (rC T X.K (bifR .list)) := by
  intro pins s σ H xs us Q I r ⟨vs, h, rs, rh, w⟩
  unfold bifR at w
  dsimp only at w
  split at w
  · obtain ⟨x, t, rfl, ra, rt⟩ := rs.of_cons
    obtain rfl := rt.of_nil
    split at w
    · rename_i xs e
      obtain ⟨p, ys, rfl, sp, q⟩ := items_of rh ra e
      exact call_list_of pins s σ H _ us Q I r ⟨p, ys, rfl, sp, dn.newL w.2 rh q⟩
    · exact w.elim
  · exact w.elim
theorem c_tuple : CallR X (.type "tuple") (rC T X.K (bifR .tuple)) := by
  intro pins s σ H xs us Q I r ⟨vs, h, rs, rh, w⟩
  unfold bifR at w
  dsimp only at w
  split at w
  · obtain ⟨x, t, rfl, ra, rt⟩ := rs.of_cons
    obtain rfl := rt.of_nil
    split at w
    · rename_i xs e
      obtain ⟨p, ys, rfl, sp, q⟩ := items_ofH rh ra e
      refine call_tuple_of pins s σ H _ us Q I r ⟨p, ys, rfl, ?_⟩
      rcases sp with sp | sp
      · exact .inl ⟨sp, dn.newT w rh q⟩
      · exact .inr ⟨SqT.of sp, dn.at w rh (rv_tup.mpr ⟨p, ys, rfl, sp, q⟩)⟩
    · exact w.elim
  · exact w.elim
end
end MP
end
section
set_option maxHeartbeats 1000000
/-! MpH: what a written expression does is what MpB says of it: readings. -/
namespace MP
open PySem PySem.Spec PyProof.Rows L2
abbrev Ctx := L2.Cx
/-! ### exceptions, promises -/
def RX (T : Tb) (K : Frag) (H : Hp) (e : Exc) (cls : Value) (d : Option Addr) : Prop := cls = .ref (T.cls e.cls) ∧ d = e.d
def dx (T : Tb) (K : Frag) (H : Hp) (E : XK) : KX := fun e h' => ∀ cls d H', HLe H H' → RH T K h' H' → RX T K H' e cls d → E cls d H'
/-- a def's promise -/
def spc (Γ : Gam) (T : Tb) (K : Frag) (f : String) (n : Nat) : Sp := fun vs H Q E => vs.length = n ∧ ∃ vals h, RVs T K H vals vs ∧ RH T K h H ∧ Γ.call f vals h (dn T K H Q) (dx T K H E)
theorem dn.sh {T : Tb} {K : Frag} {H H1 : Hp} {Q : VK} (L : HLe H H1) {v : Val} {h : VH} (d : dn T K H Q v h) : dn T K H1 Q v h := fun x H' L' => d x H' (L.trans L')
theorem dx.sh {T : Tb} {K : Frag} {H H1 : Hp} {E : XK} (L : HLe H H1) {e : Exc} {h : VH} (d : dx T K H E e h) : dx T K H1 E e h := fun c d' H' L' => d c d' H' (L.trans L')
theorem dnB.sh {T : Tb} {K : Frag} {H H1 : Hp} {Q : Bool → Hp → Prop} (L : HLe H H1) {t : Bool} {h : VH} (d : dnB T K H Q t h) : dnB T K H1 Q t h := fun H' L' => d H' (L.trans L')
def dnA (T : Tb) (K : Frag) (H : Hp) (Q : List V → Hp → Prop) : List Val → VH → Prop := fun vs h' => ∀ xs H', HLe H H' → RH T K h' H' → RVs T K H' vs xs → Q xs H'
theorem frzV_ok {v : Val} {h : VH} {a : Nat} {xs : List Val} (e : frzV v h = some (a, xs)) : v = .ref a ∧ h a = some (.lst xs) := by
  unfold frzV at e
  split at e
  · split at e
    · rename_i e2; cases e; exact ⟨rfl, e2⟩
    · cases e
  · cases e
/-! ### readings -/
section
variable (Γ : Gam) (T : Tb) (K : Frag) (W : WX)
def tE (m : E) : TE := fun σ H Q => ∃ σv h, RS T K H σv σ ∧ RH T K h H ∧ wpE Γ m σv h (dn T K H Q) (dx T K H fun c d H' => W c d σ H')
def tT (m : E) : TT := fun σ H Q => ∃ σv h, RS T K H σv σ ∧ RH T K h H ∧ wpE Γ m σv h (onT (dnB T K H Q)) (dx T K H fun c d H' => W c d σ H')
def tA (ms : Es) : TA := fun σ H Q => ∃ σv h, RS T K H σv σ ∧ RH T K h H ∧ wpEs Γ ms σv h (dnA T K H Q) (dx T K H fun c d H' => W c d σ H')
def tL (o : Bool) (ms : Es) : TE := fun σ H Q => ∃ σv h, RS T K H σv σ ∧ RH T K h H ∧ wpL Γ o ms σv h (dn T K H Q) (dx T K H fun c d H' => W c d σ H')
def tLT (o : Bool) (ms : Es) : TT := fun σ H Q => ∃ σv h, RS T K H σv σ ∧ RH T K h H ∧ wpL Γ o ms σv h (onT (dnB T K H Q)) (dx T K H fun c d H' => W c d σ H')
def tO (m : O) : TO := fun σ H Q => ∃ σv h, RS T K H σv σ ∧ RH T K h H ∧ wpO Γ m σv h (fun i h' => ∀ H', HLe H H' → RH T K h' H' → Q i H') (dx T K H fun c d H' => W c d σ H')
end
theorem _root_.L2.PE.imp {X : Ctx} {e : Expr} {t t' : TE} (h : PE X e t) (i : ∀ σ H Q, t' σ H Q → t σ H Q) : PE X e t' := ⟨fun pins s σ H Q I z => h.run pins s σ H Q I (i _ _ _ z)⟩
theorem _root_.L2.PT.imp {X : Ctx} {e : Expr} {t t' : TT} (h : PT X e t) (i : ∀ σ H Q, t' σ H Q → t σ H Q) : PT X e t' := ⟨fun pins s σ H Q I z => h.run pins s σ H Q I (i _ _ _ z)⟩
theorem _root_.L2.PW.imp {X : Ctx} {e : Expr} {t t' : TT} (h : PW X e t) (i : ∀ σ H Q, t' σ H Q → t σ H Q) : PW X e t' := ⟨fun wh pins s σ H Q I z => h.run wh pins s σ H Q I (i _ _ _ z)⟩
theorem _root_.L2.PA.imp {X : Ctx} {e : List Expr} {t t' : TA} (h : PA X e t) (i : ∀ σ H Q, t' σ H Q → t σ H Q) : PA X e t' := ⟨fun pos pins s σ H Q I z => h.run pos pins s σ H Q I (i _ _ _ z)⟩
section
variable {Γ : Gam} {T : Tb} {K : Frag} {W : WX} (L : Le Γ Γ)
include L
/-- what comes of a part is handed on -/
theorem tE.of {m : E} {σ : L2.St} {H0 H : Hp} {σv : VS} {h : VH} {Q : KV} {Q' : VK} (l : HLe H0 H) (rs : RS T K H σv σ) (rh : RH T K h H) (w : wpE Γ m σv h Q (dx T K H0 fun c d H' => W c d σ H')) (k : ∀ v h', Q v h' → dn T K H Q' v h') : tE Γ T K W m σ H Q' :=
  ⟨σv, h, rs, rh, wpE_mono L m σv h _ _ _ _ k (fun _ _ z => dx.sh l z) w⟩
theorem tT.of {m : E} {σ : L2.St} {H0 H : Hp} {σv : VS} {h : VH} {k : Bool → VH → Prop} {Q' : Bool → Hp → Prop} (l : HLe H0 H) (rs : RS T K H σv σ) (rh : RH T K h H) (w : wpE Γ m σv h (onT k) (dx T K H0 fun c d H' => W c d σ H')) (i : ∀ t h', k t h' → dnB T K H Q' t h') : tT Γ T K W m σ H Q' :=
  ⟨σv, h, rs, rh, wpE_mono L m σv h _ _ _ _ (fun _ _ z => onT_mono i z) (fun _ _ z => dx.sh l z) w⟩
theorem tA.of {m : Es} {σ : L2.St} {H0 H : Hp} {σv : VS} {h : VH} {Q : List Val → VH → Prop} {Q' : List V → Hp → Prop} (l : HLe H0 H) (rs : RS T K H σv σ) (rh : RH T K h H) (w : wpEs Γ m σv h Q (dx T K H0 fun c d H' => W c d σ H')) (k : ∀ v h', Q v h' → dnA T K H Q' v h') : tA Γ T K W m σ H Q' :=
  ⟨σv, h, rs, rh, wpEs_mono L m σv h _ _ _ _ k (fun _ _ z => dx.sh l z) w⟩
theorem tO.of {m : O} {σ : L2.St} {H0 H : Hp} {σv : VS} {h : VH} {Q : Option Int → VH → Prop} {Q' : Option Int → Hp → Prop} (l : HLe H0 H) (rs : RS T K H σv σ) (rh : RH T K h H) (w : wpO Γ m σv h Q (dx T K H0 fun c d H' => W c d σ H')) (k : ∀ v h', Q v h' → ∀ H', HLe H H' → RH T K h' H' → Q' v H') : tO Γ T K W m σ H Q' :=
  ⟨σv, h, rs, rh, wpO_mono L m σv h _ _ _ _ k (fun _ _ z => dx.sh l z) w⟩
end
section
variable {X : Ctx} {Γ : Gam} {T : Tb} {W : WX} {a b c e : Expr} {ma mb mc : E} {pos : Pos}
/-- what the value-operations hand on, from a later state -/
theorem r2.of {K : Frag} {R : Val → Val → VH → Res} {x y : V} {H0 H : Hp} {Q : VK} {u v : Val} {h : VH} (l : HLe H0 H) (rx : RV T K H u x) (ry : RV T K H v y) (rh : RH T K h H) (w : (R u v h).wp h (dn T K H0 Q)) : r2 T K R x y H Q :=
  ⟨u, v, h, rx, ry, rh, Res.mono (fun _ _ z => dn.sh l z) w⟩
theorem s_bop (L : Le Γ Γ) {o : Bop} (ha : PE X a (tE Γ T X.K W ma)) (hb : PE X b (tE Γ T X.K W mb)) : PE X (.BinOp a (opOf o) b pos) (tE Γ T X.K W (.bop o ma mb)) :=
  (pe_op (op_bop (T := T) o) ha hb).imp fun σ H Q ⟨σv, h, rs, rh, w⟩ => by
    simp only [wpE] at w
    exact tE.of L .refl rs rh w fun u h1 w1 x H1 l1 rh1 rx => tE.of L l1 (rs.le l1) rh1 w1 fun v h2 w2 y H2 l2 rh2 ry => r2.of (l1.trans l2) (rx.le l2) ry rh2 w2
theorem s_cmp (L : Le Γ Γ) {o : Cop} (hu : X.A.units + 65 < cLine) (ha : PE X a (tE Γ T X.K W ma)) (hb : PE X b (tE Γ T X.K W mb)) (hm : behindInMarks (cmpOf o) b = false) :
    PE X (.Compare a [cmpOf o] [b] pos) (tE Γ T X.K W (.cmp o ma mb)) ∧ PT X (.Compare a [cmpOf o] [b] pos) (tT Γ T X.K W (.cmp o ma mb)) := by
  refine ⟨(pe_cmpR (op_cmp (T := T) hu o) ha hb hm).imp fun σ H Q ⟨σv, h, rs, rh, w⟩ => ?_, (pt_cmpR (op_cmp (T := T) hu o) ha hb hm).imp fun σ H Q ⟨σv, h, rs, rh, w⟩ => ?_⟩
  · simp only [wpE] at w
    exact tE.of L .refl rs rh w fun u h1 w1 x H1 l1 rh1 rx => tE.of L l1 (rs.le l1) rh1 w1 fun v h2 w2 y H2 l2 rh2 ry => ⟨u, v, h2, rx.le l2, ry, rh2, Bes.mono (fun t z => dn.at (dn.sh (l1.trans l2) z) rh2 (rv_bl.mpr rfl)) w2⟩
  · simp only [wpE] at w
    exact tE.of L .refl rs rh w fun u h1 w1 x H1 l1 rh1 rx => tE.of L l1 (rs.le l1) rh1 w1 fun v h2 w2 y H2 l2 rh2 ry => ⟨u, v, h2, rx.le l2, ry, rh2, Bes.mono (fun t z => ⟨t, rfl, z H2 (l1.trans l2) rh2⟩) w2⟩
theorem s_chn (L : Le Γ Γ) {o p : Cop} (hu : X.A.units + 65 < cLine) (ha : PE X a (tE Γ T X.K W ma)) (hb : PE X b (tE Γ T X.K W mb)) (hc : PE X c (tE Γ T X.K W mc)) (hm : lastMarks [cmpOf o, cmpOf p] [b, c] = false) :
    PE X (.Compare a [cmpOf o, cmpOf p] [b, c] pos) (tE Γ T X.K W (.chn o p ma mb mc)) ∧ PT X (.Compare a [cmpOf o, cmpOf p] [b, c] pos) (tT Γ T X.K W (.chn o p ma mb mc)) := by
  refine ⟨(pe_chain (op_cmp (T := T) hu o) (op_cmp (T := T) hu p) ha hb hc hm).imp fun σ H Q ⟨σv, h, rs, rh, w⟩ => ?_, (pt_chain (op_cmp (T := T) hu o) (op_cmp (T := T) hu p) ha hb hc hm).imp fun σ H Q ⟨σv, h, rs, rh, w⟩ => ?_⟩
  · simp only [wpE] at w
    refine tE.of L .refl rs rh w fun u h1 w1 x H1 l1 rh1 rx => tE.of L l1 (rs.le l1) rh1 w1 fun v h2 w2 y H2 l2 rh2 ry => ⟨u, v, h2, rx.le l2, ry, rh2, Bes.mono (fun t z => ⟨t, rfl, ?_⟩) w2⟩
    cases t with
    | false => exact dn.at (dn.sh (l1.trans l2) z) rh2 (rv_bl.mpr rfl)
    | true => exact tE.of L (l1.trans l2) (rs.le (l1.trans l2)) rh2 z fun w' h3 w3 q H3 l3 rh3 rq => ⟨v, w', h3, ry.le l3, rq, rh3, Bes.mono (fun t z => dn.at (dn.sh ((l1.trans l2).trans l3) z) rh3 (rv_bl.mpr rfl)) w3⟩
  · simp only [wpE] at w
    refine tE.of L .refl rs rh w fun u h1 w1 x H1 l1 rh1 rx => tE.of L l1 (rs.le l1) rh1 w1 fun v h2 w2 y H2 l2 rh2 ry => ⟨u, v, h2, rx.le l2, ry, rh2, Bes.mono (fun t z => ⟨t, rfl, ?_⟩) w2⟩
    cases t with
    | false => exact ⟨false, rfl, z H2 (l1.trans l2) rh2⟩
    | true => exact tE.of L (l1.trans l2) (rs.le (l1.trans l2)) rh2 z fun w' h3 w3 q H3 l3 rh3 rq => ⟨v, w', h3, ry.le l3, rq, rh3, Bes.mono (fun t z => ⟨t, rfl, z H3 ((l1.trans l2).trans l3) rh3⟩) w3⟩
/-- a plain expression as a test -/
theorem s_plain (L : Le Γ Γ) (ha : PE X a (tE Γ T X.K W ma)) (he : ∀ whole, isTrue a X.env whole = (do let v ← whole; standAt a.pos; holding [v] (truthy v))) : PT X a (tT Γ T X.K W ma) :=
  (pt_truth ha he).imp fun σ H Q ⟨σv, h, rs, rh, w⟩ => tE.of L .refl rs rh w fun u h1 w1 x H1 l1 rh1 rx => by
    obtain ⟨t, h1, h2⟩ := tru_of rx rh1 w1
    exact ⟨t, h1, h2 H1 l1 rh1⟩
/-- a list is known as a value from then on -/
theorem s_frz (L : Le Γ Γ) (ha : PE X a (tE Γ T X.K W ma)) : PE X a (tE Γ T X.K W (.frz ma)) := by
  refine ⟨fun pins s σ H Q I ⟨σv, h, rs, rh, w⟩ => ?_⟩
  simp only [wpE] at w
  refine thn (ha.run pins s σ H (fun x H1 => HLe H H1 ∧ ∃ u h1, RV T X.K H1 u x ∧ RH T X.K h1 H1 ∧ frzK (dn T X.K H Q) u h1) I ?_) fun v s1 ⟨x, H1, I1, r1, l1, u, h1, rv, rh1, q⟩ => ?_
  · exact tE.of L .refl rs rh w fun u h1 w1 x H1 l1 rh1 rx => ⟨l1, u, h1, rx, rh1, w1⟩
  · unfold frzK at q
    cases e : frzV u h1 with
    | none => rw [e] at q; exact ⟨x, H1, I1, r1, dn.at (dn.sh l1 q) rh1 rv⟩
    | some p =>
      obtain ⟨a, xs⟩ := p
      rw [e] at q
      obtain ⟨rfl, e2⟩ := frzV_ok e
      obtain rfl := rv_ref.mp rv
      obtain ⟨ys, e1, rs1⟩ := rh1.lst e2
      obtain ⟨od, I2⟩ := I1.lock e1 True.intro
      have l2 : HLe H1 (upd H1 a (.frz od (.lst ys))) := .put e1 True.intro
      exact ⟨.ref a, _, I2, r1, q _ _ (l1.trans l2) (rh1.frz e1) (rv_rls.mpr ⟨a, ys, rfl, .inl ⟨od, upd_same⟩, rs1.le l2⟩)⟩
theorem s_neg (L : Le Γ Γ) (ha : PE X a (tE Γ T X.K W ma)) : PE X (.UnaryOp .USub a pos) (tE Γ T X.K W (.neg ma)) :=
  (pe_un un_neg ha).imp fun σ H Q ⟨σv, h, rs, rh, w⟩ => by
    simp only [wpE] at w
    refine tE.of L .refl rs rh w fun u h1 w1 x H1 l1 rh1 rx => ?_
    unfold negR at w1
    split at w1
    · obtain rfl := rv_int.mp rx
      exact ⟨_, rfl, dn.at (dn.sh l1 w1) rh1 (rv_int.mpr rfl)⟩
    · exact w1.elim
theorem s_inv (L : Le Γ Γ) (ha : PE X a (tE Γ T X.K W ma)) : PE X (.UnaryOp .Invert a pos) (tE Γ T X.K W (.inv ma)) :=
  (pe_un un_inv ha).imp fun σ H Q ⟨σv, h, rs, rh, w⟩ => by
    simp only [wpE] at w
    refine tE.of L .refl rs rh w fun u h1 w1 x H1 l1 rh1 rx => ?_
    unfold invR at w1
    split at w1
    · obtain rfl := rv_int.mp rx
      exact ⟨_, rfl, dn.at (dn.sh l1 w1) rh1 (rv_int.mpr rfl)⟩
    · exact w1.elim
theorem s_not (L : Le Γ Γ) (ha : PE X a (tE Γ T X.K W ma)) (ht : PT X a (tT Γ T X.K W ma)) : PE X (.UnaryOp .Not a pos) (tE Γ T X.K W (.not ma)) ∧ PT X (.UnaryOp .Not a pos) (tT Γ T X.K W (.not ma)) := by
  refine ⟨⟨fun pins s σ H Q I ⟨σv, h, rs, rh, w⟩ => ?_⟩, (pt_not ht).imp fun σ H Q ⟨σv, h, rs, rh, w⟩ => ?_⟩
  · simp only [wpE] at w
    refine UnaryOp_ (thn (ha.run pins s σ H (fun x H1 => ∃ k, TruV X.K x H1 k ∧ Q (.bl (!k)) H1) I ?_) fun v s1 ⟨x, H1, I1, r1, k, h1, q1⟩ => not_of (tru_ok pins s1 σ H1 x v (fun b H' => Q (.bl (!b)) H') I1 r1 ⟨k, h1, q1⟩ |> fun z => thn z fun b s2 ⟨H2, I2, q2⟩ => ⟨.bl (!b), H2, I2, rfl, q2⟩))
    refine tE.of L .refl rs rh w fun u h1 w1 x H1 l1 rh1 rx => ?_
    obtain ⟨t, h1, h2⟩ := tru_of rx rh1 w1
    exact ⟨t, h1, dn.at (dn.sh l1 h2) rh1 (rv_bl.mpr rfl)⟩
  · simp only [wpE] at w
    exact tT.of L .refl rs rh w fun t h' z H' l rh' => z H' l rh'
theorem s_isn (L : Le Γ Γ) {j : Nat} {pos' : Pos} (ha : PE X a (tE Γ T X.K W ma)) : PE X (.Compare a [.Is] [.Constant .none j pos'] pos) (tE Γ T X.K W (.isn ma)) ∧ PT X (.Compare a [.Is] [.Constant .none j pos'] pos) (tT Γ T X.K W (.isn ma)) := by
  have key : ∀ {K : Frag} {H : Hp} {u : Val} {x : V}, RV T K H u x → decide (x = .non) = isN u := fun {K H u x} r => by
    cases u with
    | non => rw [rv_non.mp r]; rfl
    | bl => rw [rv_bl.mp r]; rfl
    | int => rw [rv_int.mp r]; rfl
    | str => rw [(rv_str.mp r).1]; rfl
    | tup => obtain ⟨_, _, rfl, _⟩ := rv_tupS r; rfl
    | rls => obtain ⟨_, _, rfl, _⟩ := rv_rls.mp r; rfl
    | ref => rw [rv_ref.mp r]; rfl
    | fn => rw [rv_fn.mp r]; rfl
    | ktp => obtain ⟨_, _, rfl, _⟩ := rv_ktp.mp r; rfl
  refine ⟨(pe_cmp (pc_isN ha)).imp fun σ H Q ⟨σv, h, rs, rh, w⟩ => ?_, (pt_cmp (pc_isN ha)).imp fun σ H Q ⟨σv, h, rs, rh, w⟩ => ?_⟩
  · simp only [wpE] at w
    exact tE.of L .refl rs rh w fun u h1 w1 x H1 l1 rh1 rx => dn.at (dn.sh l1 w1) rh1 (rv_bl.mpr (by rw [key rx]))
  · simp only [wpE] at w
    exact tE.of L .refl rs rh w fun u h1 w1 x H1 l1 rh1 rx => ⟨_, rfl, by rw [key rx]; exact w1 H1 l1 rh1⟩
theorem s_ntn (L : Le Γ Γ) {j : Nat} {pos' : Pos} (ha : PE X a (tE Γ T X.K W ma)) : PE X (.Compare a [.IsNot] [.Constant .none j pos'] pos) (tE Γ T X.K W (.ntn ma)) ∧ PT X (.Compare a [.IsNot] [.Constant .none j pos'] pos) (tT Γ T X.K W (.ntn ma)) := by
  have key : ∀ {K : Frag} {H : Hp} {u : Val} {x : V}, RV T K H u x → decide (x = .non) = isN u := fun {K H u x} r => by
    cases u with
    | non => rw [rv_non.mp r]; rfl
    | bl => rw [rv_bl.mp r]; rfl
    | int => rw [rv_int.mp r]; rfl
    | str => rw [(rv_str.mp r).1]; rfl
    | tup => obtain ⟨_, _, rfl, _⟩ := rv_tupS r; rfl
    | rls => obtain ⟨_, _, rfl, _⟩ := rv_rls.mp r; rfl
    | ref => rw [rv_ref.mp r]; rfl
    | fn => rw [rv_fn.mp r]; rfl
    | ktp => obtain ⟨_, _, rfl, _⟩ := rv_ktp.mp r; rfl
  refine ⟨(pe_cmp (pc_notN ha)).imp fun σ H Q ⟨σv, h, rs, rh, w⟩ => ?_, (pt_cmp (pc_notN ha)).imp fun σ H Q ⟨σv, h, rs, rh, w⟩ => ?_⟩
  · simp only [wpE] at w
    exact tE.of L .refl rs rh w fun u h1 w1 x H1 l1 rh1 rx => dn.at (dn.sh l1 w1) rh1 (rv_bl.mpr (by rw [key rx]))
  · simp only [wpE] at w
    exact tE.of L .refl rs rh w fun u h1 w1 x H1 l1 rh1 rx => ⟨_, rfl, by rw [key rx]; exact w1 H1 l1 rh1⟩
theorem s_ife (L : Le Γ Γ) (hc : PT X c (tT Γ T X.K W mc)) (ha : PE X a (tE Γ T X.K W ma)) (hb : PE X b (tE Γ T X.K W mb)) (ta : PT X a (tT Γ T X.K W ma)) (tb : PT X b (tT Γ T X.K W mb)) :
    PE X (.IfExp c a b pos) (tE Γ T X.K W (.ife mc ma mb)) ∧ PT X (.IfExp c a b pos) (tT Γ T X.K W (.ife mc ma mb)) := by
  refine ⟨(pe_ifExp hc ha hb).imp fun σ H Q ⟨σv, h, rs, rh, w⟩ => ?_, ⟨fun pins s σ H Q I ⟨σv, h, rs, rh, w⟩ => ?_⟩⟩
  · simp only [wpE] at w
    refine tT.of L .refl rs rh w fun t h1 w1 H1 l1 rh1 => ?_
    cases t with
    | true => exact tE.of L l1 (rs.le l1) rh1 w1 fun v h2 w2 => dn.sh l1 w2
    | false => exact tE.of L l1 (rs.le l1) rh1 w1 fun v h2 w2 => dn.sh l1 w2
  · simp only [wpE] at w
    have e : isTrue (.IfExp c a b pos) X.env (eval (.IfExp c a b pos) X.env) = (do if ← isTrue c X.env (eval c X.env) then isTrue a X.env (eval a X.env) else isTrue b X.env (eval b X.env)) := rfl
    rw [e]
    refine wpAny_bind (thn (hc.run pins s σ H (fun t H1 => if t = true then tT Γ T X.K W ma σ H1 Q else tT Γ T X.K W mb σ H1 Q) I ?_) fun d s1 ⟨H1, I1, q1⟩ => ?_)
    · refine tT.of L .refl rs rh w fun t h1 w1 H1 l1 rh1 => ?_
      cases t with
      | true => exact tT.of L l1 (rs.le l1) rh1 w1 fun v h2 w2 => dnB.sh l1 w2
      | false => exact tT.of L l1 (rs.le l1) rh1 w1 fun v h2 w2 => dnB.sh l1 w2
    · cases d with
      | true => exact ta.run pins s1 σ H1 Q I1 q1
      | false => exact tb.run pins s1 σ H1 Q I1 q1
end
end MP
end
section
set_option maxHeartbeats 1000000
/-! MpI: more readings: and, or, subscripts, displays, calls. -/
namespace MP
open PySem PySem.Spec PyProof.Rows L2
section
variable {X : Ctx} {Γ : Gam} {T : Tb} {W : WX} {a b c e : Expr} {es : List Expr} {ma mb mc : E} {ms : Es} {pos : Pos}
/-! ### argument lists -/
theorem s_nil : PA X [] (tA Γ T X.K W .nil) :=
  pa_nil.imp fun σ H Q ⟨σv, h, rs, rh, w⟩ => by
    simp only [wpEs] at w
    exact w [] H .refl rh .nil
theorem s_cons (L : Le Γ Γ) (ha : PE X e (tE Γ T X.K W ma)) (hr : PA X es (tA Γ T X.K W ms)) (hs : starEach (e :: es) X.env = (false, eval e X.env) :: starEach es X.env) : PA X (e :: es) (tA Γ T X.K W (.cons ma ms)) :=
  (pa_cons ha hr hs).imp fun σ H Q ⟨σv, h, rs, rh, w⟩ => by
    simp only [wpEs] at w
    exact tE.of L .refl rs rh w fun u h1 w1 x H1 l1 rh1 rx => tA.of L l1 (rs.le l1) rh1 w1 fun vs h2 w2 xs H2 l2 rh2 rxs => w2 _ _ (l1.trans l2) rh2 (.cons (rx.le l2) rxs)
/-! ### and, or -/
theorem truB_idem {u : Val} {h : VH} {k : Bool → Prop} {o : Bool} {A : Prop} (w : (truB u h).wp fun t => if t = o then A else (truB u h).wp k) : (truB u h).wp fun t => if t = o then A else k t := by
  cases e : truB u h with
  | ok t =>
    rw [e] at w
    exact w
  | ex p =>
    unfold truB at e
    split at e <;> first | cases e | (split at e <;> cases e)
  | bad => rw [e] at w; exact w
theorem s_lg1 (L : Le Γ Γ) {o : Bool} {op : BoolOp} (ha : PE X e (tE Γ T X.K W ma)) : PE X (.BoolOp op [e] pos) (tL Γ T X.K W o (.cons ma .nil)) :=
  (pe_one ha).imp fun σ H Q ⟨σv, h, rs, rh, w⟩ => by
    simp only [wpL] at w
    exact ⟨σv, h, rs, rh, w⟩
theorem s_lgA (L : Le Γ Γ) {ma' : E} {ms : Es} {rest : List Expr} (ha : PE X a (tE Γ T X.K W ma)) (hb : PE X (.BoolOp .And (b :: rest) pos) (tL Γ T X.K W true (.cons ma' ms))) : PE X (.BoolOp .And (a :: b :: rest) pos) (tL Γ T X.K W true (.cons ma (.cons ma' ms))) :=
  (pe_andT ha hb).imp fun σ H Q ⟨σv, h, rs, rh, w⟩ => by
    rw [wpL] at w
    refine tE.of L .refl rs rh w fun u h1 w1 x H1 l1 rh1 rx => ?_
    obtain ⟨t, q1, q2⟩ := tru_of rx rh1 w1
    refine ⟨t, q1, ?_⟩
    cases t with
    | true => exact ⟨σv, h1, rs.le l1, rh1, wpL_mono L _ _ _ _ _ _ _ _ (fun _ _ z => dn.sh l1 z) (fun _ _ z => dx.sh l1 z) q2⟩
    | false => exact dn.at (dn.sh l1 q2) rh1 rx
theorem s_lgO (L : Le Γ Γ) {ma' : E} {ms : Es} {rest : List Expr} (ha : PE X a (tE Γ T X.K W ma)) (hb : PE X (.BoolOp .Or (b :: rest) pos) (tL Γ T X.K W false (.cons ma' ms))) : PE X (.BoolOp .Or (a :: b :: rest) pos) (tL Γ T X.K W false (.cons ma (.cons ma' ms))) :=
  (pe_orT ha hb).imp fun σ H Q ⟨σv, h, rs, rh, w⟩ => by
    rw [wpL] at w
    refine tE.of L .refl rs rh w fun u h1 w1 x H1 l1 rh1 rx => ?_
    obtain ⟨t, q1, q2⟩ := tru_of rx rh1 w1
    refine ⟨t, q1, ?_⟩
    cases t with
    | false => exact ⟨σv, h1, rs.le l1, rh1, wpL_mono L _ _ _ _ _ _ _ _ (fun _ _ z => dn.sh l1 z) (fun _ _ z => dx.sh l1 z) q2⟩
    | true => exact dn.at (dn.sh l1 q2) rh1 rx
theorem s_lgT1 (L : Le Γ Γ) {o : Bool} (ha : PT X e (tT Γ T X.K W ma)) : PW X (.BoolOp (if o then .And else .Or) [e] pos) (tLT Γ T X.K W o (.cons ma .nil)) := by
  cases o with
  | true =>
    refine (pw_and1 ha).imp fun σ H Q ⟨σv, h, rs, rh, w⟩ => ?_
    simp only [wpL] at w
    exact ⟨σv, h, rs, rh, w⟩
  | false =>
    refine (pw_or1 ha).imp fun σ H Q ⟨σv, h, rs, rh, w⟩ => ?_
    simp only [wpL] at w
    exact ⟨σv, h, rs, rh, w⟩
theorem wpL_onT {o : Bool} {e' : E} {es' : Es} {σ : VS} {u : Val} {h1 : VH} {k : Bool → VH → Prop} {Xc : KX} (w : (truB u h1).wp fun t => if t = o then wpL Γ o (.cons e' es') σ h1 (onT k) Xc else onT k u h1) :
    onT (fun t h1 => if t = o then wpL Γ o (.cons e' es') σ h1 (onT k) Xc else k t h1) u h1 := truB_idem w
theorem s_lgTA (L : Le Γ Γ) {ma' : E} {ms : Es} {rest : List Expr} (ha : PT X a (tT Γ T X.K W ma)) (hb : PW X (.BoolOp .And (b :: rest) pos) (tLT Γ T X.K W true (.cons ma' ms))) : PW X (.BoolOp .And (a :: b :: rest) pos) (tLT Γ T X.K W true (.cons ma (.cons ma' ms))) :=
  (pw_and ha hb).imp fun σ H Q ⟨σv, h, rs, rh, w⟩ => by
    rw [wpL] at w
    refine tT.of L .refl rs rh (wpE_mono L _ _ _ _ _ _ _ (fun u h1 z => wpL_onT z) (fun _ _ z => z) w) fun t h1 w1 H1 l1 rh1 => ?_
    cases t with
    | true => exact ⟨σv, h1, rs.le l1, rh1, wpL_mono L _ _ _ _ _ _ _ _ (fun _ _ z => onT_mono (fun t h z => dnB.sh l1 z) z) (fun _ _ z => dx.sh l1 z) w1⟩
    | false => exact w1 H1 l1 rh1
theorem s_lgTO (L : Le Γ Γ) {ma' : E} {ms : Es} {rest : List Expr} (ha : PT X a (tT Γ T X.K W ma)) (hb : PW X (.BoolOp .Or (b :: rest) pos) (tLT Γ T X.K W false (.cons ma' ms))) : PW X (.BoolOp .Or (a :: b :: rest) pos) (tLT Γ T X.K W false (.cons ma (.cons ma' ms))) :=
  (pw_or ha hb).imp fun σ H Q ⟨σv, h, rs, rh, w⟩ => by
    rw [wpL] at w
    refine tT.of L .refl rs rh (wpE_mono L _ _ _ _ _ _ _ (fun u h1 z => wpL_onT z) (fun _ _ z => z) w) fun t h1 w1 H1 l1 rh1 => ?_
    cases t with
    | false => exact ⟨σv, h1, rs.le l1, rh1, wpL_mono L _ _ _ _ _ _ _ _ (fun _ _ z => onT_mono (fun t h z => dnB.sh l1 z) z) (fun _ _ z => dx.sh l1 z) w1⟩
    | true => exact w1 H1 l1 rh1
/-! ### subscripts, displays -/
theorem s_idx (L : Le Γ Γ) (hu : X.A.units + 1 < cLine) (ha : PE X a (tE Γ T X.K W ma)) (hb : PE X b (tE Γ T X.K W mb)) (hs : PlainIx b) : PE X (.Subscript a b pos) (tE Γ T X.K W (.idx ma mb)) :=
  (pe_ix (ix_val (T := T) hu) ha hb hs).imp fun σ H Q ⟨σv, h, rs, rh, w⟩ => by
    simp only [wpE] at w
    exact tE.of L .refl rs rh w fun u h1 w1 x H1 l1 rh1 rx => tE.of L l1 (rs.le l1) rh1 w1 fun v h2 w2 y H2 l2 rh2 ry => r2.of (l1.trans l2) (rx.le l2) ry rh2 w2
theorem s_no : PO X none (tO Γ T X.K W .no) := ⟨fun pins s σ H Q I ⟨σv, h, rs, rh, w⟩ => po_none.run pins s σ H Q I (by
    simp only [wpO] at w
    exact w H .refl rh)⟩
theorem s_some (L : Le Γ Γ) (ha : PE X a (tE Γ T X.K W ma)) : PO X (some a) (tO Γ T X.K W (.some ma)) := ⟨fun pins s σ H Q I ⟨σv, h, rs, rh, w⟩ => (po_some ha).run pins s σ H Q I (by
    simp only [wpO] at w
    refine tE.of L .refl rs rh w fun u h1 w1 x H1 l1 rh1 rx => ?_
    unfold intO at w1
    cases u with
    | int i =>
      rw [rv_int.mp rx]
      exact ⟨i, rfl, w1 H1 l1 rh1⟩
    | _ => exact w1.elim)⟩
theorem s_slc (L : Le Γ Γ) {lo hi : Option Expr} {ml mh : O} {p2 : Pos} (ha : PE X a (tE Γ T X.K W ma)) (hl : PO X lo (tO Γ T X.K W ml)) (hh : PO X hi (tO Γ T X.K W mh)) : PE X (.Subscript a (.Slice lo hi none p2) pos) (tE Γ T X.K W (.slc ma ml mh)) :=
  (pe_slice (sl_val (T := T)) ha hl hh).imp fun σ H Q ⟨σv, h, rs, rh, w⟩ => by
    simp only [wpE] at w
    exact tE.of L .refl rs rh w fun u h1 w1 x H1 l1 rh1 rx => tO.of L l1 (rs.le l1) rh1 w1 fun i h2 w2 H2 l2 rh2 => tO.of L (l1.trans l2) (rs.le (l1.trans l2)) rh2 w2 fun j h3 w3 H3 l3 rh3 =>
      ⟨u, h3, rx.le (l2.trans l3), rh3, Res.mono (fun _ _ z => dn.sh ((l1.trans l2).trans l3) z) w3⟩
theorem s_lst (L : Le Γ Γ) (ha : PA X es (tA Γ T X.K W ms)) : PE X (.List es pos) (tE Γ T X.K W (.lst ms)) :=
  (pe_lst ha).imp fun σ H Q ⟨σv, h, rs, rh, w⟩ => by
    simp only [wpE] at w
    exact tA.of L .refl rs rh w fun vs h1 w1 xs H1 l1 rh1 rxs => ⟨by rw [szl, ← rxs.length]; exact w1.1, dn.newL (fun p hp => dn.sh l1 (w1.2 p hp)) rh1 rxs⟩
theorem s_tup (L : Le Γ Γ) {k : Nat} (ha : PA X es (tA Γ T X.K W ms)) : PE X (.Tuple es k pos) (tE Γ T X.K W (.tup ms)) :=
  (pe_tup ha).imp fun σ H Q ⟨σv, h, rs, rh, w⟩ => by
    simp only [wpE] at w
    exact tA.of L .refl rs rh w fun vs h1 w1 xs H1 l1 rh1 rxs => ⟨by rw [szl, ← rxs.length]; exact w1.1, dn.newT (dn.sh l1 w1.2) rh1 rxs⟩
/-! ### calls of built-ins -/
theorem s_bifB (L : Le Γ Γ) {f : Bif} {id : String} {x : Str} {p : Pos} (hc : CallR X (.builtin id) (rC T X.K (bifR f))) (hg : Gl X x) (hm : X.mg x = none) (hv : bootBuiltins x = some (.builtin id)) (ha : PA X (e :: es) (tA Γ T X.K W ms)) (hn : x ≠ "__name__") (hdb : (x == ("__debug__" : Str)) = false)
    (he : starEach (e :: es) X.env = (false, eval e X.env) :: starEach es X.env) (hpl : (backTo pos (starEach es X.env)).any (·.1) = false) : PE X (.Call (.Name x p) (e :: es) [] pos) (tE Γ T X.K W (.bif f ms)) :=
  (pe_callB hc hg hm hv ha hn hdb he hpl).imp fun σ H Q ⟨σv, h, rs, rh, w⟩ => by
    simp only [wpE] at w
    exact tA.of L .refl rs rh w fun vs h1 w1 xs H1 l1 rh1 rxs => ⟨vs, h1, rxs, rh1, Res.mono (fun _ _ z => dn.sh l1 z) w1⟩
theorem s_bifT (L : Le Γ Γ) {f : Bif} {id : String} {x : Str} {p : Pos} (hc : CallR X (.type id) (rC T X.K (bifR f))) (hg : Gl X x) (hm : X.mg x = none) (hv : bootBuiltins x = some (.type id)) (ha : PA X (e :: es) (tA Γ T X.K W ms)) (hn : x ≠ "__name__") (hdb : (x == ("__debug__" : Str)) = false)
    (he : starEach (e :: es) X.env = (false, eval e X.env) :: starEach es X.env) (hpl : (backTo pos (starEach es X.env)).any (·.1) = false) : PE X (.Call (.Name x p) (e :: es) [] pos) (tE Γ T X.K W (.bif f ms)) :=
  (pe_callTy hc hg hm hv ha hn hdb he hpl).imp fun σ H Q ⟨σv, h, rs, rh, w⟩ => by
    simp only [wpE] at w
    exact tA.of L .refl rs rh w fun vs h1 w1 xs H1 l1 rh1 rxs => ⟨vs, h1, rxs, rh1, Res.mono (fun _ _ z => dn.sh l1 z) w1⟩
/-! ### calls of the program's functions -/
/-- a value that may be called as the label f says, wherever -/
def CallV (X : Ctx) (W : WX) (Γ : Gam) (T : Tb) (u : Value) (f : String) : Prop :=
  ∀ (pins : List (Addr × PySem.Obj)) (s : Shared) (σ : L2.St) (H : Hp) (xs : List V) (us : List Value) (vals : List Val) (h : VH) (Q : VK), Inv X pins σ H s → Vals xs us → RVs T X.K H vals xs → RH T X.K h H →
    Γ.call f vals h (dn T X.K H Q) (dx T X.K H fun c d H' => W c d σ H') → wpAny (model X.prog X.w) X.A (call u us) (EP X pins σ Q) X.xe s
theorem s_call (L : Le Γ Γ) {f : String} {u : Value} {x : Str} {p : Pos} (C : CallV X W Γ T u f) (hk : PySem.W.keepIn X.K u = true) (hg : Gl X x) (hm : X.mg x = some u) (ha : PA X (e :: es) (tA Γ T X.K W ms)) (hdb : (x == ("__debug__" : Str)) = false)
    (he : starEach (e :: es) X.env = (false, eval e X.env) :: starEach es X.env) (hpl : (backTo pos (starEach es X.env)).any (·.1) = false) : PE X (.Call (.Name x p) (e :: es) [] pos) (tE Γ T X.K W (.call f ms)) := by
  refine ⟨fun pins s σ H Q I ⟨σv, h, rs, rh, w⟩ => ?_⟩
  simp only [wpE] at w
  refine wpAny_Call_Name_kw (ld_glob I hg hm ?_ hdb)
  refine PySem.W.callWith_K (h₀ := X.base) I.ok.mod.kin hk (thn (ha.run pos pins s σ H (fun xs H1 => HLe H H1 ∧ ∃ vals h1, RVs T X.K H1 vals xs ∧ RH T X.K h1 H1 ∧ Γ.call f vals h1 (dn T X.K H Q) (dx T X.K H fun c d H' => W c d σ H')) I ?_) fun us s1 ⟨vs, H1, I1, r, l, vals, h1, rxs, rh1, w1⟩ => ⟨I1.kIn, ?_⟩) he hpl
  · exact tA.of L .refl rs rh w fun vs h1 w1 xs H1 l1 rh1 rxs => ⟨l1, vs, h1, rxs, rh1, w1⟩
  · exact C pins s1 σ H1 vs us vals h1 Q I1 r rxs rh1 (L.call _ _ _ _ _ _ _ (fun _ _ z => dn.sh l z) (fun _ _ z => dx.sh l z) w1)
theorem s_call0 (L : Le Γ Γ) {f : String} {u : Value} {x : Str} {p : Pos} (C : CallV X W Γ T u f) (hk : PySem.W.keepIn X.K u = true) (hg : Gl X x) (hm : X.mg x = some u) (hdb : (x == ("__debug__" : Str)) = false) : PE X (.Call (.Name x p) [] [] pos) (tE Γ T X.K W (.call f .nil)) := by
  refine ⟨fun pins s σ H Q I ⟨σv, h, rs, rh, w⟩ => ?_⟩
  simp only [wpE, wpEs] at w
  refine wpAny_Call_Name_kw (ld_glob I hg hm ?_ hdb)
  exact PySem.W.callWith_K0 I.kIn hk (C pins s σ H [] [] [] h Q I .nil .nil rh w)
end
end MP
end
section
set_option maxHeartbeats 1000000
/-! MpJ: what is walked; comprehensions. -/
namespace MP
open PySem PySem.Spec PyProof.Rows L2
/-- an iterator that yields these items while g holds -/
def JOk (T : Tb) (K : Frag) (H0 : Hp) (J : L2.It) (xs : List Val) (g : VH → Prop) : Prop := ∀ (i : Nat) (H : Hp) (h : VH), HLe H0 H → RH T K h H → g h →
  (xs.length ≤ i → J.stop i H) ∧ ∀ v, xs[i]? = some v → J.go i H ∧ ∀ x H', J.yld i H x H' → HLe H H' ∧ RH T K h H' ∧ RV T K H' v x
def tI (Γ : Gam) (T : Tb) (K : Frag) (W : WX) (m : It) : TI := fun σ H R => ∃ σv h, RS T K H σv σ ∧ RH T K h H ∧ wpIt Γ m σv h (fun xs g h1 => ∀ H1, HLe H H1 → RH T K h1 H1 → ∀ J, JOk T K H1 J xs g → R J H1) (dx T K H fun c d H' => W c d σ H')
theorem _root_.L2.PI.imp {X : Ctx} {tg e : Expr} {t t' : TI} (h : PI X tg e t) (i : ∀ σ H Q, t' σ H Q → t σ H Q) : PI X tg e t' := ⟨fun pins s σ H Q I z => h.run pins s σ H Q I (i _ _ _ z)⟩
section
variable {T : Tb} {K : Frag}
theorem jok_lst {H0 : Hp} {a : Addr} {xs : List Val} : JOk T K H0 (Itl K a) xs fun h => h a = some (.lst xs) := fun i H h l rh e => by
  obtain ⟨ys, e1, rs⟩ := rh.lst e
  refine ⟨fun hi => ⟨ys, SqL.of e1, by rw [← rs.length]; exact hi⟩, fun v hv => ?_⟩
  obtain ⟨y, hy, ry⟩ := rs.get hv
  exact ⟨⟨ys, y, SqL.of e1, hy⟩, fun x H' ⟨h1, h2⟩ => by
    subst h1
    have := h2 ys (SqL.of e1)
    rw [hy] at this
    cases this
    exact ⟨.refl, rh, ry⟩⟩
theorem jok_rls {H0 : Hp} {a : Addr} {xs : List Val} {ys : List V} (ro : RoL K H0 a ys) (rs : RVs T K H0 xs ys) : JOk T K H0 (Itl K a) xs tt := fun i H h l rh e => by
  have ro := ro.le l
  have rs := rs.le l
  refine ⟨fun hi => ⟨ys, ro.sq, by rw [← rs.length]; exact hi⟩, fun v hv => ?_⟩
  obtain ⟨y, hy, ry⟩ := rs.get hv
  exact ⟨⟨ys, y, ro.sq, hy⟩, fun x H' ⟨h1, h2⟩ => by
    subst h1
    have := h2 ys ro.sq
    rw [hy] at this
    cases this
    exact ⟨.refl, rh, ry⟩⟩
theorem jok_tup {H0 : Hp} {a : Addr} {xs : List Val} {ys : List V} (ro : SqT K H0 a ys) (rs : RVs T K H0 xs ys) : JOk T K H0 (Itt K a) xs tt := fun i H h l rh e => by
  have ro := SqT.le l ro
  have rs := rs.le l
  refine ⟨fun hi => ⟨ys, ro, by rw [← rs.length]; exact hi⟩, fun v hv => ?_⟩
  obtain ⟨y, hy, ry⟩ := rs.get hv
  exact ⟨⟨ys, y, ro, hy⟩, fun x H' ⟨h1, h2⟩ => by
    subst h1
    have := h2 ys ro
    rw [hy] at this
    cases this
    exact ⟨.refl, rh, ry⟩⟩
theorem jok_str {H0 : Hp} {z : List Nat} : JOk T K H0 (Its ⟨z.toArray⟩) (z.map fun c => .str [c]) tt := fun i H h l rh e => by
  refine ⟨fun hi => ?_, fun v hv => ?_⟩
  · rw [List.length_map] at hi
    show z.toArray.size ≤ i
    rw [List.size_toArray]
    exact hi
  · rw [List.getElem?_map] at hv
    cases q : z[i]? with
    | none => rw [q] at hv; cases hv
    | some c =>
      rw [q] at hv
      cases hv
      have hlt := (List.getElem?_eq_some_iff.mp q).1
      refine ⟨by show i < z.toArray.size; rw [List.size_toArray]; exact hlt, fun x H' ⟨h1, c', h2, h3⟩ => ?_⟩
      subst h1
      have h2' : z[i]? = some c' := by simpa using h2
      rw [q] at h2'
      cases h2'
      exact ⟨.refl, rh, rv_str.mpr ⟨h3, by show 1 ≤ SZ; decide⟩⟩
theorem jok_rng {H0 : Hp} {lo : Int} {n : Nat} : JOk T K H0 (Itr lo n) (rangeV lo n) tt := fun i H h l rh e => by
  unfold rangeV
  refine ⟨fun hi => by rw [List.length_map, List.length_range] at hi; exact hi, fun v hv => ?_⟩
  rw [List.getElem?_map] at hv
  cases q : (List.range n)[i]? with
  | none => rw [q] at hv; cases hv
  | some c =>
    rw [q] at hv
    cases hv
    obtain ⟨h1, h2⟩ := List.getElem?_eq_some_iff.mp q
    rw [List.length_range] at h1
    rw [List.getElem_range] at h2
    subst h2
    exact ⟨h1, fun x H' ⟨h3, h4⟩ => by subst h3; exact ⟨.refl, rh, rv_int.mpr h4⟩⟩
theorem enum_length : ∀ (xs : List Val) (k : Nat), (enumFrom k xs).length = xs.length
  | [], _ => rfl
  | _ :: r, k => by unfold enumFrom; rw [List.length_cons, List.length_cons, enum_length r]
theorem enum_get : ∀ (xs : List Val) (k i : Nat), (enumFrom k xs)[i]? = (xs[i]?).map fun v => .tup [.int ((k + i : Nat) : Int), v]
  | [], _, _ => by simp [enumFrom]
  | x :: r, k, 0 => by simp [enumFrom]
  | x :: r, k, i + 1 => by
    unfold enumFrom
    rw [List.getElem?_cons_succ, List.getElem?_cons_succ, enum_get r (k + 1) i, show k + 1 + i = k + (i + 1) by omega]
theorem jok_enum {H0 : Hp} {a : Addr} {xs : List Val} : JOk T K H0 (Ite K a) (enumFrom 0 xs) fun h => h a = some (.lst xs) := fun i H h l rh e => by
  obtain ⟨ys, e1, rs⟩ := rh.lst e
  refine ⟨fun hi => ⟨ys, SqL.of e1, by rw [← rs.length]; rw [enum_length] at hi; exact hi⟩, fun v hv => ?_⟩
  rw [enum_get] at hv
  cases q : xs[i]? with
  | none => rw [q] at hv; cases hv
  | some c =>
    rw [q] at hv
    cases hv
    obtain ⟨y, hy, ry⟩ := rs.get q
    refine ⟨⟨ys, y, SqL.of e1, hy⟩, fun x H' ⟨p, y', h1, h2, h3, h4⟩ => ?_⟩
    subst h1 h3
    have := h4 ys (SqL.of e1)
    rw [hy] at this
    cases this
    refine ⟨.new h2, rh.side h2, rv_tup.mpr ⟨p, _, rfl, upd_same, .cons (rv_int.mpr (by rw [Nat.zero_add])) (.cons (ry.le (.new h2)) .nil)⟩⟩
theorem jok_enumR {H0 : Hp} {a : Addr} {xs : List Val} {ys : List V} (ro : RoL K H0 a ys) (rs : RVs T K H0 xs ys) : JOk T K H0 (Ite K a) (enumFrom 0 xs) tt := fun i H h l rh e => by
  have ro := ro.le l
  have rs := rs.le l
  refine ⟨fun hi => ⟨ys, ro.sq, by rw [← rs.length]; rw [enum_length] at hi; exact hi⟩, fun v hv => ?_⟩
  rw [enum_get] at hv
  cases q : xs[i]? with
  | none => rw [q] at hv; cases hv
  | some c =>
    rw [q] at hv
    cases hv
    obtain ⟨y, hy, ry⟩ := rs.get q
    refine ⟨⟨ys, y, ro.sq, hy⟩, fun x H' ⟨p, y', h1, h2, h3, h4⟩ => ?_⟩
    subst h1 h3
    have := h4 ys ro.sq
    rw [hy] at this
    cases this
    refine ⟨.new h2, rh.side h2, rv_tup.mpr ⟨p, _, rfl, upd_same, .cons (rv_int.mpr (by rw [Nat.zero_add])) (.cons (ry.le (.new h2)) .nil)⟩⟩
theorem jok_rev {H0 : Hp} {n : Nat} {lo : Int} (hlo : lo = (n : Int) - 1) : JOk T K H0 (Itc lo (-1) n) (rangeV 0 n).reverse tt := fun i H h l rh e => by
  unfold rangeV
  refine ⟨fun hi => by rw [List.length_reverse, List.length_map, List.length_range] at hi; exact hi, fun v hv => ?_⟩
  by_cases hi : i < n
  · rw [List.getElem?_reverse (by rw [List.length_map, List.length_range]; exact hi), List.length_map, List.length_range, List.getElem?_map, List.getElem?_range (by omega)] at hv
    cases hv
    refine ⟨hi, fun x H' ⟨h3, h4⟩ => ?_⟩
    subst h3
    refine ⟨.refl, rh, rv_int.mpr ?_⟩
    rw [h4]
    congr 1
    omega
  · rw [List.getElem?_eq_none (by rw [List.length_reverse, List.length_map, List.length_range]; omega)] at hv
    cases hv
end
section
variable {X : Ctx} {Γ : Gam} {T : Tb} {W : WX} {a b c e tg : Expr} {ma mb mc : E} {pos : Pos}
theorem s_pl (L : Le Γ Γ) (ha : PE X e (tE Γ T X.K W ma)) : PI X tg e (tI Γ T X.K W (.pl ma)) := by
  refine ⟨fun pins s σ H R I ⟨σv, h, rs, rh, w⟩ => ?_⟩
  simp only [wpIt] at w
  refine thn (ha.run pins s σ H (fun x H1 => ∃ u h1, RH T X.K h1 H1 ∧ RV T X.K H1 u x ∧ (srcOf u h1).wp fun xs g => ∀ J, JOk T X.K H1 J xs g → R J H1) I ?_) fun v s1 ⟨x, H1, I1, r1, u, h1, rh1, ru, w1⟩ => ?_
  · exact tE.of L .refl rs rh w fun u h1 w1 x H1 l1 rh1 rx => ⟨u, h1, rh1, rx, Src.mono (fun xs g z => z H1 l1 rh1) w1⟩
  · unfold srcOf at w1
    split at w1
    · obtain ⟨p, ys, rfl, sp, q⟩ := rv_tupS ru
      cases r1
      obtain ⟨its, rv, ht, hz⟩ := I1.tuple sp
      exact wpAny_pyIter_tuple (show s1.heap.IsTuple p its.toArray from ht) (pi_one (tk := s1.toks) I1 _ (turn_tuple p _) ⟨_, Heap.get?_push_size _ rfl, rfl, rfl⟩ (w1.2 _ (jok_tup sp q)))
    · obtain ⟨p, ys, rfl, sp, q⟩ := rv_rls.mp ru
      cases r1
      obtain ⟨its, rv, ht, hz⟩ := I1.list sp.sq
      exact wpAny_pyIter_list ht.isList (pi_one (tk := s1.toks) I1 _ (turn_list p _) ⟨_, Heap.get?_push_size _ rfl, rfl, rfl⟩ (w1.2 _ (jok_rls sp q)))
    · rename_i z
      obtain ⟨rfl, hz⟩ := rv_str.mp ru
      obtain ⟨t, rfl⟩ := r1
      have q := w1.2 _ jok_str
      cases hw : (⟨z.toArray⟩ : Str).cps.all (· < 128) with
      | false => exact wpAny_pyIter_wide hw (pi_one (tk := s1.toks) I1 _ (turn_str _ _ t "str_iterator" (.inr rfl)) ⟨_, Heap.get?_push_size _ rfl, rfl, rfl⟩ q)
      | true => exact wpAny_pyIter_ascii hw (pi_one (tk := s1.toks) I1 _ (turn_str _ _ t "str_ascii_iterator" (.inl rfl)) ⟨_, Heap.get?_push_size _ rfl, rfl, rfl⟩ q)
    · split at w1
      · rename_i xs e1
        obtain rfl := rv_ref.mp ru
        cases r1
        obtain ⟨ys, e2, q⟩ := rh1.lst e1
        obtain ⟨its, rv, ht, hz⟩ := I1.list (SqL.of e2)
        exact wpAny_pyIter_list ht.isList (pi_one (tk := s1.toks) I1 _ (turn_list _ _) ⟨_, Heap.get?_push_size _ rfl, rfl, rfl⟩ (w1.2 _ jok_lst))
      · exact w1.elim
    · exact w1.elim
theorem b62 {i : Int} (h : B62 i) : -(2 ^ 62) ≤ i ∧ i < 2 ^ 62 := by
  unfold B62 at h
  omega
theorem s_r1 (L : Le Γ Γ) {p : Pos} (hg : Gl X "range") (hm : X.mg "range" = none) (ha : PE X a (tE Γ T X.K W ma)) (hs : starEach [a] X.env = [(false, eval a X.env)]) : PI X tg (.Call (.Name "range" p) [a] [] pos) (tI Γ T X.K W (.r1 ma)) :=
  (pi_range1 hg hm (pa_cons ha pa_nil hs) hs).imp fun σ H Q ⟨σv, h, rs, rh, w⟩ => by
    simp only [wpIt] at w
    refine tE.of L .refl rs rh w fun u h1 w1 x H1 l1 rh1 rx => ?_
    unfold src1 at w1
    split at w1
    · obtain rfl := rv_int.mp rx
      exact ⟨_, rfl, (b62 w1.1).1, (b62 w1.1).2, w1.2 H1 l1 rh1 _ jok_rng⟩
    · exact w1.elim
theorem s_r2 (L : Le Γ Γ) {p : Pos} (hg : Gl X "range") (hm : X.mg "range" = none) (ha : PE X a (tE Γ T X.K W ma)) (hb : PE X b (tE Γ T X.K W mb)) (hs : starEach [a, b] X.env = [(false, eval a X.env), (false, eval b X.env)]) (hs2 : starEach [b] X.env = [(false, eval b X.env)]) :
    PI X tg (.Call (.Name "range" p) [a, b] [] pos) (tI Γ T X.K W (.r2 ma mb)) :=
  (pi_range2 hg hm (pa_cons ha (pa_cons hb pa_nil hs2) (by rw [hs, hs2])) hs hs2).imp fun σ H Q ⟨σv, h, rs, rh, w⟩ => by
    simp only [wpIt] at w
    refine tE.of L .refl rs rh w fun u h1 w1 x H1 l1 rh1 rx => tE.of L l1 (rs.le l1) rh1 w1 fun v h2 w2 y H2 l2 rh2 ry => ?_
    unfold src2 at w2
    split at w2
    · obtain rfl := rv_int.mp rx
      obtain rfl := rv_int.mp ry
      exact ⟨_, _, rfl, ⟨(b62 w2.1.1).1, (b62 w2.1.1).2, (b62 w2.1.2).1, (b62 w2.1.2).2⟩, w2.2 H2 (l1.trans l2) rh2 _ jok_rng⟩
    · exact w2.elim
theorem jok_r3 {T : Tb} {K : Frag} {H0 : Hp} {lo c : Int} {n : Nat} : JOk T K H0 (Itc lo c n) ((List.range n).map fun (k : Nat) => .int (lo + (k : Int) * c)) tt := fun i H h l rh e => by
  refine ⟨fun hi => by rw [List.length_map, List.length_range] at hi; exact hi, fun v hv => ?_⟩
  rw [List.getElem?_map] at hv
  cases q : (List.range n)[i]? with
  | none => rw [q] at hv; cases hv
  | some d =>
    rw [q] at hv
    cases hv
    obtain ⟨h1, h2⟩ := List.getElem?_eq_some_iff.mp q
    rw [List.length_range] at h1
    rw [List.getElem_range] at h2
    subst h2
    exact ⟨h1, fun x H' ⟨h3, h4⟩ => by subst h3; exact ⟨.refl, rh, rv_int.mpr h4⟩⟩
theorem s_r3 (L : Le Γ Γ) {p : Pos} (hg : Gl X "range") (hm : X.mg "range" = none) (ha : PE X a (tE Γ T X.K W ma)) (hb : PE X b (tE Γ T X.K W mb)) (hc : PE X c (tE Γ T X.K W mc)) (h1 : starEach [a, b, c] X.env = (false, eval a X.env) :: starEach [b, c] X.env) (h2 : starEach [b, c] X.env = (false, eval b X.env) :: starEach [c] X.env) (h3 : starEach [c] X.env = (false, eval c X.env) :: starEach [] X.env) (hpl : (backTo pos (starEach [b, c] X.env)).any (·.1) = false) :
    PI X tg (.Call (.Name "range" p) [a, b, c] [] pos) (tI Γ T X.K W (.r3 ma mb mc)) :=
  (pi_range3 hg hm (pa_cons ha (pa_cons hb (pa_cons hc pa_nil h3) h2) h1) h1 hpl).imp fun σ H Q ⟨σv, h, rs, rh, w⟩ => by
    simp only [wpIt] at w
    refine tE.of L .refl rs rh w fun u h1 w1 x H1 l1 rh1 rx => tE.of L l1 (rs.le l1) rh1 w1 fun v h2 w2 y H2 l2 rh2 ry => tE.of L (l1.trans l2) (rs.le (l1.trans l2)) rh2 w2 fun z h3 w3 q H3 l3 rh3 rz => ?_
    unfold src3 at w3
    split at w3
    · obtain rfl := rv_int.mp rx
      obtain rfl := rv_int.mp ry
      obtain rfl := rv_int.mp rz
      exact ⟨_, _, _, _, rfl, w3.1, w3.2 H3 ((l1.trans l2).trans l3) rh3 _ jok_r3⟩
    · exact w3.elim
theorem s_rv (L : Le Γ Γ) {p p' pos' : Pos} (hg : Gl X "reversed") (hm : X.mg "reversed" = none) (hg' : Gl X "range") (hm' : X.mg "range" = none) (ha : PE X a (tE Γ T X.K W ma)) (hs : starEach [a] X.env = (false, eval a X.env) :: starEach [] X.env) :
    PI X tg (.Call (.Name "reversed" p) [.Call (.Name "range" p') [a] [] pos'] [] pos) (tI Γ T X.K W (.rv ma)) :=
  (pi_revR hg hm (prg_1 hg' hm' ha hs)).imp fun σ H Q ⟨σv, h, rs, rh, w⟩ => by
    simp only [wpIt] at w
    refine tE.of L .refl rs rh w fun u h1 w1 x H1 l1 rh1 rx => ?_
    unfold srcR at w1
    split at w1
    · rename_i j
      obtain rfl := rv_int.mp rx
      refine ⟨j, rfl, by omega, by omega, (b62 w1.1).1, (b62 w1.1).2, w1.2 H1 l1 rh1 _ ?_⟩
      rw [Int.sub_zero]
      exact jok_rev (by omega)
    · exact w1.elim
theorem s_lrng (L : Le Γ Γ) {p p' pos' : Pos} (hc : X.calm = true) (hg : Gl X "list") (hm : X.mg "list" = none) (hg' : Gl X "range") (hm' : X.mg "range" = none) (ha : PE X a (tE Γ T X.K W ma)) (hs : starEach [a] X.env = (false, eval a X.env) :: starEach [] X.env) :
    PE X (.Call (.Name "list" p) [.Call (.Name "range" p') [a] [] pos'] [] pos) (tE Γ T X.K W (.lrng ma)) :=
  (pe_listRg hc hg hm (prg_1 hg' hm' ha hs)).imp fun σ H Q ⟨σv, h, rs, rh, w⟩ => by
    simp only [wpE] at w
    refine tE.of L .refl rs rh w fun u h1 w1 x H1 l1 rh1 rx => ?_
    unfold lrngR at w1
    split at w1
    · rename_i j
      obtain rfl := rv_int.mp rx
      refine ⟨j, rfl, ⟨by omega, by omega, (b62 w1.1.1).1, (b62 w1.1.1).2, ?_⟩, dn.newL (fun p hp => dn.sh l1 (w1.2 p hp)) rh1 ?_⟩
      · have := w1.1.2
        omega
      · unfold rangeV rgV
        rw [Int.sub_zero]
        generalize List.range j.toNat = l
        induction l with
        | nil => exact .nil
        | cons k r ih => exact .cons (rv_int.mpr rfl) ih
    · exact w1.elim
end
end MP
end
section
set_option maxHeartbeats 1000000
/-! MpJz: zip of two sequences, each a list or a tuple. -/
namespace MP
open PySem PySem.Spec PyProof.Rows L2
/-- a kind of sequence with its iterator -/
structure Sk where
  sq : Heap → Addr → Array Value → Prop
  si : Heap → Addr → Addr → Nat → Prop
  nm : String
  lq : Frag → Hp → Addr → List V → Prop
  lof : ∀ {X : Cx} {pins : List (Addr × PySem.Obj)} {σ : L2.St} {H : Hp} {s : Shared} {a : Addr} {ys : List V}, Inv X pins σ H s → lq X.K H a ys → ∃ its : List Value, Vals ys its ∧ sq s.heap a its.toArray
  linj : ∀ {X : Cx} {pins : List (Addr × PySem.Obj)} {σ : L2.St} {H : Hp} {s : Shared} {a : Addr} {ys zs : List V}, Inv X pins σ H s → lq X.K H a ys → lq X.K H a zs → ys = zs
  sx : ∀ {h h' : Heap} {a b : Addr} {xs : Array Value}, sq h a xs → Heap.ExtBut b h h' → a ≠ b → sq h' a xs
  ix : ∀ {h h' : Heap} {a b l : Addr} {k : Nat}, si h a l k → Heap.ExtBut b h h' → a ≠ b → si h' a l k
  iat : ∀ {h h' : Heap} {a l : Addr} {k : Nat}, si h a l k → (∀ o, h.get? a = some o → h'.get? a = some o) → si h' a l k
  io : ∀ {h : Heap} {a l : Addr} {k : Nat}, si h a l k → ∃ o, h.get? a = some o ∧ ∀ v, o.data ≠ .cell v
  so : ∀ {h : Heap} {a : Addr} {xs : Array Value}, sq h a xs → a < h.objs.size
  ps : ∀ {h : Heap} {a : Addr} {xs : Array Value}, sq h a xs → ∀ o, sq (h.push o) a xs
  ni : ∀ {h : Heap} {a l : Addr}, h.get? a = some { cls := .type nm, data := .fields #[.ref l, .int 0 0] } → si h a l 0
  it : ∀ {prog : Program} {w : World} {A : Around} {E : Value → Shared → Prop} {s : Shared} {l : Addr} {xs : Array Value} {Q : Value → Shared → Prop}, sq s.heap l xs →
    Q (.ref s.heap.objs.size) { s with heap := s.heap.push { cls := .type nm, data := .fields #[.ref l, .int 0 0] } } → wpAny (model prog w) A (pyIter (.ref l)) Q E s
  item : ∀ {prog : Program} {w : World} {A : Around} {E : Value → Shared → Prop} {s : Shared} {it l : Addr} {i : Nat} {xs : Array Value} {x : Value} {Q : Value → Shared → Prop}, si s.heap it l i → sq s.heap l xs → xs[i]? = some x →
    (∀ h', si h' it l (i + 1) → Heap.SameBut it s.heap h' → Q x { s with heap := h' }) → wpAny (model prog w) A (Builtin.SmallTypes.nextOf (.ref it)) Q E s
  stop : ∀ {prog : Program} {w : World} {A : Around} {E : Value → Shared → Prop} {s : Shared} {it l : Addr} {i : Nat} {xs : Array Value} {Q : Value → Shared → Prop}, A.handled = none → si s.heap it l i → sq s.heap l xs → xs[i]? = none →
    (∀ h' e, Heap.ExtBut it s.heap h' → (∃ o, h'.get? e = some o ∧ o.cls = .type "StopIteration") → E (.ref e) { s with heap := h' }) → wpAny (model prog w) A (Builtin.SmallTypes.nextOf (.ref it)) Q E s
def skL : Sk := ⟨fun h a xs => h.IsList a xs, fun h a l k => h.IsListIter a l k, "list_iterator", SqL, fun I q => (let ⟨its, rv, p, _⟩ := I.list q; ⟨its, rv, p.isList⟩), fun I a b => I.list_inj a b, fun x e n => x.extBut e n, fun x e n => x.extBut e n, fun x e => x.at e, fun ⟨o, e, _, d⟩ => ⟨o, e, fun v q => by rw [d] at q; cases q⟩, fun ⟨o, e, _⟩ => Heap.lt_size e, fun x o => x.push o, fun e => ⟨_, e, rfl, rfl⟩, fun x q => wpAny_pyIter_list x q, fun h1 h2 h3 q => wpAny_nextOf_list_item h1 h2 h3 q, fun h0 h1 h2 h3 q => wpAny_nextOf_list_end h0 h1 h2 h3 q⟩
def skT : Sk := ⟨fun h a xs => h.IsTuple a xs, fun h a l k => h.IsTupleIter a l k, "tuple_iterator", SqT, fun I q => (let ⟨its, rv, p, _⟩ := I.tuple q; ⟨its, rv, p⟩), fun I a b => I.tuple_inj a b, fun x e n => x.extBut e n, fun x e n => x.extBut e n, fun x e => x.at e, fun ⟨o, e, _, d⟩ => ⟨o, e, fun v q => by rw [d] at q; cases q⟩, fun ⟨o, e, _⟩ => Heap.lt_size e, fun x o => x.push o, fun e => ⟨_, e, rfl, rfl⟩, fun x q => wpAny_pyIter_tuple x q, fun h1 h2 h3 q => RZ.nextOf_tuple_item h1 h2 h3 q, fun h0 h1 h2 h3 q => RZ.nextOf_tuple_end h0 h1 h2 h3 q⟩
section
variable {prog : Program} {w : World} {A : Around} {E : Value → Shared → Prop} {s : Shared} (S1 S2 : Sk)
/-- one turn of zip's own next -/
theorem zg_item {z TI TO i1 i2 l1 l2 : Addr} {k1 k2 : Nat} {xs ys : Array Value} {x y a b : Value} {Q : Value → Shared → Prop} (D : ZipApart z TI TO i1 i2 l1 l2)
    (hz : IsZip s.heap z TI TO .none) (hI : IsPair s.heap TI (.ref i1) (.ref i2)) (hO : IsPair s.heap TO a b) (j1 : S1.si s.heap i1 l1 k1) (j2 : S2.si s.heap i2 l2 k2) (q1 : S1.sq s.heap l1 xs) (q2 : S2.sq s.heap l2 ys) (hx : xs[k1]? = some x) (hy : ys[k2]? = some y)
    (q : ∀ g, IsZip g z TI TO (rawInt s.heap.objs.size) → IsPair g TO x y → S1.si g i1 l1 (k1 + 1) → S2.si g i2 l2 (k2 + 1) → IsPair g s.heap.objs.size x y → g.objs.size = s.heap.objs.size + 1 → (∀ c o, c ≠ z → c ≠ TO → c ≠ i1 → c ≠ i2 → s.heap.get? c = some o → g.get? c = some o) → Q (.ref s.heap.objs.size) { s with heap := g }) :
    wpAny (model prog w) A (Builtin.«zip.__next__» ⟨[.ref z], []⟩) (fun fin s' => ∃ v, fin = .done (.ret v) ∧ Q v s') E s := by
  show wpAny (model prog w) A (field (.ref z) 2 >>= _) _ E s
  refine wpAny_bind (wpAny_field hz rfl (x := .bool false) (by rfl) ?_)
  show wpAny (model prog w) A (field (.ref z) 3 >>= _) _ E s
  refine wpAny_bind (wpAny_field hz rfl (x := .ref TI) (by rfl) (wpAny_bind (wpAny_seqItems hI rfl ?_)))
  show wpAny (model prog w) A (Builtin.SmallTypes.ownedTupleIsFree (.ref z) >>= _) _ E s
  unfold Builtin.SmallTypes.ownedTupleIsFree
  refine wpAny_bind (wpAny_bind (wpAny_field hz rfl (x := .none) (by rfl) (wpAny_pure ?_)))
  simp only [if_true]
  refine wpAny_bind (wpAny_rule (wpAny_bind (wpAny_field hz rfl (x := .ref TO) (by rfl) (wpAny_bind (wpAny_setField_rec hz (by simp) fun g1 z1 e1 => ?_)))))
  replace z1 : IsZip g1 z TI TO .ellipsis := z1
  refine wpAny_bind ?_
  simp only [List.forIn_cons, List.forIn_nil, List.zipIdx_cons, List.zipIdx_nil]
  refine wpAny_bind (wpAny_bind (wpAny_onRaise ?_))
  show wpAny (model prog w) _ (Builtin.SmallTypes.nextOf (.ref i1) >>= _) _ _ _
  refine wpAny_bind (S1.item (S1.ix j1 e1.extBut D.i1z) (S1.sx q1 e1.extBut D.l1z) hx fun g2 j1a e2 => wpAny_pure ?_)
  have O2 : IsPair g2 TO a b := e2.extBut _ _ D.TOi1 (e1.extBut _ _ D.TOz hO)
  refine wpAny_bind (wpAny_seqItems O2 rfl (wpAny_bind (wpAny_updateSeq_pair O2 fun g3 O3 e3 => ?_)))
  replace O3 : IsPair g3 TO x b := O3
  refine wpAny_bind (wpAny_letGo (wpAny_pure (wpAny_bind (wpAny_bind (wpAny_onRaise ?_)))))
  show wpAny (model prog w) _ (Builtin.SmallTypes.nextOf (.ref i2) >>= _) _ _ _
  have j2c := S2.ix (S2.ix (S2.ix j2 e1.extBut D.i2z) e2.extBut D.i12.symm) e3.extBut D.TOi2.symm
  have q2c := S2.sx (S2.sx (S2.sx q2 e1.extBut D.l2z) e2.extBut D.l2i1) e3.extBut D.l2TO
  refine wpAny_bind (S2.item j2c q2c hy fun g4 j2a e4 => wpAny_pure ?_)
  have O4 : IsPair g4 TO x b := e4.extBut _ _ D.TOi2 O3
  refine wpAny_bind (wpAny_seqItems O4 rfl (wpAny_bind (wpAny_updateSeq_pair O4 fun g5 O5 e5 => ?_)))
  replace O5 : IsPair g5 TO x y := O5
  refine wpAny_bind (wpAny_letGo (wpAny_pure (wpAny_pure (wpAny_bind (wpAny_seqItems O5 rfl (wpAny_bind (wpAny_newTuple ?_)))))))
  have sz : g5.objs.size = s.heap.objs.size := by rw [e5.1, e4.1, e3.1, e2.1, e1.1]
  have z5 : IsZip g5 z TI TO .ellipsis := e5.extBut _ _ D.TOz.symm (e4.extBut _ _ D.i2z.symm (e3.extBut _ _ D.TOz.symm (e2.extBut _ _ D.i1z.symm z1)))
  have kp : ∀ c o, c ≠ z → c ≠ TO → c ≠ i1 → c ≠ i2 → s.heap.get? c = some o → g5.get? c = some o := fun c o n1 n2 n3 n4 e => e5.extBut _ _ n2 (e4.extBut _ _ n4 (e3.extBut _ _ n2 (e2.extBut _ _ n3 (e1.extBut _ _ n1 e))))
  have j15 := S1.ix (S1.ix (S1.ix j1a e3.extBut D.TOi1.symm) e4.extBut D.i12) e5.extBut D.TOi1.symm
  have j25 := S2.ix j2a e5.extBut D.TOi2.symm
  have zl : z < g5.objs.size := Heap.lt_size z5
  show wpAny (model prog w) _ (Builtin.SmallTypes.ownedTupleHandOut (.ref z) (.ref g5.objs.size) >>= _) _ _ _
  unfold Builtin.SmallTypes.ownedTupleHandOut
  have z6 : IsZip (g5.push { cls := .type "tuple", data := .seq #[x, y] }) z TI TO .ellipsis := Heap.get?_push_of_some _ z5
  refine wpAny_bind (wpAny_bind (wpAny_setField_rec z6 (by simp) fun g7 z7 e7 => ?_))
  replace z7 : IsZip g7 z TI TO (rawInt g5.objs.size) := z7
  refine wpAny_setField_rec z7 (by simp) fun g8 z8 e8 => ?_
  replace z8 : IsZip g8 z TI TO (rawInt g5.objs.size) := z8
  have go : ∀ c o, c ≠ z → g5.get? c = some o → g8.get? c = some o := fun c o n e => e8.extBut _ _ n (e7.extBut _ _ n (Heap.get?_push_of_some _ e))
  have T8 : IsPair g8 g5.objs.size x y := e8.extBut _ _ (Nat.ne_of_gt zl) (e7.extBut _ _ (Nat.ne_of_gt zl) (Heap.get?_push_size _ rfl))
  have s8 : g8.objs.size = g5.objs.size + 1 := by rw [e8.1, e7.1, Heap.size_push]
  rw [sz] at z8 T8 s8
  refine wpAny_pure ⟨_, rfl, ?_⟩
  show Q (.ref g5.objs.size) _
  rw [sz]
  exact q g8 z8 (go _ _ D.TOz O5) (S1.iat j15 fun o e => go _ o D.i1z e) (S2.iat j25 fun o e => go _ o D.i2z e) T8 s8 fun c o n1 n2 n3 n4 e => go c o n1 (kp c o n1 n2 n3 n4 e)
theorem zg_end {z TI TO i1 i2 l1 l2 : Addr} {k1 k2 : Nat} {xs ys : Array Value} {a b : Value} {Q : Fin → Shared → Prop} (hh : A.handled = none) (D : ZipApart z TI TO i1 i2 l1 l2)
    (hz : IsZip s.heap z TI TO .none) (hI : IsPair s.heap TI (.ref i1) (.ref i2)) (hO : IsPair s.heap TO a b) (j1 : S1.si s.heap i1 l1 k1) (j2 : S2.si s.heap i2 l2 k2) (q1 : S1.sq s.heap l1 xs) (q2 : S2.sq s.heap l2 ys) (hend : xs[k1]? = none ∨ ys[k2]? = none)
    (q : ∀ g e, (∀ c o, c ≠ z → c ≠ TO → c ≠ i1 → c ≠ i2 → s.heap.get? c = some o → g.get? c = some o) → (∃ o, g.get? e = some o ∧ o.cls = .type "StopIteration") → E (.ref e) { s with heap := g }) :
    wpAny (model prog w) A (Builtin.«zip.__next__» ⟨[.ref z], []⟩) Q E s := by
  show wpAny (model prog w) A (field (.ref z) 2 >>= _) _ E s
  refine wpAny_bind (wpAny_field hz rfl (x := .bool false) (by rfl) ?_)
  show wpAny (model prog w) A (field (.ref z) 3 >>= _) _ E s
  refine wpAny_bind (wpAny_field hz rfl (x := .ref TI) (by rfl) (wpAny_bind (wpAny_seqItems hI rfl ?_)))
  show wpAny (model prog w) A (Builtin.SmallTypes.ownedTupleIsFree (.ref z) >>= _) _ E s
  unfold Builtin.SmallTypes.ownedTupleIsFree
  refine wpAny_bind (wpAny_bind (wpAny_field hz rfl (x := .none) (by rfl) (wpAny_pure ?_)))
  simp only [if_true]
  refine wpAny_bind (wpAny_rule (wpAny_bind (wpAny_field hz rfl (x := .ref TO) (by rfl) (wpAny_bind (wpAny_setField_rec hz (by simp) fun g1 z1 e1 => ?_)))))
  replace z1 : IsZip g1 z TI TO .ellipsis := z1
  refine wpAny_bind ?_
  simp only [List.forIn_cons, List.forIn_nil, List.zipIdx_cons, List.zipIdx_nil]
  refine wpAny_bind (wpAny_bind (wpAny_onRaise ?_))
  show wpAny (model prog w) _ (Builtin.SmallTypes.nextOf (.ref i1) >>= _) _ _ _
  cases hx : xs[k1]? with
  | none =>
    refine wpAny_bind (S1.stop hh (S1.ix j1 e1.extBut D.i1z) (S1.sx q1 e1.extBut D.l1z) hx fun g2 e e2 he => ?_)
    obtain ⟨oe, h1, h2⟩ := he
    have z2 : IsZip g2 z TI TO .ellipsis := e2 _ _ D.i1z.symm z1
    have ne : e ≠ z := fun x => by subst x; rw [z2] at h1; cases h1; simp at h2
    exact wpAny_setField_rec z2 (by simp) fun g3 _ e3 => q g3 e (fun c o n1 _ n3 _ x => e3.extBut _ _ n1 (e2 _ _ n3 (e1.extBut _ _ n1 x))) ⟨oe, e3.extBut _ _ ne h1, h2⟩
  | some x =>
    have hy : ys[k2]? = none := by
      rcases hend with h | h
      · rw [hx] at h; cases h
      · exact h
    refine wpAny_bind (S1.item (S1.ix j1 e1.extBut D.i1z) (S1.sx q1 e1.extBut D.l1z) hx fun g2 j1a e2 => wpAny_pure ?_)
    have O2 : IsPair g2 TO a b := e2.extBut _ _ D.TOi1 (e1.extBut _ _ D.TOz hO)
    refine wpAny_bind (wpAny_seqItems O2 rfl (wpAny_bind (wpAny_updateSeq_pair O2 fun g3 O3 e3 => ?_)))
    refine wpAny_bind (wpAny_letGo (wpAny_pure (wpAny_bind (wpAny_bind (wpAny_onRaise ?_)))))
    show wpAny (model prog w) _ (Builtin.SmallTypes.nextOf (.ref i2) >>= _) _ _ _
    have j2c := S2.ix (S2.ix (S2.ix j2 e1.extBut D.i2z) e2.extBut D.i12.symm) e3.extBut D.TOi2.symm
    have q2c := S2.sx (S2.sx (S2.sx q2 e1.extBut D.l2z) e2.extBut D.l2i1) e3.extBut D.l2TO
    refine wpAny_bind (S2.stop hh j2c q2c hy fun g4 e e4 he => ?_)
    obtain ⟨oe, h1, h2⟩ := he
    have z4 : IsZip g4 z TI TO .ellipsis := e4 _ _ D.i2z.symm (e3.extBut _ _ D.TOz.symm (e2.extBut _ _ D.i1z.symm z1))
    have ne : e ≠ z := fun x => by subst x; rw [z4] at h1; cases h1; simp at h2
    exact wpAny_setField_rec z4 (by simp) fun g5 _ e5 => q g5 e (fun c o n1 n2 n3 n4 x => e5.extBut _ _ n1 (e4 _ _ n4 (e3.extBut _ _ n2 (e2.extBut _ _ n3 (e1.extBut _ _ n1 x))))) ⟨oe, e5.extBut _ _ ne h1, h2⟩
end
/-! ### zip made, walked -/
abbrev zg1 (S : Sk) (h : Heap) (l : Addr) : Heap := h.push { cls := .type S.nm, data := .fields #[.ref l, .int 0 0] }
abbrev zg2 (S1 S2 : Sk) (h : Heap) (l1 l2 : Addr) : Heap := (zg1 S2 (zg1 S1 h l1) l2).push { cls := .type "tuple", data := .seq #[.ref h.objs.size, .ref (zg1 S1 h l1).objs.size] }
abbrev zg3 (S1 S2 : Sk) (h : Heap) (l1 l2 : Addr) : Heap := (zg2 S1 S2 h l1 l2).push { cls := .type "tuple", data := .seq #[.none, .none] }
abbrev zg5 (S1 S2 : Sk) (h : Heap) (l1 l2 : Addr) : Heap := (zg3 S1 S2 h l1 l2).push { cls := .type "zip", data := .fields #[.none, .bool false, .bool false, .ref (zg1 S2 (zg1 S1 h l1) l2).objs.size, .ref (zg2 S1 S2 h l1 l2).objs.size] }
theorem zg_new (S1 S2 : Sk) (l1 l2 : Addr) (xs ys : Array Value) :
    Meets (Builtin.«zip.__new__» ⟨[.type "zip", .ref l1, .ref l2], []⟩) (fun _ R s => S1.sq s.heap l1 xs ∧ S2.sq s.heap l2 ys ∧ R (.ok (.ret (.ref (zg3 S1 S2 s.heap l1 l2).objs.size))) { s with heap := zg5 S1 S2 s.heap l1 l2 }) :=
  .of_wp fun prog w A R s h => by
    obtain ⟨hp, g, d, tk, os⟩ := s
    obtain ⟨q1, q2, h⟩ := h
    have hsub := sub_zip
    have p1 : S1.sq (Shared.heap ⟨hp, g, d, tk, os⟩) l1 xs := q1
    have p2 : S2.sq (Shared.heap ⟨zg1 S1 hp l1, g, d, tk, os⟩) l2 ys := S2.ps q2 _
    wp_walk using S1.it p1, S2.it p2
    exact ⟨_, rfl, h⟩
section
variable {prog : Program} {w : World} {A : Around} {E : Value → Shared → Prop} {s : Shared}
theorem zg_call (S1 S2 : Sk) {l1 l2 : Addr} {xs ys : Array Value} {Q : Value → Shared → Prop} (q1 : S1.sq s.heap l1 xs) (q2 : S2.sq s.heap l2 ys)
    (q : ∀ g, IsZip g (s.heap.objs.size + 4) (s.heap.objs.size + 2) (s.heap.objs.size + 3) .none → IsPair g (s.heap.objs.size + 2) (.ref s.heap.objs.size) (.ref (s.heap.objs.size + 1)) → IsPair g (s.heap.objs.size + 3) .none .none →
      S1.si g s.heap.objs.size l1 0 → S2.si g (s.heap.objs.size + 1) l2 0 → (∀ c o, s.heap.get? c = some o → g.get? c = some o) → Q (.ref (s.heap.objs.size + 4)) { s with heap := g }) : wpAny (model prog w) A (call (.type "zip") [.ref l1, .ref l2]) Q E s := by
  refine callType_new F.called_zip (by decide) (F.typeCall_zip_2 _ _) (F.newCall_zip_2 _ _) (fun o => F.args_object_init_3 o _ _) F.entry_zip_new (zg_new S1 S2 l1 l2 xs ys) ⟨q1, q2, ?_⟩
  have a1 : (zg1 S1 s.heap l1).objs.size = s.heap.objs.size + 1 := by rw [Heap.size_push]
  have a2 : (zg1 S2 (zg1 S1 s.heap l1) l2).objs.size = s.heap.objs.size + 2 := by rw [Heap.size_push, a1]
  have a3 : (zg2 S1 S2 s.heap l1 l2).objs.size = s.heap.objs.size + 3 := by rw [Heap.size_push, a2]
  have a4 : (zg3 S1 S2 s.heap l1 l2).objs.size = s.heap.objs.size + 4 := by rw [Heap.size_push, a3]
  have up1 : ∀ c o, (zg3 S1 S2 s.heap l1 l2).get? c = some o → (zg5 S1 S2 s.heap l1 l2).get? c = some o := fun c o e => Heap.get?_push_of_some _ e
  have up2 : ∀ c o, (zg2 S1 S2 s.heap l1 l2).get? c = some o → (zg5 S1 S2 s.heap l1 l2).get? c = some o := fun c o e => up1 c o (Heap.get?_push_of_some _ e)
  have up3 : ∀ c o, (zg1 S2 (zg1 S1 s.heap l1) l2).get? c = some o → (zg5 S1 S2 s.heap l1 l2).get? c = some o := fun c o e => up2 c o (Heap.get?_push_of_some _ e)
  have up4 : ∀ c o, (zg1 S1 s.heap l1).get? c = some o → (zg5 S1 S2 s.heap l1 l2).get? c = some o := fun c o e => up3 c o (Heap.get?_push_of_some _ e)
  have b5 : (zg5 S1 S2 s.heap l1 l2).get? (zg3 S1 S2 s.heap l1 l2).objs.size = some _ := Heap.get?_push_size _ rfl
  have b4 := up1 _ _ (Heap.get?_push_size (zg2 S1 S2 s.heap l1 l2) (o := { cls := .type "tuple", data := .seq #[.none, .none] }) rfl)
  have b3 := up2 _ _ (Heap.get?_push_size (zg1 S2 (zg1 S1 s.heap l1) l2) (o := { cls := .type "tuple", data := .seq #[.ref s.heap.objs.size, .ref (zg1 S1 s.heap l1).objs.size] }) rfl)
  have b2 := up3 _ _ (Heap.get?_push_size (zg1 S1 s.heap l1) (o := { cls := .type S2.nm, data := .fields #[.ref l2, .int 0 0] }) rfl)
  have b1 := up4 _ _ (Heap.get?_push_size s.heap (o := { cls := .type S1.nm, data := .fields #[.ref l1, .int 0 0] }) rfl)
  rw [a2, a3, a4] at b5
  rw [a3] at b4
  rw [a1, a2] at b3
  rw [a1] at b2
  rw [a4]
  exact ⟨⟨_, b5, rfl⟩, q _ b5 b3 b4 (S1.ni b1) (S2.ni b2) fun c o e => up4 c o (Heap.get?_push_of_some _ e)⟩
theorem zg_next {S1 S2 : Sk} {z TI TO i1 i2 l1 l2 : Addr} {k1 k2 : Nat} {xs ys : Array Value} {x y a b : Value} {Q : Option Value → Shared → Prop} (D : ZipApart z TI TO i1 i2 l1 l2)
    (hz : IsZip s.heap z TI TO .none) (hI : IsPair s.heap TI (.ref i1) (.ref i2)) (hO : IsPair s.heap TO a b) (j1 : S1.si s.heap i1 l1 k1) (j2 : S2.si s.heap i2 l2 k2) (q1 : S1.sq s.heap l1 xs) (q2 : S2.sq s.heap l2 ys) (hx : xs[k1]? = some x) (hy : ys[k2]? = some y)
    (q : ∀ g, IsZip g z TI TO (rawInt s.heap.objs.size) → IsPair g TO x y → S1.si g i1 l1 (k1 + 1) → S2.si g i2 l2 (k2 + 1) → IsPair g s.heap.objs.size x y → g.objs.size = s.heap.objs.size + 1 → (∀ c o, c ≠ z → c ≠ TO → c ≠ i1 → c ≠ i2 → s.heap.get? c = some o → g.get? c = some o) → Q (some (.ref s.heap.objs.size)) { s with heap := g }) :
    wpAny (model prog w) A (pyNext (.ref z)) Q E s := by
  have hT : s.TypeIs (.ref z) "zip" := ⟨_, hz, rfl⟩
  unfold pyNext
  exact wpAny_bind (wpAny_attempt (wpAny_callSpecial?_slot (name := Str.ofString "__next__") hT F.slot_zip_next (wpAny_call_entry F.slot_zip_next hT F.entry_zip_next (zg_item S1 S2 D hz hI hO j1 j2 q1 q2 hx hy fun g a1 a2 a3 a4 a5 a6 a7 => wpAny_pure (q g a1 a2 a3 a4 a5 a6 a7)) (F.args_zip_next_1 _))))
theorem zg_over {S1 S2 : Sk} {z TI TO i1 i2 l1 l2 : Addr} {k1 k2 : Nat} {xs ys : Array Value} {a b : Value} {Q : Option Value → Shared → Prop} (hh : A.handled = none) (D : ZipApart z TI TO i1 i2 l1 l2)
    (hz : IsZip s.heap z TI TO .none) (hI : IsPair s.heap TI (.ref i1) (.ref i2)) (hO : IsPair s.heap TO a b) (j1 : S1.si s.heap i1 l1 k1) (j2 : S2.si s.heap i2 l2 k2) (q1 : S1.sq s.heap l1 xs) (q2 : S2.sq s.heap l2 ys) (hend : xs[k1]? = none ∨ ys[k2]? = none)
    (q : ∀ g, (∀ c o, c ≠ z → c ≠ TO → c ≠ i1 → c ≠ i2 → s.heap.get? c = some o → g.get? c = some o) → Q none { s with heap := g }) : wpAny (model prog w) A (pyNext (.ref z)) Q E s := by
  have hT : s.TypeIs (.ref z) "zip" := ⟨_, hz, rfl⟩
  unfold pyNext
  refine wpAny_bind (wpAny_attempt (wpAny_callSpecial?_slot (name := Str.ofString "__next__") hT F.slot_zip_next (wpAny_call_entry F.slot_zip_next hT F.entry_zip_next (zg_end S1 S2 hh D hz hI hO j1 j2 q1 q2 hend fun g e hk he => ?_) (F.args_zip_next_1 _))))
  obtain ⟨o, h1, h2⟩ := he
  exact wpAny_bind (wpAny_isInstance (T := "StopIteration") (b := true) ⟨o, h1, h2⟩ isSubtype_stop (wpAny_pure (q _ hk)))
end
/-- what zip walks -/
def Itm (G1 G2 : Hp → Addr → List V → Prop) (a b : Addr) : L2.It :=
  ⟨fun i H => ∃ (xs ys : List V) (x y : V), G1 H a xs ∧ G2 H b ys ∧ xs[i]? = some x ∧ ys[i]? = some y,
    fun i H v H' => ∃ T x y, v = .ref T ∧ H T = none ∧ H' = upd H T (.tup [x, y]) ∧ (∀ xs, G1 H a xs → xs[i]? = some x) ∧ ∀ ys, G2 H b ys → ys[i]? = some y,
    fun i H => ∃ xs ys : List V, G1 H a xs ∧ G2 H b ys ∧ (xs.length ≤ i ∨ ys.length ≤ i)⟩
theorem arr_get {its : List Value} {i : Nat} {u : Value} (h : its[i]? = some u) : its.toArray[i]? = some u := by simpa using h
theorem zg_turn (S1 S2 : Sk) {P : Program} {w : World} {K : Frag} {elts : List Expr} {kk : Nat} {tpos : Pos} {a b z TI TO i1 i2 : Addr} (D : ZipApart z TI TO i1 i2 a b) :
    Turn P w K (.Tuple elts kk tpos) (Itm (S1.lq K) (S2.lq K) a b) [z, TI, TO, i1, i2] z (fun i h => IsZip h z TI TO .none ∧ IsPair h TI (.ref i1) (.ref i2) ∧ (∃ x y, IsPair h TO x y) ∧ S1.si h i1 a i ∧ S2.si h i2 b i) where
  mem := by simp
  obj := fun i h st c hc => by
    obtain ⟨hz, hI, ⟨x, y, hO⟩, j1, j2⟩ := st
    have hc : c = z ∨ c = TI ∨ c = TO ∨ c = i1 ∨ c = i2 := by simpa using hc
    rcases hc with rfl | rfl | rfl | rfl | rfl
    · exact ⟨_, hz, fun v q => nomatch q⟩
    · exact ⟨_, hI, fun v q => nomatch q⟩
    · exact ⟨_, hO, fun v q => nomatch q⟩
    · exact S1.io j1
    · exact S2.io j2
  keep := fun i h h' st k => by
    obtain ⟨hz, hI, ⟨x, y, hO⟩, j1, j2⟩ := st
    exact ⟨k z (by simp) _ hz, k TI (by simp) _ hI, ⟨x, y, k TO (by simp) _ hO⟩, S1.iat j1 (k i1 (by simp)), S2.iat j2 (k i2 (by simp))⟩
  item := by
    rintro X rfl rfl rfl hc i pins s σ H E I hf ⟨hz, hI, ⟨x0, y0, hO⟩, j1, j2⟩ ⟨xs, ys, x, y, q1, q2, hx, hy⟩
    obtain ⟨t1, r1, p1⟩ := S1.lof I q1
    obtain ⟨t2, r2, p2⟩ := S2.lof I q2
    obtain ⟨u, hu, ru⟩ := r1.get hx
    obtain ⟨u2, hu2, ru2⟩ := r2.get hy
    have zl : z < s.heap.objs.size := Heap.lt_size hz
    refine zg_next D hz hI hO j1 j2 p1 p2 (arr_get hu) (arr_get hu2) fun g z' O' j1' j2' T sz kp => ?_
    refine ⟨_, rfl, wpAny_letOwnedTupleGo_zip (s := { s with heap := g }) z' fun g2 z2 sb => ?_⟩
    have T2 : g2.get? s.heap.objs.size = some { cls := .type "tuple", data := .seq #[u, u2] } := (sb.2 _ (Nat.ne_of_gt zl)).trans T
    have nw : ObjOk X.prog X.w (upd H s.heap.objs.size (.tup [x, y])) g2 s.heap.objs.size (.tup [x, y]) := ⟨by show 2 ≤ sizeLine; decide, [u, u2], .cons ru (.cons ru2 .nil), ⟨_, T2, rfl, _, rfl⟩⟩
    have I1 : Inv X pins σ (upd H s.heap.objs.size (.tup [x, y])) { s with heap := g2 } :=
      I.turnedNew (t' := s.toks) (ch := [z, TI, TO, i1, i2]) (fun c o n q => (sb.2 c fun e => n (by simp [e])).trans (kp c o (fun e => n (by simp [e])) (fun e => n (by simp [e])) (fun e => n (by simp [e])) (fun e => n (by simp [e])) q)) hf (Nat.le_refl _) nw
    refine ⟨.ref s.heap.objs.size, _, I1, rfl, ⟨_, x, y, rfl, I.hok.fresh (Nat.le_refl _), rfl, fun l hl => by rw [S1.linj I hl q1]; exact hx, fun l hl => by rw [S2.linj I hl q2]; exact hy⟩, ⟨z2, (sb.2 _ D.TIz).trans (kp _ _ D.TIz D.TITO D.TIi1 D.TIi2 hI), ⟨u, u2, (sb.2 _ D.TOz).trans O'⟩, S1.iat j1' fun o q => (sb.2 _ D.i1z).trans q, S2.iat j2' fun o q => (sb.2 _ D.i2z).trans q⟩, fun c hc => ?_⟩
    have lt : c < s.heap.objs.size := by
      have hc : c = z ∨ c = TI ∨ c = TO ∨ c = i1 ∨ c = i2 := by simpa using hc
      rcases hc with rfl | rfl | rfl | rfl | rfl
      · exact zl
      · exact Heap.lt_size hI
      · exact Heap.lt_size hO
      · obtain ⟨_, e, _⟩ := S1.io j1; exact Heap.lt_size e
      · obtain ⟨_, e, _⟩ := S2.io j2; exact Heap.lt_size e
    rw [upd_ne (Nat.ne_of_lt lt)]
    exact (hf c hc).1
  done := by
    rintro X rfl rfl rfl hc i pins s σ H E I hf ⟨hz, hI, ⟨x0, y0, hO⟩, j1, j2⟩ ⟨xs, ys, q1, q2, hend⟩
    obtain ⟨t1, r1, p1⟩ := S1.lof I q1
    obtain ⟨t2, r2, p2⟩ := S2.lof I q2
    have n1 := r1.length
    have n2 := r2.length
    have he : t1.toArray[i]? = none ∨ t2.toArray[i]? = none := by
      rcases hend with q | q
      · exact .inl (by simp; omega)
      · exact .inr (by simp; omega)
    exact zg_over (I.ok.hd hc) D hz hI hO j1 j2 p1 p2 he fun g kp => ⟨rfl, I.turnedL (t' := s.toks) (ch := [z, TI, TO, i1, i2]) (fun c o n q => kp c o (fun e => n (by simp [e])) (fun e => n (by simp [e])) (fun e => n (by simp [e])) (fun e => n (by simp [e])) q) hf⟩
  self := fun A i s Q E st h => wpAny_pyIter_zip st.1 h
def iZg (K : Frag) (ta : TA) : TI := fun σ H R => ta σ H fun vs H1 => ∃ (S1 S2 : Sk) (a b : Addr) (xs ys : List V), vs = [.ref a, .ref b] ∧ S1.lq K H1 a xs ∧ S2.lq K H1 b ys ∧ R (Itm (S1.lq K) (S2.lq K) a b) H1
theorem pi_zg {X : Cx} {e e2 : Expr} {ta : TA} {p pos tpos : Pos} {elts : List Expr} {kk : Nat} (hg : Gl X "zip") (hm : X.mg "zip" = none) (ha : PA X [e, e2] ta)
    (hs : starEach [e, e2] X.env = (false, eval e X.env) :: starEach [e2] X.env) (hpl : (backTo pos (starEach [e2] X.env)).any (·.1) = false) : PI X (.Tuple elts kk tpos) (.Call (.Name "zip" p) [e, e2] [] pos) (iZg X.K ta) := by
  refine ⟨fun pins s σ H R I h => Call_ (ld_blt I hg hm PyProof.Rows.boot_zip (PyProof.Rows.callWith_type1 (thn (ha.run pos pins s σ H _ I h) fun us s1 ⟨vs, H1, I1, r1, S1, S2, a, b, xs, ys, ex, q1, q2, q⟩ => ?_) hs hpl))⟩
  subst ex
  obtain ⟨v1, v2, rfl, ra, rb⟩ := vals2 r1
  cases (show v1 = Value.ref a from ra)
  cases (show v2 = Value.ref b from rb)
  obtain ⟨t1, rv1, p1⟩ := S1.lof I1 q1
  obtain ⟨t2, rv2, p2⟩ := S2.lof I1 q2
  refine zg_call S1 S2 p1 p2 fun g hz hI hO j1 j2 kp => wpAny_pyIter_zip hz ?_
  have I2 : Inv X pins σ H1 { s1 with heap := g } := I1.kept (t' := s1.toks) kp
  refine ⟨s1.heap.objs.size + 4, [s1.heap.objs.size + 4, s1.heap.objs.size + 2, s1.heap.objs.size + 3, s1.heap.objs.size, s1.heap.objs.size + 1], _, _, H1, rfl, I2, zg_turn S1 S2 (PySem.W.ktu_apart s1.heap.objs.size a b (S1.so p1) (S2.so p2)), ⟨hz, hI, ⟨_, _, hO⟩, j1, j2⟩, fun c hc => ?_, q⟩
  have le : s1.heap.objs.size ≤ c := by
    have hc : c = s1.heap.objs.size + 4 ∨ c = s1.heap.objs.size + 2 ∨ c = s1.heap.objs.size + 3 ∨ c = s1.heap.objs.size ∨ c = s1.heap.objs.size + 1 := by simpa using hc
    rcases hc with rfl | rfl | rfl | rfl | rfl <;> first | exact Nat.le_refl _ | exact Nat.le_add_right _ _
  exact I1.fpOk le (I1.hok.fresh le)
theorem zip_get {xs ys : List Val} {i : Nat} {v : Val} (h : (zipV xs ys)[i]? = some v) : ∃ x y, xs[i]? = some x ∧ ys[i]? = some y ∧ v = .tup [x, y] := by
  unfold zipV at h
  rw [List.getElem?_map] at h
  cases e : (xs.zip ys)[i]? with
  | none => rw [e] at h; cases h
  | some p =>
    rw [e] at h
    cases h
    obtain ⟨h1, h2⟩ := List.getElem?_zip_eq_some.mp e
    exact ⟨_, _, h1, h2, rfl⟩
/-- where a list-like value stands, and that it keeps standing there -/
theorem keep_ok {T : Tb} {K : Frag} {u : Val} {x : V} {h : VH} {H : Hp} {xs : List Val} {g : VH → Prop} (rx : RV T K H u x) (rh : RH T K h H) (e : keepV u h = some (xs, g)) :
    ∃ (S : Sk) (a : Addr) (ys : List V), x = .ref a ∧ S.lq K H a ys ∧ ∀ H' h', HLe H H' → RH T K h' H' → g h' → ∃ ys', S.lq K H' a ys' ∧ RVs T K H' xs ys' := by
  cases u with
  | tup zs =>
    cases e
    obtain ⟨a, ys, rfl, sp, q⟩ := rv_tupS rx
    exact ⟨skT, a, ys, rfl, sp, fun H' h' l _ _ => ⟨ys, SqT.le l sp, q.le l⟩⟩
  | rls zs =>
    cases e
    obtain ⟨a, ys, rfl, sp, q⟩ := rv_rls.mp rx
    exact ⟨skL, a, ys, rfl, sp.sq, fun H' h' l _ _ => ⟨ys, (sp.le l).sq, q.le l⟩⟩
  | ref a =>
    unfold keepV at e
    dsimp only at e
    cases e1 : h a with
    | none => rw [e1] at e; cases e
    | some o =>
      rw [e1] at e
      cases o with
      | lst zs =>
        cases e
        obtain rfl := rv_ref.mp rx
        obtain ⟨ys, e2, q⟩ := rh.lst e1
        exact ⟨skL, a, ys, rfl, SqL.of e2, fun H' h' l rh' g' => (let ⟨ys', e3, q'⟩ := rh'.lst g'; ⟨ys', SqL.of e3, q'⟩)⟩
      | _ => cases e
  | _ => cases e
section
variable {X : Ctx} {Γ : Gam} {T : Tb} {W : WX} {a b : Expr} {ma mb : E} {pos : Pos}
theorem s_zp (L : Le Γ Γ) {p tpos : Pos} {elts : List Expr} {kk : Nat} (hg : Gl X "zip") (hm : X.mg "zip" = none) (ha : PE X a (tE Γ T X.K W ma)) (hb : PE X b (tE Γ T X.K W mb)) (hs : starEach [a, b] X.env = (false, eval a X.env) :: starEach [b] X.env) (hs2 : starEach [b] X.env = (false, eval b X.env) :: starEach [] X.env) (hpl : (backTo pos (starEach [b] X.env)).any (·.1) = false) :
    PI X (.Tuple elts kk tpos) (.Call (.Name "zip" p) [a, b] [] pos) (tI Γ T X.K W (.zp ma mb)) :=
  (pi_zg hg hm (pa_cons ha (pa_cons hb pa_nil hs2) hs) hs hpl).imp fun σ H Q ⟨σv, h, rs, rh, w⟩ => by
    simp only [wpIt] at w
    refine tE.of L .refl rs rh w fun u h1 w1 x H1 l1 rh1 rx => tE.of L l1 (rs.le l1) rh1 w1 fun v h2 w2 y H2 l2 rh2 ry => ?_
    unfold srcZ at w2
    split at w2
    · rename_i xs g ys k e1 e2
      obtain ⟨S1, a1, zs, rfl, q1, k1⟩ := keep_ok (rx.le l2) rh2 e1
      obtain ⟨S2, a2, ws, rfl, q2, k2⟩ := keep_ok ry rh2 e2
      refine ⟨S1, S2, a1, a2, zs, ws, rfl, q1, q2, w2.2 H2 (l1.trans l2) rh2 _ fun i H3 h3 l3 rh3 gk => ?_⟩
      obtain ⟨zs', p1, r1⟩ := k1 H3 h3 l3 rh3 gk.1
      obtain ⟨ws', p2, r2⟩ := k2 H3 h3 l3 rh3 gk.2
      refine ⟨fun hi => ⟨zs', ws', p1, p2, ?_⟩, fun v hv => ?_⟩
      · unfold zipV at hi
        rw [List.length_map, List.length_zip, r1.length, r2.length] at hi
        omega
      · obtain ⟨x, y, hx, hy, rfl⟩ := zip_get hv
        obtain ⟨x1, hx1, rx1⟩ := r1.get hx
        obtain ⟨y1, hy1, ry1⟩ := r2.get hy
        refine ⟨⟨zs', ws', x1, y1, p1, p2, hx1, hy1⟩, fun z H4 ⟨t, x2, y2, e1, e2, e3, e4, e5⟩ => ?_⟩
        subst e1 e3
        have := e4 zs' p1
        rw [hx1] at this
        cases this
        have := e5 ws' p2
        rw [hy1] at this
        cases this
        exact ⟨.new e2, rh3.side e2, rv_tup.mpr ⟨t, _, rfl, upd_same, .cons (rx1.le (.new e2)) (.cons (ry1.le (.new e2)) .nil)⟩⟩
    · exact w2.elim
end
end MP
end
section
set_option maxHeartbeats 1000000
/-! MpJe: enumerate of a tuple. -/
namespace MP
open PySem PySem.Spec PyProof.Rows L2
section
variable {prog : Program} {w : World} {A : Around} {E : Value → Shared → Prop} {s : Shared} (S : Sk)
/-- one turn of enumerate's own next -/
theorem eg_item {e it l : Addr} {i : Nat} {xs : Array Value} {x old : Value} {Q : Value → Shared → Prop} (he : IsEnum s.heap e it i old) (hi : S.si s.heap it l i) (hl : S.sq s.heap l xs) (hx : xs[i]? = some x) (hne : e ≠ it)
    (q : ∀ g, IsEnumOut g e it ((i : Int) + 1) x s.heap.objs.size → S.si g it l (i + 1) → g.get? s.heap.objs.size = some { cls := .type "tuple", data := .seq #[.int i s.toks, x] } → (∀ b o, b ≠ e → b ≠ it → s.heap.get? b = some o → g.get? b = some o) → Q (.ref s.heap.objs.size) { s with heap := g, toks := s.toks + 1 }) :
    wpAny (model prog w) A (Builtin.«enumerate.__next__» ⟨[.ref e], []⟩) (fun fin s' => ∃ v, fin = .done (.ret v) ∧ Q v s') E s := by
  obtain ⟨hp, gn, d, tk, os⟩ := s
  show wpAny (model prog w) A (field (.ref e) 2 >>= _) _ E _
  refine wpAny_bind (wpAny_field he rfl (x := .ref it) (by rfl) (wpAny_bind (S.item hi hl hx fun g1 i1 e1 => ?_)))
  replace e1 : Heap.SameBut it hp g1 := e1
  have a1 : IsEnum g1 e it i old := (e1.2 e hne).trans he
  show wpAny (model prog w) _ (field (.ref e) 3 >>= _) _ _ ⟨g1, gn, d, tk, os⟩
  refine wpAny_bind (wpAny_field a1 rfl (x := rawInt i) (by rfl) ?_)
  show wpAny (model prog w) _ (field (.ref e) 4 >>= _) _ _ ⟨g1, gn, d, tk, os⟩
  refine wpAny_bind (wpAny_field a1 rfl (x := .none) (by rfl) ?_)
  show wpAny (model prog w) _ (mkInt i >>= _) _ _ ⟨g1, gn, d, tk, os⟩
  refine wpAny_bind (wpAny_mkInt ?_)
  show wpAny (model prog w) _ (setField (.ref e) 3 (rawInt ((i : Int) + 1)) >>= _) _ _ ⟨g1, gn, d, tk + 1, os⟩
  refine wpAny_bind (wpAny_setField_rec a1 (by simp) fun g2 a2 e2 => ?_)
  replace e2 : Heap.SameBut e g1 g2 := e2
  replace a2 : IsEnum g2 e it ((i : Int) + 1) old := a2
  show wpAny (model prog w) _ (setField (.ref e) 4 .none >>= _) _ _ ⟨g2, gn, d, tk + 1, os⟩
  refine wpAny_bind (wpAny_setField_rec a2 (by simp) fun g3 a3 e3 => ?_)
  replace e3 : Heap.SameBut e g2 g3 := e3
  replace a3 : IsEnum g3 e it ((i : Int) + 1) old := a3
  show wpAny (model prog w) _ (newTuple [.int i tk, x] >>= _) _ _ ⟨g3, gn, d, tk + 1, os⟩
  refine wpAny_bind (wpAny_newTuple ?_)
  have a4 : IsEnum (g3.push { cls := .type "tuple", data := .seq #[.int i tk, x] }) e it ((i : Int) + 1) old := Heap.get?_push_of_some _ a3
  have sz : g3.objs.size = hp.objs.size := by rw [e3.1, e2.1, e1.1]
  have el : e < hp.objs.size := Heap.lt_size he
  have t4 : (g3.push { cls := .type "tuple", data := .seq #[.int i tk, x] }).get? hp.objs.size = some { cls := .type "tuple", data := .seq #[.int i tk, x] } := by rw [← sz]; exact Heap.get?_push_size _ rfl
  have k4 : ∀ b o, b ≠ e → b ≠ it → hp.get? b = some o → (g3.push { cls := .type "tuple", data := .seq #[.int i tk, x] }).get? b = some o := fun b o n1 n2 q => Heap.get?_push_of_some _ (e3.extBut b o n1 (e2.extBut b o n1 (e1.extBut b o n2 q)))
  have i4 : S.si (g3.push { cls := .type "tuple", data := .seq #[.int i tk, x] }) it l (i + 1) := S.iat (S.ix (S.ix i1 e2.extBut (Ne.symm hne)) e3.extBut (Ne.symm hne)) fun o q => Heap.get?_push_of_some _ q
  show wpAny (model prog w) _ (Builtin.SmallTypes.ownedTupleIsFree (.ref e) >>= _) _ _ ⟨g3.push { cls := .type "tuple", data := .seq #[.int i tk, x] }, gn, d, tk + 1, os⟩
  rw [sz]
  generalize g3.push { cls := .type "tuple", data := .seq #[.int i tk, x] } = g4 at a4 t4 k4 i4 ⊢
  clear a3 e3 a2 e2 a1 e1 i1 sz
  unfold Builtin.SmallTypes.ownedTupleIsFree
  refine wpAny_bind (wpAny_bind (wpAny_field a4 rfl (x := .none) (by rfl) (wpAny_pure ?_)))
  simp only [if_true]
  refine wpAny_bind (wpAny_rule (wpAny_bind (wpAny_field a4 rfl (x := old) (by rfl) (wpAny_bind (wpAny_setField_rec a4 (by simp) fun g5 a5 e5 => ?_)))))
  replace e5 : Heap.SameBut e g4 g5 := e5
  replace a5 : IsEnum g5 e it ((i : Int) + 1) x := a5
  show wpAny (model prog w) _ (Builtin.SmallTypes.ownedTupleHandOut (.ref e) (.ref hp.objs.size) >>= _) _ _ ⟨g5, gn, d, tk + 1, os⟩
  unfold Builtin.SmallTypes.ownedTupleHandOut
  refine wpAny_bind (wpAny_bind (wpAny_setField_rec a5 (by simp) fun g6 a6 e6 => ?_))
  replace e6 : Heap.SameBut e g5 g6 := e6
  replace a6 : IsEnumOut g6 e it ((i : Int) + 1) x hp.objs.size := a6
  refine wpAny_setField_rec a6 (by simp) fun g7 a7 e7 => ?_
  replace e7 : Heap.SameBut e g6 g7 := e7
  replace a7 : IsEnumOut g7 e it ((i : Int) + 1) x hp.objs.size := a7
  refine wpAny_bind (wpAny_letGo (wpAny_pure ⟨_, rfl, q g7 a7 ?_ ?_ ?_⟩))
  · exact S.ix (S.ix (S.ix i4 e5.extBut (Ne.symm hne)) e6.extBut (Ne.symm hne)) e7.extBut (Ne.symm hne)
  · exact e7.extBut _ _ (Nat.ne_of_gt el) (e6.extBut _ _ (Nat.ne_of_gt el) (e5.extBut _ _ (Nat.ne_of_gt el) t4))
  · exact fun b o n1 n2 z => e7.extBut b o n1 (e6.extBut b o n1 (e5.extBut b o n1 (k4 b o n1 n2 z)))
theorem eg_next {e it l : Addr} {i : Nat} {xs : Array Value} {x old : Value} {Q : Option Value → Shared → Prop} (he : IsEnum s.heap e it i old) (hi : S.si s.heap it l i) (hl : S.sq s.heap l xs) (hx : xs[i]? = some x) (hne : e ≠ it)
    (q : ∀ g, IsEnumOut g e it ((i : Int) + 1) x s.heap.objs.size → S.si g it l (i + 1) → g.get? s.heap.objs.size = some { cls := .type "tuple", data := .seq #[.int i s.toks, x] } → (∀ b o, b ≠ e → b ≠ it → s.heap.get? b = some o → g.get? b = some o) → Q (some (.ref s.heap.objs.size)) { s with heap := g, toks := s.toks + 1 }) :
    wpAny (model prog w) A (pyNext (.ref e)) Q E s := by
  have hT : s.TypeIs (.ref e) "enumerate" := ⟨_, he, rfl⟩
  unfold pyNext
  exact wpAny_bind (wpAny_attempt (wpAny_callSpecial?_slot (name := Str.ofString "__next__") hT F.slot_enumerate_next (wpAny_call_entry F.slot_enumerate_next hT F.entry_enumerate_next (eg_item S he hi hl hx hne fun g a b c k => wpAny_pure (q g a b c k)) (F.args_enumerate_next_1 _))))
theorem eg_over {e it l : Addr} {i : Nat} {xs : Array Value} {old : Value} {Q : Option Value → Shared → Prop} (hh : A.handled = none) (he : IsEnum s.heap e it i old) (hi : S.si s.heap it l i) (hl : S.sq s.heap l xs) (hx : xs[i]? = none)
    (q : ∀ g, Heap.ExtBut it s.heap g → Q none { s with heap := g }) : wpAny (model prog w) A (pyNext (.ref e)) Q E s := by
  have hT : s.TypeIs (.ref e) "enumerate" := ⟨_, he, rfl⟩
  unfold pyNext
  refine wpAny_bind (wpAny_attempt (wpAny_callSpecial?_slot (name := Str.ofString "__next__") hT F.slot_enumerate_next (wpAny_call_entry F.slot_enumerate_next hT F.entry_enumerate_next ?_ (F.args_enumerate_next_1 _))))
  show wpAny (model prog w) _ (field (.ref e) 2 >>= _) _ _ _
  refine wpAny_bind (wpAny_field he rfl (x := .ref it) (by rfl) (wpAny_bind (S.stop hh hi hl hx fun g y e1 hy => ?_)))
  obtain ⟨o, h1, h2⟩ := hy
  exact wpAny_bind (wpAny_isInstance (T := "StopIteration") (b := true) ⟨o, h1, h2⟩ isSubtype_stop (wpAny_pure (q _ e1)))
end
theorem eg_new (l : Addr) (xs : Array Value) (n : Nat) (dct : Option Addr) (sl : Array (Option Value)) :
    Meets (Builtin.«enumerate.__new__» ⟨[.type "enumerate", .ref l], []⟩) (fun _ R s => s.heap.get? l = some { cls := .type "tuple", dict := dct, data := .seq xs n, slots := sl } ∧
      R (.ok (.ret (.ref (zg1 skT s.heap l).objs.size))) { s with heap := (zg1 skT s.heap l).push { cls := .type "enumerate", data := .fields #[.none, .bool false, .ref s.heap.objs.size, rawInt 0, .none, .none] } }) :=
  .of_wp fun prog w A R s h => by
    obtain ⟨hp, gn, d, tk, os⟩ := s
    obtain ⟨hl, h⟩ := h
    have hsub := sub_enumerate
    have hT : Heap.IsTuple (Shared.heap ⟨hp, gn, d, tk, os⟩) l xs := ⟨_, hl, rfl, n, rfl⟩
    wp_walk using wpAny_loadPart' hl
    refine wpAny_stack_any fun st => wpAny_pure ?_
    split
    · rename_i c _ _ _ _ _
      cases (c == Value.type "enumerate") <;> (wp_walk using wpAny_loadPart' hl, wpAny_pyIter_tuple hT; exact ⟨_, rfl, h⟩)
    · wp_walk using wpAny_loadPart' hl, wpAny_pyIter_tuple hT
      exact ⟨_, rfl, h⟩
section
variable {prog : Program} {w : World} {A : Around} {E : Value → Shared → Prop} {s : Shared}
theorem eg_call {l : Addr} {xs : Array Value} {Q : Value → Shared → Prop} (hl : s.heap.IsTuple l xs)
    (q : ∀ g, IsEnum g (s.heap.objs.size + 1) s.heap.objs.size 0 .none → skT.si g s.heap.objs.size l 0 → (∀ b o, s.heap.get? b = some o → g.get? b = some o) → Q (.ref (s.heap.objs.size + 1)) { s with heap := g }) : wpAny (model prog w) A (call (.type "enumerate") [.ref l]) Q E s := by
  obtain ⟨⟨c, dct, dt, sl⟩, h1, h2, n, h3⟩ := hl
  replace h2 : c = .type "tuple" := h2
  replace h3 : dt = .seq xs n := h3
  subst h2 h3
  refine callType_new F.called_enumerate (by decide) (F.typeCall_enumerate_1 _) (F.newCall_enumerate_1 _) (fun o => F.args_object_init_2 o _) F.entry_enumerate_new (eg_new l xs n dct sl) ⟨h1, ?_⟩
  have a1 : (zg1 skT s.heap l).objs.size = s.heap.objs.size + 1 := by rw [Heap.size_push]
  have b2 : ((zg1 skT s.heap l).push { cls := .type "enumerate", data := .fields #[.none, .bool false, .ref s.heap.objs.size, rawInt 0, .none, .none] }).get? (zg1 skT s.heap l).objs.size = some _ := Heap.get?_push_size _ rfl
  have b1 : ((zg1 skT s.heap l).push { cls := .type "enumerate", data := .fields #[.none, .bool false, .ref s.heap.objs.size, rawInt 0, .none, .none] }).get? s.heap.objs.size = some { cls := .type skT.nm, data := .fields #[.ref l, .int 0 0] } := Heap.get?_push_of_some _ (Heap.get?_push_size _ rfl)
  rw [a1] at b2 ⊢
  exact ⟨⟨_, b2, rfl⟩, q _ b2 (skT.ni b1) fun c o e => Heap.get?_push_of_some _ (Heap.get?_push_of_some _ e)⟩
end
/-- what enumerate of a tuple walks -/
def Iten (K : Frag) (a : Addr) : L2.It :=
  ⟨fun i H => ∃ (xs : List V) (x : V), SqT K H a xs ∧ xs[i]? = some x, fun i H v H' => ∃ T x, v = .ref T ∧ H T = none ∧ H' = upd H T (.tup [.int (i : Nat), x]) ∧ ∀ xs, SqT K H a xs → xs[i]? = some x, fun i H => ∃ xs : List V, SqT K H a xs ∧ xs.length ≤ i⟩
theorem eg_turn {P : Program} {w : World} {K : Frag} {elts : List Expr} {kk : Nat} {tpos : Pos} (a e it : Addr) :
    Turn P w K (.Tuple elts kk tpos) (Iten K a) [e, it] e (fun i h => (∃ old, IsEnum h e it ((i : Nat) : Int) old) ∧ skT.si h it a i ∧ e ≠ it) where
  mem := by simp
  obj := fun i h st b hb => by
    obtain ⟨⟨old, he⟩, hi, _⟩ := st
    have hb : b = e ∨ b = it := by simpa using hb
    rcases hb with rfl | rfl
    · exact ⟨_, he, fun v q => nomatch q⟩
    · exact skT.io hi
  keep := fun i h h' st k => (let ⟨⟨old, he⟩, hi, hne⟩ := st; ⟨⟨old, k e (by simp) _ he⟩, skT.iat hi (k it (by simp)), hne⟩)
  item := by
    rintro X rfl rfl rfl hc i pins s σ H E I hf ⟨⟨old, he⟩, hi, hne⟩ ⟨xs, x, hq, hx⟩
    obtain ⟨its, rv, p⟩ := skT.lof I hq
    obtain ⟨u, hu, ru⟩ := rv.get hx
    have el : e < s.heap.objs.size := Heap.lt_size he
    have il : it < s.heap.objs.size := by obtain ⟨_, q, _⟩ := skT.io hi; exact Heap.lt_size q
    refine eg_next skT he hi p (arr_get hu) hne fun g ho hi' T kp => ?_
    refine ⟨_, rfl, wpAny_letOwnedTupleGo_enum (s := { s with heap := g, toks := s.toks + 1 }) ho fun g2 he' sb => ?_⟩
    have T2 : g2.get? s.heap.objs.size = some { cls := .type "tuple", data := .seq #[.int i s.toks, u] } := (sb.2 _ (Nat.ne_of_gt el)).trans T
    have nw : ObjOk X.prog X.w (upd H s.heap.objs.size (.tup [.int (i : Nat), x])) g2 s.heap.objs.size (.tup [.int (i : Nat), x]) := ⟨by show 2 ≤ sizeLine; decide, [.int i s.toks, u], .cons ⟨_, rfl⟩ (.cons ru .nil), ⟨_, T2, rfl, _, rfl⟩⟩
    have I1 : Inv X pins σ (upd H s.heap.objs.size (.tup [.int (i : Nat), x])) { s with heap := g2, toks := s.toks + 1 } :=
      I.turnedNew (ch := [e, it]) (fun b o n q => (sb.2 b fun z => n (by simp [z])).trans (kp b o (fun z => n (by simp [z])) (fun z => n (by simp [z])) q)) hf (Nat.le_refl _) nw
    refine ⟨.ref s.heap.objs.size, _, I1, rfl, ⟨_, x, rfl, I.hok.fresh (Nat.le_refl _), rfl, fun ys hy => by rw [I.tuple_inj hy hq]; exact hx⟩, ⟨⟨u, ?_⟩, skT.iat hi' fun o q => (sb.2 it (Ne.symm hne)).trans q, hne⟩, fun b hb => ?_⟩
    · rw [show ((i + 1 : Nat) : Int) = (i : Int) + 1 by omega]
      exact he'
    · have hb : b = e ∨ b = it := by simpa using hb
      have lt : b < s.heap.objs.size := by rcases hb with rfl | rfl <;> assumption
      rw [upd_ne (Nat.ne_of_lt lt)]
      exact (hf b (by simpa using hb)).1
  done := by
    rintro X rfl rfl rfl hc i pins s σ H E I hf ⟨⟨old, he⟩, hi, hne⟩ ⟨xs, hq, hx⟩
    obtain ⟨its, rv, p⟩ := skT.lof I hq
    obtain ⟨f0, f1, f2, f3, f4, f5⟩ := hf it (by simp)
    have hl := rv.length
    exact eg_over skT (I.ok.hd hc) he hi p (by simp; omega) fun g eb => ⟨rfl, I.turned (t' := s.toks) (fun b o hb q => eb b o hb q) f0 f1 f3 f4 f5⟩
  self := fun A i s Q E st h => (let ⟨⟨_, he⟩, _⟩ := st; wpAny_pyIter_enum he h)
def iEn2 (K : Frag) (ta : TA) : TI := fun σ H R => ta σ H fun vs H1 => ∃ a xs, vs = [.ref a] ∧ ((SqL K H1 a xs ∧ R (Ite K a) H1) ∨ (SqT K H1 a xs ∧ R (Iten K a) H1))
theorem pi_en2 {X : Cx} {e : Expr} {ta : TA} {p pos tpos : Pos} {elts : List Expr} {kk : Nat} (hg : Gl X "enumerate") (hm : X.mg "enumerate" = none) (ha : PA X [e] ta) (hs : starEach [e] X.env = [(false, eval e X.env)]) :
    PI X (.Tuple elts kk tpos) (.Call (.Name "enumerate" p) [e] [] pos) (iEn2 X.K ta) := by
  refine ⟨fun pins s σ H R I h => Call_ (ld_blt I hg hm boot_enumerate (PyProof.Rows.callWith_type1 (thn (ha.run pos pins s σ H _ I h) fun us s1 ⟨vs, H1, I1, r1, a, xs, ex, q1⟩ => ?_) hs rfl))⟩
  subst ex
  cases r1 with
  | cons r rr =>
    cases rr
    cases r
    have fp : ∀ b, b ∈ [s1.heap.objs.size + 1, s1.heap.objs.size] → FpOk X pins H1 b := fun b hb => by
      have le : s1.heap.objs.size ≤ b := by
        have hb : b = s1.heap.objs.size + 1 ∨ b = s1.heap.objs.size := by simpa using hb
        rcases hb with rfl | rfl
        · exact Nat.le_add_right _ _
        · exact Nat.le_refl _
      exact I1.fpOk le (I1.hok.fresh le)
    rcases q1 with ⟨hq, q⟩ | ⟨hq, q⟩
    · obtain ⟨its, rv, p'⟩ := skL.lof I1 hq
      refine call_enumerate_list p' fun g he hi sz kp => wpAny_pyIter_enum he ?_
      exact ⟨s1.heap.objs.size + 1, [s1.heap.objs.size + 1, s1.heap.objs.size], _, _, H1, rfl, I1.kept (t' := s1.toks) kp, turn_enum a (s1.heap.objs.size + 1) s1.heap.objs.size, ⟨⟨.none, he⟩, hi, Nat.succ_ne_self _⟩, fp, q⟩
    · obtain ⟨its, rv, p'⟩ := skT.lof I1 hq
      refine eg_call p' fun g he hi kp => wpAny_pyIter_enum he ?_
      exact ⟨s1.heap.objs.size + 1, [s1.heap.objs.size + 1, s1.heap.objs.size], _, _, H1, rfl, I1.kept (t' := s1.toks) kp, eg_turn a (s1.heap.objs.size + 1) s1.heap.objs.size, ⟨⟨.none, he⟩, hi, Nat.succ_ne_self _⟩, fp, q⟩
section
variable {T : Tb} {K : Frag}
theorem jok_enumT {H0 : Hp} {a : Addr} {xs : List Val} {ys : List V} (ro : SqT K H0 a ys) (rs : RVs T K H0 xs ys) : JOk T K H0 (Iten K a) (enumFrom 0 xs) tt := fun i H h l rh e => by
  have ro := SqT.le l ro
  have rs := rs.le l
  refine ⟨fun hi => ⟨ys, ro, by rw [← rs.length]; rw [enum_length] at hi; exact hi⟩, fun v hv => ?_⟩
  rw [enum_get] at hv
  cases q : xs[i]? with
  | none => rw [q] at hv; cases hv
  | some c =>
    rw [q] at hv
    cases hv
    obtain ⟨y, hy, ry⟩ := rs.get q
    refine ⟨⟨ys, y, ro, hy⟩, fun x H' ⟨p, y', h1, h2, h3, h4⟩ => ?_⟩
    subst h1 h3
    have := h4 ys ro
    rw [hy] at this
    cases this
    refine ⟨.new h2, rh.side h2, rv_tup.mpr ⟨p, _, rfl, upd_same, .cons (rv_int.mpr (by rw [Nat.zero_add])) (.cons (ry.le (.new h2)) .nil)⟩⟩
variable {X : Ctx} {Γ : Gam} {W : WX} {a : Expr} {ma : E} {pos : Pos}
theorem s_en2 (L : Le Γ Γ) {p tpos : Pos} {elts : List Expr} {kk : Nat} (hg : Gl X "enumerate") (hm : X.mg "enumerate" = none) (ha : PE X a (tE Γ T X.K W ma)) (hs : starEach [a] X.env = [(false, eval a X.env)]) :
    PI X (.Tuple elts kk tpos) (.Call (.Name "enumerate" p) [a] [] pos) (tI Γ T X.K W (.en ma)) :=
  (pi_en2 hg hm (pa_cons ha pa_nil hs) hs).imp fun σ H Q ⟨σv, h, rs, rh, w⟩ => by
    simp only [wpIt] at w
    refine tE.of L .refl rs rh w fun u h1 w1 x H1 l1 rh1 rx => ?_
    unfold srcE at w1
    split at w1
    · obtain ⟨p, ys, rfl, sp, q⟩ := rv_rls.mp rx
      exact ⟨_, ys, rfl, .inl ⟨sp.sq, w1.2 H1 l1 rh1 _ (jok_enumR sp q)⟩⟩
    · obtain ⟨p, ys, rfl, sp, q⟩ := rv_tupS rx
      exact ⟨_, ys, rfl, .inr ⟨sp, w1.2 H1 l1 rh1 _ (jok_enumT sp q)⟩⟩
    · split at w1
      · rename_i xs e1
        obtain rfl := rv_ref.mp rx
        obtain ⟨ys, e2, q⟩ := rh1.lst e1
        exact ⟨_, ys, rfl, .inl ⟨SqL.of e2, w1.2 H1 l1 rh1 _ jok_enum⟩⟩
      · exact w1.elim
    · exact w1.elim
end
end MP
end
section
set_option maxHeartbeats 1000000
/-! MpK: targets, comprehensions, statements. -/
namespace MP
open PySem PySem.Spec PyProof.Rows L2
section
variable (T : Tb) (K : Frag)
/-- a value goes to a target: what is wanted of the slots -/
def tG (g : G) : TG := fun v σ H Q => ∃ u σv, RV T K H u v ∧ RS T K H σv σ ∧ gset g u σv fun σv' => ∀ σ', RS T K H σv' σ' → Q σ' H
end
section
variable {X : Ctx} {Γ : Gam} {T : Tb} {W : WX} {a b c e tg : Expr} {ma mb mc : E} {pos : Pos}
theorem _root_.L2.PG.imp {X : Ctx} {e : Expr} {t t' : TG} (h : PG X e t) (i : ∀ v σ H Q, t' v σ H Q → t v σ H Q) : PG X e t' := ⟨fun pins s σ H v u Q I r z => h.run pins s σ H v u Q I r (i _ _ _ _ z)⟩
theorem s_gnm {i : Nat} {x : Str} (hN : X.N.Nodup) (hi : X.N[i]? = some x) (hx : Loc X.env.scope x) (hf : X.fn x = true ∨ X.env.scope.names.lookup x = some .local) : PG X (.Name x pos) (tG T X.K (.nm i)) :=
  (pg_name hN hi hx hf).imp fun v σ H Q ⟨u, σv, rv, rs, w⟩ => w _ (rs.set rv)
/-- names at their places -/
inductive Nms (X : Ctx) : List Expr → List Nat → Prop
  | nil : Nms X [] []
  | cons {x : Str} {p : Pos} {i : Nat} {es : List Expr} {is : List Nat} : X.N[i]? = some x → Loc X.env.scope x → (X.fn x = true ∨ X.env.scope.names.lookup x = some .local) → Nms X es is → Nms X (.Name x p :: es) (i :: is)
def gSets : List Nat → TGs
  | [] => gNil
  | i :: is => gCons (gName i) (gSets is)
theorem pgs_nms (hN : X.N.Nodup) : ∀ {es : List Expr} {is : List Nat}, Nms X es is → PGs X es (gSets is)
  | _, _, .nil => pgs_nil
  | _, _, .cons h1 h2 h3 t => pgs_cons (pg_name hN h1 h2 h3) (pgs_nms hN t)
theorem nms_len : ∀ {es : List Expr} {is : List Nat}, Nms X es is → (assignEach es X.env).length = is.length
  | _, _, .nil => rfl
  | _, _, .cons h1 h2 h3 t => by
    show (_ :: assignEach _ X.env).length = _
    rw [List.length_cons, List.length_cons, nms_len t]
theorem nms_star : ∀ {es : List Expr} {is : List Nat}, Nms X es is → (assignEach es X.env).findIdx? (·.1) = none
  | _, _, .nil => rfl
  | _, _, .cons (es := es) h1 h2 h3 t => by
    rw [List.findIdx?_eq_none_iff]
    have := List.findIdx?_eq_none_iff.mp (nms_star t)
    intro q hq
    rcases List.mem_cons.mp (show q ∈ (false, _) :: assignEach es X.env from hq) with rfl | hq
    · rfl
    · exact this q hq
theorem gsets_go {K : Frag} {H : Hp} {Q : L2.St → Hp → Prop} : ∀ {is : List Nat} {xs : List Val} {ys : List V} {σv : VS} {σ : L2.St}, xs.length = is.length → RVs T K H xs ys → RS T K H σv σ →
    (∀ σ', RS T K H ((is.zip xs).foldl (fun σ p => sset σ p.1 (some p.2)) σv) σ' → Q σ' H) → gSets is ys σ H Q
  | [], xs, ys, σv, σ, hl, r, rs, q => by
    have : xs = [] := List.eq_nil_of_length_eq_zero hl
    subst this
    exact ⟨r.of_nil, q σ rs⟩
  | i :: is, [], ys, σv, σ, hl, r, rs, q => by simp at hl
  | i :: is, x :: xs, ys, σv, σ, hl, r, rs, q => by
    obtain ⟨v, t, rfl, r1, r2⟩ := r.of_cons
    exact ⟨v, t, rfl, gsets_go (Nat.succ.inj hl) r2 (rs.set r1) q⟩
theorem s_gtp {es : List Expr} {is : List Nat} {k : Nat} (hc : X.calm = true) (hN : X.N.Nodup) (h : Nms X es is) : PG X (.Tuple es k pos) (tG T X.K (.tp is)) :=
  (pg_tup hc (pgs_nms hN h) (nms_len h) (nms_star h)).imp fun v σ H Q ⟨u, σv, rv, rs, w⟩ => by
    unfold gset at w
    cases u with
    | tup xs =>
      obtain ⟨p, ys, rfl, sp, q⟩ := rv_tupS rv
      exact ⟨p, ys, rfl, sp, by rw [← q.length]; exact w.1, gsets_go w.1 q rs w.2⟩
    | _ => exact w.elim
/-! ### comprehensions -/
def W0 : WX := fun _ _ _ _ => False
theorem dx0 {K : Frag} {H : Hp} {E : XK} {e : Exc} {h : VH} (z : (fun _ _ => False : KX) e h) : dx T K H E e h := z.elim
/-- the block's condition, perhaps none -/
inductive Ifs (X : Ctx) (Γ : Gam) (T : Tb) : List Expr → O → Prop
  | no : Ifs X Γ T [] .no
  | one {e : Expr} {m : E} : PT X e (tT Γ T X.K W0 m) → Ifs X Γ T [e] (.some m)
def tIf1 (Γ : Gam) (T : Tb) (K : Frag) : O → TT
  | .no => fun _ H Q => Q true H
  | .some m => tT Γ T K W0 m
theorem RS.unwipe {K : Frag} {H : Hp} {σv : VS} {σ : L2.St} (h : RS T K H σv σ) : ∀ vs : List Nat, RS T K H (swipe σv vs) σ
  | [] => h
  | i :: r => RS.weak (RS.unwipe h r)
theorem wipe_set_in : ∀ (vs : List Nat) (σ : L2.St) (i : Nat) (v : Option V), i ∈ vs → wipe (σ.set i v) vs = wipe σ vs
  | [], _, _, _, h => by cases h
  | j :: r, σ, i, v, h => by
    unfold wipe
    by_cases q : i ∈ r
    · rw [wipe_set_in r σ i v q]
    · have e : i = j := by
        rcases List.mem_cons.mp h with e | e
        · exact e
        · exact (q e).elim
      subst e
      have key : ∀ (vs : List Nat) (σ : L2.St), i ∉ vs → wipe (σ.set i v) vs = (wipe σ vs).set i v := by
        intro vs
        induction vs with
        | nil => intro σ _; rfl
        | cons k t ih =>
          intro σ hk
          unfold wipe
          rw [ih σ fun z => hk (List.mem_cons_of_mem _ z), List.set_comm _ _ (show i ≠ k from fun z => hk (z ▸ List.mem_cons_self))]
      rw [key r σ q, List.set_set]
theorem wipe_idem : ∀ (vs : List Nat) (σ : L2.St), wipe (wipe σ vs) vs = wipe σ vs := by
  have key : ∀ (us vs : List Nat) (σ : L2.St), (∀ i ∈ us, i ∈ vs) → wipe (wipe σ us) vs = wipe σ vs := by
    intro us
    induction us with
    | nil => intro vs σ _; rfl
    | cons i r ih =>
      intro vs σ h
      show wipe ((wipe σ r).set i none) vs = _
      rw [wipe_set_in vs _ i none (h i List.mem_cons_self)]
      exact ih vs σ fun j hj => h j (List.mem_cons_of_mem _ hj)
  exact fun vs σ => key vs vs σ fun _ h => h
/-- the layer's reading of a target -/
def gRaw (K : Frag) : G → TG
  | .nm i => gName i
  | .tp is => gTup K is.length (gSets is)
def slotsOf : G → List Nat
  | .nm i => [i]
  | .tp is => is
theorem gsets_go2 {K : Frag} {H : Hp} {Q : L2.St → Hp → Prop} {vs : List Nat} : ∀ {is : List Nat} {xs : List Val} {ys : List V} {σv : VS} {σ σ0 : L2.St}, (∀ i ∈ is, i ∈ vs) → wipe σ vs = wipe σ0 vs → xs.length = is.length → RVs T K H xs ys → RS T K H σv σ →
    (∀ σ', RS T K H ((is.zip xs).foldl (fun σ p => sset σ p.1 (some p.2)) σv) σ' → wipe σ' vs = wipe σ0 vs → Q σ' H) → gSets is ys σ H Q
  | [], xs, ys, σv, σ, σ0, _, hw, hl, r, rs, q => by
    have : xs = [] := List.eq_nil_of_length_eq_zero hl
    subst this
    exact ⟨r.of_nil, q σ rs hw⟩
  | i :: is, [], ys, σv, σ, σ0, _, hw, hl, r, rs, q => by simp at hl
  | i :: is, x :: xs, ys, σv, σ, σ0, hi, hw, hl, r, rs, q => by
    obtain ⟨v, t, rfl, r1, r2⟩ := r.of_cons
    exact ⟨v, t, rfl, gsets_go2 (fun j hj => hi j (List.mem_cons_of_mem _ hj)) (by rw [wipe_set_in vs σ i _ (hi i List.mem_cons_self)]; exact hw) (Nat.succ.inj hl) r2 (rs.set r1) q⟩
theorem graw_go {K : Frag} {H : Hp} {Q : L2.St → Hp → Prop} {vs : List Nat} {g : G} {u : Val} {v : V} {σv : VS} {σ : L2.St} {k : VS → Prop} (hi : ∀ i ∈ slotsOf g, i ∈ vs) (rv : RV T K H u v) (rs : RS T K H σv σ) (w : gset g u σv k)
    (q : ∀ σv' σ', RS T K H σv' σ' → wipe σ' vs = wipe σ vs → k σv' → Q σ' H) : gRaw K g v σ H Q := by
  cases g with
  | nm i => exact q _ _ (rs.set rv) (wipe_set_in vs σ i _ (hi i (List.mem_singleton.mpr rfl))) w
  | tp is =>
    unfold gset at w
    cases u with
    | tup xs =>
      obtain ⟨p, ys, rfl, sp, r⟩ := rv_tupS rv
      exact ⟨p, ys, rfl, sp, by rw [← r.length]; exact w.1, gsets_go2 hi rfl w.1 r rs fun σ' h1 h2 => q _ _ h1 h2 w.2⟩
    | _ => exact w.elim
/-- a comprehension's turn -/
def cbody (Γ : Gam) (el : E) (t : G) (c : O) (vs : List Nat) (σv : VS) : Val → VH → (Option Val → VH → Prop) → Prop := fun v h k => gset t v (swipe σv vs) fun σ' => wpC Γ c σ' h (fun b h2 => if b = true then wpE Γ el σ' h2 (fun y h3 => k (some y) h3) (fun _ _ => False) else k none h2) (fun _ _ => False)
theorem lc_read (L : Le Γ Γ) {K : Frag} {el : E} {t : G} {it : It} {c : O} {vs : List Nat} (hi : ∀ i ∈ slotsOf t, i ∈ vs) {σ : L2.St} {H : Hp} {Q : VK} (w : tE Γ T K W (.cmpr el t it c vs) σ H Q) :
    tLc (tI Γ T K W it) (gRaw K t) (tIf1 Γ T K c) (tE Γ T K W0 el) vs σ H Q := by
  obtain ⟨σv, h, rs, rh, w⟩ := w
  simp only [wpE] at w
  refine ⟨σv, h, rs, rh, wpIt_mono L it σv h _ _ _ _ (fun items g h1 w1 H1 l1 rh1 J jok D hD => ?_) (fun _ _ z => z) w⟩
  have w2 := w1 D (rh1.fresh hD)
  refine ⟨fun i m H' => ∃ h', HLe H1 H' ∧ RH T K h' H' ∧ m = items.length - i ∧ i ≤ items.length ∧ cgo (cbody Γ el t c vs σv) g D (fun h' => dn T K H Q (.ref D) h') (items.drop i) h', ⟨items.length, _, .new hD, rh1.new (x := .lst []) hD ⟨[], rfl, .nil⟩, rfl, Nat.zero_le _, w2⟩, ?_⟩
  rintro i m H' ⟨h', l2, rh2, rfl, hle, w3⟩
  by_cases hlt : i < items.length
  · rw [List.drop_eq_getElem_cons hlt] at w3
    obtain ⟨hg, w3⟩ := w3
    obtain ⟨_, jgo⟩ := jok i H' h' l2 rh2 hg
    obtain ⟨go, jy⟩ := jgo _ (List.getElem?_eq_getElem hlt)
    refine .inr ⟨go, fun H'' => ∃ h'', HLe H1 H'' ∧ RH T K h'' H'' ∧ cgo (cbody Γ el t c vs σv) g D (fun h' => dn T K H Q (.ref D) h') (items.drop (i + 1)) h'', fun H'' ⟨h'', a1, a2, a3⟩ => ⟨items.length - (i + 1), by omega, h'', a1, a2, rfl, hlt, a3⟩, fun x H3 hy => ?_⟩
    obtain ⟨l3, rh3, rx⟩ := jy x H3 hy
    have l13 := l2.trans l3
    have rsw : RS T K H3 (swipe σv vs) (wipe σ vs) := (rs.le (l1.trans l13)).wipe vs
    refine graw_go hi rx rsw w3 fun σv' σ2 rs2 hw w4 => ⟨by rw [hw, wipe_idem], ?_⟩
    have fin : ∀ (b : Bool) (H4 : Hp) (h4 : VH), HLe H3 H4 → RH T K h4 H4 → (if b = true then wpE Γ el σv' h4 (fun y h5 => ∃ acc, h5 D = some (.lst acc) ∧ acc.length < SZ ∧ cgo (cbody Γ el t c vs σv) g D (fun h' => dn T K H Q (.ref D) h') (items.drop (i + 1)) (up h5 D (.lst (acc ++ [y])))) (fun _ _ => False) else cgo (cbody Γ el t c vs σv) g D (fun h' => dn T K H Q (.ref D) h') (items.drop (i + 1)) h4) →
        if b = true then tE Γ T K W0 el σ2 H4 (fun y H5 => ∃ acc, H5 D = some (.lst acc) ∧ acc.length < sizeLine ∧ ∃ h'', HLe H1 (upd H5 D (.lst (acc ++ [y]))) ∧ RH T K h'' (upd H5 D (.lst (acc ++ [y]))) ∧ cgo (cbody Γ el t c vs σv) g D (fun h' => dn T K H Q (.ref D) h') (items.drop (i + 1)) h'')
        else ∃ h'', HLe H1 H4 ∧ RH T K h'' H4 ∧ cgo (cbody Γ el t c vs σv) g D (fun h' => dn T K H Q (.ref D) h') (items.drop (i + 1)) h'' := by
      intro b H4 h4 l4 rh4 w5
      cases b with
      | false => exact ⟨h4, l13.trans l4, rh4, w5⟩
      | true =>
        refine ⟨σv', h4, rs2.le l4, rh4, wpE_mono L el σv' h4 _ _ _ _ (fun y h5 z yv H5 l5 rh5 ry => ?_) (fun _ _ z => z.elim) w5⟩
        obtain ⟨acc, e1, e2, w6⟩ := z
        obtain ⟨ws, e3, rw'⟩ := rh5.lst e1
        have l6 := (l13.trans l4).trans l5
        exact ⟨ws, e3, by rw [szl, ← rw'.length]; exact e2, _, l6.trans (.put e3 True.intro), rh5.put (x := .lst (acc ++ [y])) e3 True.intro ⟨_, rfl, (rw'.append (.cons ry .nil)).le (.put e3 True.intro)⟩, w6⟩
    cases c with
    | no =>
      simp only [wpC] at w4
      exact fin true H3 h' .refl rh3 w4
    | some mc =>
      simp only [wpC] at w4
      exact ⟨σv', h', rs2, rh3, wpE_mono L mc σv' h' _ _ _ _ (fun u h4 z => onT_mono (fun b h4 z H4 l4 rh4 => fin b H4 h4 l4 rh4 z) z) (fun _ _ z => z.elim) w4⟩
  · have e : i = items.length := by omega
    subst e
    rw [List.drop_length] at w3
    exact .inl ⟨(jok _ H' h' l2 rh2 w3.1).1 (Nat.le_refl _), w3.2 _ _ (l1.trans l2) rh2 (rv_ref.mpr rfl)⟩
end
end MP
end
section
set_option maxHeartbeats 1000000
/-! MpL: statements. -/
namespace MP
open PySem PySem.Spec PyProof.Rows L2
/-- the ends, told of the own heap -/
def dD (T : Tb) (K : Frag) (W : WX) (H : Hp) (D : Ends) : Ds where
  nx := fun σv h' => ∀ σ' H', HLe H H' → RS T K H' σv σ' → RH T K h' H' → D.nx σ' H'
  rt := dn T K H D.rt
  ex := fun e σv h' => ∀ cls d σ' H', HLe H H' → RS T K H' σv σ' → RH T K h' H' → RX T K H' e cls d → W cls d σ' H'
theorem dD.sh {T : Tb} {K : Frag} {W : WX} {H H1 : Hp} {D : Ends} (L : HLe H H1) : (dD T K W H D).Le (dD T K W H1 D) :=
  ⟨fun σ h z σ' H' l => z σ' H' (L.trans l), fun v h z => dn.sh L z, fun e σ h z c d σ' H' l => z c d σ' H' (L.trans l)⟩
def tS (Γ : Gam) (T : Tb) (K : Frag) (W : WX) (m : S) : TS := fun D σ H => ∃ σv h, RS T K H σv σ ∧ RH T K h H ∧ wpS Γ m σv h (dD T K W H D)
def tSs (Γ : Gam) (T : Tb) (K : Frag) (W : WX) (m : Ss) : TS := fun D σ H => ∃ σv h, RS T K H σv σ ∧ RH T K h H ∧ wpSs Γ m σv h (dD T K W H D)
theorem _root_.L2.PS.imp {X : Ctx} {e : Stmt} {t t' : TS} (h : PS X e t) (i : ∀ D σ H, t' D σ H → t D σ H) : PS X e t' := ⟨fun pins s σ H D I z => h.run pins s σ H D I (i _ _ _ z)⟩
theorem _root_.L2.PSs.imp {X : Ctx} {e : List Stmt} {t t' : TS} (h : PSs X e t) (i : ∀ D σ H, t' D σ H → t D σ H) : PSs X e t' := ⟨fun pins s σ H D I z => h.run pins s σ H D I (i _ _ _ z)⟩
section
variable {X : Ctx} {Γ : Gam} {T : Tb} {W : WX} {a b c e tg : Expr} {ma mb mc : E} {st : Stmt} {sts : List Stmt} {m : S} {ms ms' : Ss} {pos : Pos}
/-- an expression within a statement: what it raises meets the statement's wish -/
theorem ex_of {K : Frag} {H : Hp} {D : Ends} {σv : VS} {σ : L2.St} (rs : RS T K H σv σ) {e : Exc} {h : VH} (z : (dD T K W H D).ex e σv h) : dx T K H (fun c d H' => W c d σ H') e h := fun cls d H' l rh rx => z cls d σ H' l (rs.le l) rh rx
theorem tE.inS (L : Le Γ Γ) {K : Frag} {m : E} {σ : L2.St} {H0 H : Hp} {D : Ends} {σv : VS} {h : VH} {Q : KV} {Q' : VK} (l : HLe H0 H) (rs0 : RS T K H0 σv σ) (rh : RH T K h H) (w : wpE Γ m σv h Q (fun x h1 => (dD T K W H0 D).ex x σv h1)) (k : ∀ v h', Q v h' → dn T K H Q' v h') : tE Γ T K W m σ H Q' :=
  tE.of L l (rs0.le l) rh (wpE_mono L m σv h _ _ _ _ (fun _ _ z => z) (fun _ _ z => ex_of rs0 z) w) k
theorem tT.inS (L : Le Γ Γ) {K : Frag} {m : E} {σ : L2.St} {H0 H : Hp} {D : Ends} {σv : VS} {h : VH} {k : Bool → VH → Prop} {Q' : Bool → Hp → Prop} (l : HLe H0 H) (rs0 : RS T K H0 σv σ) (rh : RH T K h H) (w : wpE Γ m σv h (onT k) (fun x h1 => (dD T K W H0 D).ex x σv h1)) (i : ∀ t h', k t h' → dnB T K H Q' t h') : tT Γ T K W m σ H Q' :=
  tT.of L l (rs0.le l) rh (wpE_mono L m σv h _ _ _ _ (fun _ _ z => z) (fun _ _ z => ex_of rs0 z) w) i
theorem s_snil : PSs X [] (tSs Γ T X.K W .nil) :=
  pss_nil.imp fun D σ H ⟨σv, h, rs, rh, w⟩ => by
    simp only [wpSs] at w
    exact w σ H .refl rs rh
theorem s_scons (L : Le Γ Γ) (h1 : PS X st (tS Γ T X.K W m)) (h2 : PSs X sts (tSs Γ T X.K W ms)) : PSs X (st :: sts) (tSs Γ T X.K W (.cons m ms)) :=
  (pss_cons h1 h2).imp fun D σ H ⟨σv, h, rs, rh, w⟩ => by
    simp only [wpSs] at w
    exact ⟨σv, h, rs, rh, wpS_mono L m σv h { dD T X.K W H D with nx := fun σ h => wpSs Γ ms σ h (dD T X.K W H D) } (dD T X.K W H { D with nx := tSs Γ T X.K W ms D }) ⟨fun σ1 h1 z σ' H' l rs' rh' => ⟨σ1, h1, rs', rh', wpSs_mono L ms σ1 h1 _ _ (dD.sh l) z⟩, fun _ _ z => z, fun _ _ _ z => z⟩ w⟩
/-- a list that a name stands for is known as a value from then on -/
theorem s_sfrz (L : Le Γ Γ) {i : Nat} (h2 : PSs X sts (tSs Γ T X.K W ms)) : PSs X sts (tSs Γ T X.K W (.cons (.frz i) ms)) := by
  refine ⟨fun pins s σ H D I ⟨σv, h, rs, rh, w⟩ => ?_⟩
  simp only [wpSs, wpS] at w
  cases q : sget σv i with
  | none => rw [q] at w; exact h2.run pins s σ H D I ⟨σv, h, rs, rh, w⟩
  | some v =>
    rw [q] at w
    dsimp only at w
    cases q2 : frzV v h with
    | none => rw [q2] at w; exact h2.run pins s σ H D I ⟨σv, h, rs, rh, w⟩
    | some p =>
      obtain ⟨a, xs⟩ := p
      rw [q2] at w
      obtain ⟨rfl, e2⟩ := frzV_ok q2
      obtain ⟨ys, e1, rs1⟩ := rh.lst e2
      obtain ⟨od, I2⟩ := I.lock e1 True.intro
      have l2 : HLe H (upd H a (.frz od (.lst ys))) := .put e1 True.intro
      refine h2.run pins s σ _ D I2 ⟨sset σv i (some (.rls xs)), del h a, ⟨by rw [sset_length]; exact rs.1, fun j y e => ?_⟩, rh.frz e1, wpSs_mono L _ _ _ _ _ (dD.sh l2) w⟩
      obtain ⟨v, v1, v2⟩ := rs.2 i _ q
      by_cases z : i = j
      · subst z
        by_cases l : i < σv.length
        · rw [sget_sset_same _ _ _ l] at e
          cases e
          exact ⟨v, v1, by rw [rv_ref.mp v2]; exact rv_rls.mpr ⟨a, ys, rfl, .inl ⟨od, upd_same⟩, rs1.le l2⟩⟩
        · rw [sset_none_of_le _ _ _ (Nat.le_of_not_lt l)] at e
          obtain ⟨w1, h1, h3⟩ := rs.2 i y e
          exact ⟨w1, h1, h3.le l2⟩
      · rw [sget_sset_ne _ _ _ _ z] at e
        obtain ⟨w1, h1, h3⟩ := rs.2 j y e
        exact ⟨w1, h1, h3.le l2⟩
/-- what is never run -/
theorem s_nev : PS X st (tS Γ T X.K W .nev) := ⟨fun pins s σ H D I ⟨σv, h, rs, rh, w⟩ => by simp only [wpS] at w⟩
/-- try: a body that raises nothing -/
theorem s_thru (L : Le Γ Γ) {body orelse : List Stmt} {h₀ : ExceptHandler} {hs : List ExceptHandler} (hb : PSs X.nox body (tSs Γ T X.K W0 ms)) (ho : PSs X orelse (tSs Γ T X.K W ms')) : PS X (.Try body (h₀ :: hs) orelse [] pos) (tS Γ T X.K W (.thru ms ms')) :=
  (ps_try_thru hb ho).imp fun D σ H ⟨σv, h, rs, rh, w⟩ => by
    simp only [wpS] at w
    refine ⟨σv, h, rs, rh, wpSs_mono L ms σv h { nx := fun σ h => wpSs Γ ms' σ h (dD T X.K W H D), rt := (dD T X.K W H D).rt, ex := fun _ _ _ => False } _ ⟨fun σv' h' z σ' H' l rs' rh' => ⟨σv', h', rs', rh', wpSs_mono L ms' σv' h' _ _ (dD.sh l) z⟩, fun _ _ z => z, fun _ _ _ z => z.elim⟩ w⟩
theorem s_exp (L : Le Γ Γ) (he : PE X e (tE Γ T X.K W ma)) (hs : swapsWith e none pos.line X.env = pure false) : PS X (.Expr e pos) (tS Γ T X.K W (.exp ma)) :=
  (ps_expr he hs).imp fun D σ H ⟨σv, h, rs, rh, w⟩ => by
    simp only [wpS] at w
    exact tE.inS L .refl rs rh w fun v h' z x H' l rh' rx => z σ H' l (rs.le l) rh'
theorem s_doc {x : Str} {j : Nat} {p' : Pos} : PS X (.Expr (.Constant (.str x) j p') pos) (tS Γ T X.K W .pas) :=
  ps_doc.imp fun D σ H ⟨σv, h, rs, rh, w⟩ => by
    simp only [wpS] at w
    exact w σ H .refl rs rh
theorem s_pas : PS X (.Pass pos) (tS Γ T X.K W .pas) :=
  ps_pass.imp fun D σ H ⟨σv, h, rs, rh, w⟩ => by
    simp only [wpS] at w
    exact w σ H .refl rs rh
theorem s_ret (L : Le Γ Γ) (he : PE X e (tE Γ T X.K W ma)) : PS X (.Return (some e) pos) (tS Γ T X.K W (.ret ma)) :=
  (ps_ret he).imp fun D σ H ⟨σv, h, rs, rh, w⟩ => by
    simp only [wpS] at w
    exact tE.inS L .refl rs rh w fun v h' z => z
theorem s_retN : PS X (.Return none pos) (tS Γ T X.K W (.ret .non)) :=
  ps_retN.imp fun D σ H ⟨σv, h, rs, rh, w⟩ => by
    simp only [wpS, wpE] at w
    exact dn.at w rh (rv_non.mpr rfl)
theorem s_if (L : Le Γ Γ) {p q : List Stmt} (hc : PT X c (tT Γ T X.K W mc)) (ha : PSs X p (tSs Γ T X.K W ms)) (hb : PSs X q (tSs Γ T X.K W ms')) : PS X (.If c p q pos) (tS Γ T X.K W (.ife mc ms ms')) :=
  (ps_if hc ha hb).imp fun D σ H ⟨σv, h, rs, rh, w⟩ => by
    simp only [wpS, wpT] at w
    refine tT.inS L .refl rs rh w fun t h1 z H1 l rh1 => ?_
    cases t with
    | true => exact ⟨σv, h1, rs.le l, rh1, wpSs_mono L ms σv h1 _ _ (dD.sh l) z⟩
    | false => exact ⟨σv, h1, rs.le l, rh1, wpSs_mono L ms' σv h1 _ _ (dD.sh l) z⟩
/-- a target behind a value -/
theorem tG.of {K : Frag} {g : G} {u : Val} {v : V} {σ : L2.St} {H0 H : Hp} {D : Ends} {σv : VS} {h : VH} (l : HLe H0 H) (rs : RS T K H σv σ) (rh : RH T K h H) (rv : RV T K H u v) (w : gset g u σv fun σ' => (dD T K W H0 D).nx σ' h) : tG T K g v σ H D.nx :=
  ⟨u, σv, rv, rs, gset_mono (fun σ' z σ2 rs2 => z σ2 H l rs2 rh) w⟩
theorem s_asg (L : Le Γ Γ) {g : G} (he : PE X e (tE Γ T X.K W ma)) (hg : PG X tg (tG T X.K g)) (hs : swapsWithSole [tg] e pos.line X.env = pure false) (hw : swappedStores [tg] e X.env = pure none) (h1 : (assignEach [tg] X.env).map (·.2) = [assign tg X.env]) :
    PS X (.Assign [tg] e pos) (tS Γ T X.K W (.asg g ma)) :=
  (ps_asg he hg hs hw h1).imp fun D σ H ⟨σv, h, rs, rh, w⟩ => by
    simp only [wpS] at w
    exact tE.inS L .refl rs rh w fun v h' z x H' l rh' rx => tG.of l (rs.le l) rh' rx z
/-- name = e -/
theorem s_set (L : Le Γ Γ) {i : Nat} {x : Str} {p : Pos} (hN : X.N.Nodup) (hi : X.N[i]? = some x) (hx : Loc X.env.scope x) (hf : X.fn x = true ∨ X.env.scope.names.lookup x = some .local) (he : PE X e (tE Γ T X.K W ma)) (hs : swapsWith e (some (.Name x p)) pos.line X.env = pure false) :
    PS X (.Assign [.Name x p] e pos) (tS Γ T X.K W (.asg (.nm i) ma)) :=
  (ps_set hN hi hx he hs hf).imp fun D σ H ⟨σv, h, rs, rh, w⟩ => by
    simp only [wpS] at w
    exact tE.inS L .refl rs rh w fun v h' z x H' l rh' rx => z _ H' l ((rs.le l).set rx) rh'
theorem s_aug (L : Le Γ Γ) {i : Nat} {x : Str} {p : Pos} {o : Bop} (hN : X.N.Nodup) (hi : X.N[i]? = some x) (hx : Loc X.env.scope x) (hf : X.fn x = true ∨ X.env.scope.names.lookup x = some .local) (he : PE X e (tE Γ T X.K W ma)) (ho : PIp X (opOf o) (r2 T X.K (augR o))) :
    PS X (.AugAssign (.Name x p) (opOf o) e pos) (tS Γ T X.K W (.aug i o ma)) :=
  (ps_aug hN hi hx he ho hf).imp fun D σ H ⟨σv, h, rs, rh, w⟩ => by
    simp only [wpS] at w
    cases q : sget σv i with
    | none => rw [q] at w; exact w.elim
    | some u =>
      rw [q] at w
      obtain ⟨v, e1, rv⟩ := rs.2 i u q
      exact ⟨v, e1, tE.inS L .refl rs rh w fun y h' z yv H' l rh' ry => ⟨u, y, h', rv.le l, ry, rh', Res.mono (fun r h2 z2 rv2 H2 l2 rh2 rr => z2 _ H2 (l.trans l2) ((rs.le (l.trans l2)).set rr) rh2) z⟩⟩
/-! ### loops -/
theorem s_while (L : Le Γ Γ) {body : List Stmt} (hp : PassesOwn (model X.prog X.w) X.A X.env X.xe) (hc : PT X c (tT Γ T X.K W mc)) (hb : PSs X body (tSs Γ T X.K W ms)) : PS X (.While c body [] pos) (tS Γ T X.K W (.whl mc ms)) :=
  (ps_while hp hc hb).imp fun D σ H ⟨σv, h, rs, rh, w⟩ => by
    simp only [wpS] at w
    obtain ⟨n, w⟩ := w
    refine ⟨fun m σ' H' => ∃ σv' h', HLe H H' ∧ RS T X.K H' σv' σ' ∧ RH T X.K h' H' ∧ wgo (fun σ h k => wpT Γ mc σ h k (fun x h1 => (dD T X.K W H D).ex x σ h1)) (fun σ h k => wpSs Γ ms σ h { dD T X.K W H D with nx := k }) (dD T X.K W H D).nx m σv' h', ⟨n, σv, h, .refl, rs, rh, w⟩, ?_⟩
    rintro m σ1 H1 ⟨σv1, h1, l1, rs1, rh1, w1⟩
    cases m with
    | zero => exact w1.elim
    | succ m =>
      refine tT.of L .refl rs1 rh1 (wpE_mono L mc σv1 h1 _ _ _ _ (fun _ _ z => z) (fun e h2 (z : (dD T X.K W H D).ex e σv1 h2) => fun cls d H' l rh' rx => z cls d σ1 H' (l1.trans l) (rs1.le l) rh' rx) w1) fun t h2 z H2 l2 rh2 => ?_
      cases t with
      | false => exact z σ1 H2 (l1.trans l2) (rs1.le l2) rh2
      | true =>
        refine ⟨fun σ' H' => ∃ σv' h', HLe H H' ∧ RS T X.K H' σv' σ' ∧ RH T X.K h' H' ∧ wgo (fun σ h k => wpT Γ mc σ h k (fun x h1 => (dD T X.K W H D).ex x σ h1)) (fun σ h k => wpSs Γ ms σ h { dD T X.K W H D with nx := k }) (dD T X.K W H D).nx m σv' h', fun σ' H' z => ⟨m, Nat.lt_succ_self m, z⟩, ?_⟩
        refine ⟨σv1, h2, rs1.le l2, rh2, wpSs_mono L ms σv1 h2 { dD T X.K W H D with nx := fun σ' h' => wgo (fun σ h k => wpT Γ mc σ h k (fun x h1 => (dD T X.K W H D).ex x σ h1)) (fun σ h k => wpSs Γ ms σ h { dD T X.K W H D with nx := k }) (dD T X.K W H D).nx m σ' h' } _ ⟨fun σ3 h3 z σ' H' l3 rs3 rh3 => ⟨σ3, h3, (l1.trans l2).trans l3, rs3, rh3, z⟩, fun v h3 z => dn.sh (l1.trans l2) z, fun e σ3 h3 (z : (dD T X.K W H D).ex e σ3 h3) cls d σ' H' l3 => z cls d σ' H' ((l1.trans l2).trans l3)⟩ z⟩
theorem s_for (L : Le Γ Γ) {iter : Expr} {body : List Stmt} {g : G} {it : It} (hp : PassesOwn (model X.prog X.w) X.A X.env X.xe) (hc : X.calm = true) (hi : PI X tg iter (tI Γ T X.K W it)) (hg : PG X tg (tG T X.K g)) (hb : PSs X body (tSs Γ T X.K W ms)) (hs : ∀ x, foldedSetIterable iter X.env x = pure x) :
    PS X (.For tg iter body [] pos) (tS Γ T X.K W (.loop g it ms)) :=
  (ps_for hp hc hi hg hb hs).imp fun D σ H ⟨σv, h, rs, rh, w⟩ => by
    simp only [wpS] at w
    refine ⟨σv, h, rs, rh, wpIt_mono L it σv h _ _ _ _ (fun items ok h1 (w1 : fgo (fun v σ h k => gset g v σ fun σ' => wpSs Γ ms σ' h { dD T X.K W H D with nx := k }) ok (dD T X.K W H D).nx items σv h1) H1 l1 rh1 J jok => ?_) (fun _ _ z => ex_of rs z) w⟩
    refine ⟨fun i m σ' H' => ∃ σv' h', HLe H1 H' ∧ RS T X.K H' σv' σ' ∧ RH T X.K h' H' ∧ m = items.length - i ∧ i ≤ items.length ∧ fgo (fun v σ h k => gset g v σ fun σ' => wpSs Γ ms σ' h { dD T X.K W H D with nx := k }) ok (dD T X.K W H D).nx (items.drop i) σv' h',
      ⟨items.length, σv, h1, .refl, rs.le l1, rh1, rfl, Nat.zero_le _, w1⟩, ?_⟩
    rintro i m σ' H' ⟨σv', h', l2, rs2, rh2, rfl, hle, w3⟩
    by_cases hlt : i < items.length
    · rw [List.drop_eq_getElem_cons hlt] at w3
      obtain ⟨hg', w3⟩ := w3
      obtain ⟨go, jy⟩ := (jok i H' h' l2 rh2 hg').2 _ (List.getElem?_eq_getElem hlt)
      refine .inr ⟨go, fun σ'' H'' => ∃ σv'' h'', HLe H1 H'' ∧ RS T X.K H'' σv'' σ'' ∧ RH T X.K h'' H'' ∧ fgo (fun v σ h k => gset g v σ fun σ' => wpSs Γ ms σ' h { dD T X.K W H D with nx := k }) ok (dD T X.K W H D).nx (items.drop (i + 1)) σv'' h'',
        fun σ'' H'' ⟨σv'', h'', a1, a2, a3, a4⟩ => ⟨items.length - (i + 1), by omega, σv'', h'', a1, a2, a3, rfl, hlt, a4⟩, fun x H3 hy => ?_⟩
      obtain ⟨l3, rh3, rx⟩ := jy x H3 hy
      have l13 := l2.trans l3
      refine ⟨_, σv', rx, rs2.le l3, gset_mono (fun σ4 w4 σ5 rs5 => ?_) w3⟩
      refine ⟨σ4, h', rs5, rh3, wpSs_mono L ms σ4 h' { dD T X.K W H D with nx := fun σ h => fgo (fun v σ h k => gset g v σ fun σ' => wpSs Γ ms σ' h { dD T X.K W H D with nx := k }) ok (dD T X.K W H D).nx (items.drop (i + 1)) σ h } _ ⟨fun σ6 h6 z σ7 H7 l7 rs7 rh7 => ⟨σ6, h6, l13.trans l7, rs7, rh7, z⟩, fun v h6 z => dn.sh (l1.trans l13) z, fun e σ6 h6 (z : (dD T X.K W H D).ex e σ6 h6) cls d σ7 H7 l7 => z cls d σ7 H7 ((l1.trans l13).trans l7)⟩ w4⟩
    · have e : i = items.length := by omega
      subst e
      rw [List.drop_length] at w3
      exact .inl ⟨(jok _ H' h' l2 rh2 w3.1).1 (Nat.le_refl _), w3.2 _ _ (l1.trans l2) rs2 rh2⟩
end
end MP
end
section
set_option maxHeartbeats 1000000
/-! MpM: constants, names, comprehensions, isinstance, methods of built-in types. -/
namespace MP
open PySem PySem.Spec PyProof.Rows L2
section
variable {X : Ctx} {Γ : Gam} {T : Tb} {W : WX} {a b c e tg : Expr} {es : List Expr} {ma mb mc : E} {ms : Es} {pos : Pos} {j : Nat}
/-! ### constants, names -/
theorem s_non : PE X (.Constant .none j pos) (tE Γ T X.K W .non) := pe_non.imp fun σ H Q ⟨σv, h, rs, rh, w⟩ => by
  simp only [wpE] at w
  exact dn.at w rh (rv_non.mpr rfl)
theorem s_bl {b : Bool} : PE X (.Constant (.bool b) j pos) (tE Γ T X.K W (.bl b)) := pe_bl.imp fun σ H Q ⟨σv, h, rs, rh, w⟩ => by
  simp only [wpE] at w
  exact dn.at w rh (rv_bl.mpr rfl)
theorem s_int {i : Int} : PE X (.Constant (.int i) j pos) (tE Γ T X.K W (.int i)) := pe_int.imp fun σ H Q ⟨σv, h, rs, rh, w⟩ => by
  simp only [wpE] at w
  exact dn.at w rh (rv_int.mpr rfl)
theorem s_str {x : List Nat} {z : Str} (hz : z.cps.toList = x) (hl : x.length ≤ SZ) : PE X (.Constant (.str z) j pos) (tE Γ T X.K W (.str x)) := pe_str.imp fun σ H Q ⟨σv, h, rs, rh, w⟩ => by
  simp only [wpE] at w
  subst hz
  exact dn.at w rh (rv_str.mpr ⟨rfl, hl⟩)
theorem s_var {i : Nat} {x : Str} (hN : X.N[i]? = some x) (hv : Vis X.env.scope x) (hd : (x == ("__debug__" : Str)) = false) (hcd : (x == ("__classdict__" : Str)) = false) : PE X (.Name x pos) (tE Γ T X.K W (.var i)) :=
  (pe_var hN hv hd hcd).imp fun σ H Q ⟨σv, h, rs, rh, w⟩ => by
    simp only [wpE] at w
    cases q : sget σv i with
    | none => rw [q] at w; exact w.elim
    | some u =>
      rw [q] at w
      obtain ⟨v, e1, rv⟩ := rs.2 i u q
      exact ⟨v, e1, dn.at w rh rv⟩
theorem s_glb {x : Str} {y : String} {u : Value} {v : V} {val : Val} (hg : Gl X x) (hm : X.mg x = some u) (r : RelV v u) (hc : Γ.con y = some val) (hv : ∀ H, RV T X.K H val v) (hd : (x == ("__debug__" : Str)) = false) : PE X (.Name x pos) (tE Γ T X.K W (.glb y)) :=
  (pe_glob hg hm r hd).imp fun σ H Q ⟨σv, h, rs, rh, w⟩ => by
    simp only [wpE, hc] at w
    exact dn.at w rh (hv H)
/-! ### comprehensions -/
theorem s_cmpr (L : Le Γ Γ) {elt tg iter : Expr} {ifs : List Expr} {scope : Scope} {own : List (Str × Nat)} {g : G} {it : It} {c : O} {el : E} (hc : X.calm = true) (hN : X.N.Nodup) (hi : PI X tg iter (tI Γ T X.K W it)) (ok : BlkOk X.N X.env.scope scope own) (hsl : ∀ i ∈ slotsOf g, i ∈ own.map (·.2))
    (hg : ∀ (s : Shared) (H : Hp) (C : Addr) (cl : List (Str × Addr)) (fp : List Addr), PG (X.blk s H scope (compEnvC scope cl C X.env) fp) tg (gRaw X.K g)) (ht : ∀ (s : Shared) (H : Hp) (C : Addr) (cl : List (Str × Addr)) (fp : List Addr), PTs (X.blk s H scope (compEnvC scope cl C X.env) fp) ifs (tIf1 Γ T X.K c))
    (he : ∀ (s : Shared) (H : Hp) (C : Addr) (cl : List (Str × Addr)) (fp : List Addr), PE (X.blk s H scope (compEnvC scope cl C X.env) fp) elt (tE Γ T X.K W0 el)) (hs : ∀ x, foldedSetIterable iter X.env x = pure x) :
    PE X (.ListComp elt [⟨tg, iter, ifs, 0⟩] scope pos) (tE Γ T X.K W (.cmpr el g it c (own.map (·.2)))) :=
  (pe_lc hc hN hi ok hg ht he hs).imp fun σ H Q w => lc_read L hsl w
theorem s_setLc (L : Le Γ Γ) {elt tg iter : Expr} {ifs : List Expr} {scope : Scope} {own : List (Str × Nat)} {g : G} {it : It} {c : O} {el : E} {i : Nat} {y : Str} {py spos : Pos} (hc : X.calm = true) (hN : X.N.Nodup) (hy : X.N[i]? = some y) (hyl : X.env.scope.names.lookup y = some .local)
    (hsw : swapsWith (.ListComp elt [⟨tg, iter, ifs, 0⟩] scope pos) (some (.Name y py)) spos.line X.env = pure true) (hi : PI X tg iter (tI Γ T X.K W it)) (ok : BlkOk X.N X.env.scope scope own) (hsl : ∀ i ∈ slotsOf g, i ∈ own.map (·.2))
    (hg : ∀ (s : Shared) (H : Hp) (C : Addr) (cl : List (Str × Addr)) (fp : List Addr), PG (X.blk s H scope (compEnvC scope cl C X.env) fp) tg (gRaw X.K g)) (ht : ∀ (s : Shared) (H : Hp) (C : Addr) (cl : List (Str × Addr)) (fp : List Addr), PTs (X.blk s H scope (compEnvC scope cl C X.env) fp) ifs (tIf1 Γ T X.K c))
    (he : ∀ (s : Shared) (H : Hp) (C : Addr) (cl : List (Str × Addr)) (fp : List Addr), PE (X.blk s H scope (compEnvC scope cl C X.env) fp) elt (tE Γ T X.K W0 el)) (hs : ∀ x, foldedSetIterable iter X.env x = pure x) :
    PS X (.Assign [.Name y py] (.ListComp elt [⟨tg, iter, ifs, 0⟩] scope pos) spos) (tS Γ T X.K W (.asg (.nm i) (.cmpr el g it c (own.map (·.2))))) :=
  (ps_setLc hc hN hy hyl hsw hi ok hg ht he hs).imp fun D σ H ⟨σv, h, rs, rh, w⟩ => by
    rw [wpS] at w
    refine lc_read L hsl (tE.inS L .refl rs rh w fun v h' z x H' l rh' rx => ?_)
    exact z _ H' l ((rs.le l).set rx) rh'
theorem s_gRaw1 {i : Nat} {x : Str} {p : Pos} (hN : X.N.Nodup) (hi : X.N[i]? = some x) (hx : Loc X.env.scope x) (hf : X.fn x = true ∨ X.env.scope.names.lookup x = some .local) : PG X (.Name x p) (gRaw X.K (.nm i)) := pg_name hN hi hx hf
theorem s_gRaw2 {es : List Expr} {is : List Nat} {k : Nat} (hc : X.calm = true) (hN : X.N.Nodup) (h : Nms X es is) : PG X (.Tuple es k pos) (gRaw X.K (.tp is)) := pg_tup hc (pgs_nms hN h) (nms_len h) (nms_star h)
/-! ### isinstance of built-in types -/
def tyV1 (x : Val) (h : VH) : Option String := match x with
  | .non => some "NoneType"
  | .bl _ => some "bool"
  | .int _ => some "int"
  | .str _ => some "str"
  | .tup _ => some "tuple"
  | .rls _ => some "list"
  | .ref a => (match h a with
    | some (.lst _) => some "list"
    | _ => none)
  | .fn _ => none
  | .ktp _ => none
end
end MP
end
section
set_option maxHeartbeats 1000000
/-! MpN: isinstance, methods of lists, fields, methods, calls that may raise. -/
namespace MP
open PySem PySem.Spec PyProof.Rows L2
/-! ### isinstance -/
def bltCls (n : String) : Bool := n == "bool" || n == "int" || n == "str" || n == "tuple" || n == "list" || n == "dict"
/-- a type, a class as a value -/
def cv (T : Tb) (n : String) : Value := if bltTy n = true then .type n else .ref (T.cls n)
def cV (T : Tb) (n : String) : V := if bltTy n = true then .ty n else .ref (T.cls n)
theorem cv_clsV (T : Tb) (n : String) : ClsV (cV T n) (cv T n) := by
  unfold cV cv
  split
  · exact .ty n
  · exact .own _
/-- what isinstance wants of an own class -/
def ITy (K : Frag) (C : Addr) : Prop := PySem.W.findIn K (.ref C) "__class__" = some (some (.builtin "object.__class__")) ∧ PySem.W.specialIn K (.builtin "object.__class__") "__get__" = some (some (.builtin "getset_descriptor.__get__")) ∧
  PySem.W.takesIn K (.builtin "object.__class__") = some true ∧ PySem.W.mroIn K C (.type "object") = some true
theorem tyx_of {T : Tb} {K : Frag} {H : Hp} {h : VH} {u : Val} {x : V} {n : String} (rx : RV T K H u x) (rh : RH T K h H) (e : tyN u h = some n) (own : bltTy n = false → ITy K (T.cls n)) : TyX K H x (cv T n) := by
  have b : ∀ m : String, bltTy m = true → cv T m = .type m := fun m z => if_pos z
  cases u with
  | non => cases e; rw [rv_non.mp rx, b _ rfl]; exact .base .non
  | bl y => cases e; rw [rv_bl.mp rx, b _ rfl]; exact .base (.bl _)
  | int y => cases e; rw [rv_int.mp rx, b _ rfl]; exact .base (.int _)
  | str y => cases e; rw [(rv_str.mp rx).1, b _ rfl]; exact .base (.str _)
  | tup xs =>
    cases e
    obtain ⟨a, ys, rfl, q, _⟩ := rv_tupS rx
    rw [b _ rfl]
    rcases q with (q | ⟨o, q⟩) | ⟨o, its, n, q1, q2, _⟩
    · exact .base (.tup q)
    · exact .fTuple q
    · exact .kTuple q1 q2
  | rls xs =>
    cases e
    obtain ⟨a, ys, rfl, q, _⟩ := rv_rls.mp rx
    rw [b _ rfl]
    rcases q with ⟨o, q⟩ | ⟨o, its, n, q1, q2, _⟩
    · exact .base (.frz q)
    · exact .kList q1 q2
  | fn l => cases e
  | ktp xs => cases e
  | ref a =>
    rw [rv_ref.mp rx]
    unfold tyN at e
    dsimp only at e
    cases q : h a with
    | none => rw [q] at e; cases e
    | some o =>
      cases o with
      | lst xs =>
        rw [q] at e
        cases e
        obtain ⟨ys, q1, _⟩ := rh.lst q
        rw [b _ rfl]
        exact .base (.lst q1)
      | dic kt kvs =>
        rw [q] at e
        cases e
        obtain ⟨u, q1, z⟩ := rh _ _ q
        rw [b _ rfl]
        cases kt with
        | false => obtain ⟨ks, rfl, _⟩ := z; exact .base (.dK q1)
        | true => obtain ⟨ks, rfl, _⟩ := z; exact .base (.dT q1)
      | xd fs => rw [q] at e; cases e
      | lck t kvs => rw [q] at e; cases e
      | ins c fs =>
        rw [q] at e
        cases e
        obtain ⟨dx, gs, q1, _, ⟨q2, hb⟩, _⟩ := rh.ins q
        obtain ⟨i1, i2, i3, i4⟩ := own hb
        unfold cv
        rw [if_neg (by rw [hb]; decide)]
        exact .base (.ins q1 q2 i1 i2 i3 i4)
/-- what the table of isinstance must say -/
structure IsiOk (Γ : Gam) (T : Tb) (K : Frag) : Prop where
  one : ∀ t c b, Γ.isi t [c] = some b → PySem.W.kitOne K (cv T t) (cv T c) = some b
  many : ∀ t cs b, Γ.isi t cs = some b → PySem.W.kitAny K (cv T t) (cs.map (cv T)) = some b
  own : ∀ t cs b, Γ.isi t cs = some b → bltTy t = false → ITy K (T.cls t)
section
variable {X : Ctx} {Γ : Gam} {T : Tb} {W : WX} {a b c e o : Expr} {es : List Expr} {ma mb mc mo : E} {ms : Es} {pos : Pos} {j : Nat}
theorem s_isi1 (L : Le Γ Γ) (ok : IsiOk Γ T X.K) {p : Pos} {n : String} (hg : Gl X "isinstance") (hm : X.mg "isinstance" = none) (ha : PE X a (tE Γ T X.K W ma)) (hc : PE X c (tC (cV T n)))
    (hs : starEach [a, c] X.env = (false, eval a X.env) :: starEach [c] X.env) (hs2 : starEach [c] X.env = (false, eval c X.env) :: starEach [] X.env) (hpl : (backTo pos (starEach [c] X.env)).any (·.1) = false) :
    PE X (.Call (.Name "isinstance" p) [a, c] [] pos) (tE Γ T X.K W (.isi ma [n])) :=
  (pe_callB call_isi hg hm (by decide +kernel) (pa_cons ha (pa_cons hc pa_nil hs2) hs) (by decide +kernel) (by decide +kernel) hs hpl).imp fun σ H Q ⟨σv, h, rs, rh, w⟩ => by
    simp only [wpE] at w
    refine tE.of L .refl rs rh w fun u h1 w1 x H1 l1 rh1 rx => ?_
    unfold isiR at w1
    split at w1
    · rename_i t e1
      split at w1
      · rename_i bb e2
        exact ⟨x, _, cv T t, cv T n, bb, rfl, cv_clsV T n, tyx_of rx rh1 e1 (ok.own _ _ _ e2), ok.one _ _ _ e2, dn.at (dn.sh l1 w1) rh1 (rv_bl.mpr rfl)⟩
      · exact w1.elim
    · exact w1.elim
/-! ### methods of lists -/
theorem tyV_lst {T : Tb} {K : Frag} {H : Hp} {h : VH} {a : Nat} {xs : List Val} (rh : RH T K h H) (e : h a = some (.lst xs)) : tyV K "list" (.ref a) H := by
  obtain ⟨ys, e1, _⟩ := rh.lst e
  exact .inl ⟨rfl, ys, SqL.of e1⟩
theorem tyV_of {T : Tb} {K : Frag} {H : Hp} {h : VH} {ty : String} {u : Val} {x : V} (k : kindV ty u h) (rx : RV T K H u x) (rh : RH T K h H) : tyV K ty x H := by
  cases u with
  | str y => obtain ⟨rfl, _⟩ := rv_str.mp rx; exact k
  | int y => rw [rv_int.mp rx]; exact k
  | ref a =>
    rw [rv_ref.mp rx]
    unfold kindV at k
    dsimp only at k
    split at k
    · rename_i xs e
      subst k
      exact tyV_lst rh e
    · rename_i kt kvs e
      subst k
      obtain ⟨u, q1, z⟩ := rh _ _ e
      cases kt with
      | false => obtain ⟨ks, rfl, _⟩ := z; exact .inr (.inr (.inl ⟨rfl, .inl ⟨ks, q1⟩⟩))
      | true => obtain ⟨ks, rfl, _⟩ := z; exact .inr (.inr (.inl ⟨rfl, .inr ⟨ks, q1⟩⟩))
    · exact k.elim
  | _ => exact k.elim
/-- o.m(e, ..): the type is known ahead of the arguments -/
theorem s_bmt (L : Le Γ Γ) {m : Bmt} {name : Str} {ty id : String} {apos : Pos} (pa : PlainAttrs ty) (slot : Slot ty name id) (hty : typeOf (.builtin id) = pure (.type "method_descriptor")) {r : V → List V → Hp → VK → Prop} (hm : MtR X id r)
    (hr : ∀ (u : Val) (vs : List Val) (x : V) (xs : List V) (h : VH) (H : Hp) (Q : VK), RV T X.K H u x → RVs T X.K H vs xs → RH T X.K h H → (bmtR m u vs h).wp h (dn T X.K H Q) → r x xs H Q)
    (ho : PE X o (tE Γ T X.K W mo)) (ha : PA X (e :: es) (tA Γ T X.K W ms))
    (hbase : attributeBase o name X.env (eval o X.env) = eval o X.env)
    (hfew : ((backTo pos (starEach (e :: es) X.env)).all (fun x => !x.1) && (backToKw pos (keywordEach [] X.env)).all (fun x => x.1.isSome)
      && decide ((e :: es).length + ([] : List Keyword).length + (if ([] : List Keyword).isEmpty then 0 else 1) < 30)) = true)
    (hline : (apos.endLine == pos.line) = true) (hs : starEach (e :: es) X.env = (false, eval e X.env) :: starEach es X.env) (hplain : (backTo pos (starEach es X.env)).any (·.1) = false) :
    PE X (.Call (.Attribute o name apos) (e :: es) [] pos) (tE Γ T X.K W (.bmt m ty mo ms)) :=
  (pe_bm pa slot hty hm ho ha hbase hfew hline hs hplain).imp fun σ H Q ⟨σv, h, rs, rh, w⟩ => by
    simp only [wpE] at w
    refine tE.of L .refl rs rh w fun u h1 w1 x H1 l1 rh1 rx => ⟨tyV_of w1.1 rx rh1, ?_⟩
    exact tA.of L l1 (rs.le l1) rh1 w1.2 fun vs h2 w2 xs H2 l2 rh2 rxs => hr u vs x xs h2 H2 Q (rx.le l2) rxs rh2 (Res.mono (fun _ _ z => dn.sh (l1.trans l2) z) w2)
theorem s_bmt0 (L : Le Γ Γ) {m : Bmt} {name : Str} {ty id : String} {apos : Pos} (pa : PlainAttrs ty) (slot : Slot ty name id) (hty : typeOf (.builtin id) = pure (.type "method_descriptor")) {r : V → List V → Hp → VK → Prop} (hm : MtR X id r)
    (hr : ∀ (u : Val) (vs : List Val) (x : V) (xs : List V) (h : VH) (H : Hp) (Q : VK), RV T X.K H u x → RVs T X.K H vs xs → RH T X.K h H → (bmtR m u vs h).wp h (dn T X.K H Q) → r x xs H Q)
    (ho : PE X o (tE Γ T X.K W mo)) (hbase : attributeBase o name X.env (eval o X.env) = eval o X.env) (hline : (apos.endLine == pos.line) = true) :
    PE X (.Call (.Attribute o name apos) [] [] pos) (tE Γ T X.K W (.bmt m ty mo .nil)) :=
  (pe_bm0 pa slot hty hm ho hbase hline).imp fun σ H Q ⟨σv, h, rs, rh, w⟩ => by
    simp only [wpE, wpEs] at w
    exact tE.of L .refl rs rh w fun u h1 w1 x H1 l1 rh1 rx => ⟨tyV_of w1.1 rx rh1, hr u [] x [] h1 H1 Q rx .nil rh1 (Res.mono (fun _ _ z => dn.sh l1 z) w1.2)⟩
theorem lstA_ok {T : Tb} {K : Frag} {x : Val} {y : V} {h : VH} {H : Hp} {k : Nat → List Val → Res} {Q : KV} (rx : RV T K H x y) (rh : RH T K h H) (w : (lstA x h k).wp h Q) : ∃ a xs ys, y = .ref a ∧ h a = some (.lst xs) ∧ H a = some (.lst ys) ∧ RVs T K H xs ys ∧ (k a xs).wp h Q := by
  unfold lstA at w
  split at w
  · rename_i a
    split at w
    · rename_i xs e
      obtain ⟨ys, e1, q⟩ := rh.lst e
      exact ⟨a, xs, ys, rv_ref.mp rx, e, e1, q, w⟩
    · exact w.elim
  · exact w.elim
theorem m_append (u : Val) (vs : List Val) (x : V) (xs : List V) (h : VH) (H : Hp) (Q : VK) (rx : RV T X.K H u x) (rxs : RVs T X.K H vs xs) (rh : RH T X.K h H) (w : (bmtR .append u vs h).wp h (dn T X.K H Q)) : rAppend x xs H Q := by
  unfold bmtR at w
  dsimp only at w
  split at w
  · rename_i v
    obtain ⟨y, s, rfl, r1, r2⟩ := rxs.of_cons
    obtain rfl := r2.of_nil
    obtain ⟨a, zs, ys, rfl, e, e1, q, w⟩ := lstA_ok rx rh w
    exact ⟨a, ys, y, rfl, rfl, e1, by rw [szl, ← q.length]; exact w.1, dn.putL (xs := zs) w.2 rh e1 (q.append (.cons r1 .nil)) (rv_non.mpr rfl)⟩
  · exact w.elim
theorem RVs.dropLast {T : Tb} {K : Frag} {H : Hp} {xs : List Val} {ys : List V} (r : RVs T K H xs ys) : RVs T K H xs.dropLast ys.dropLast := by
  rw [List.dropLast_eq_take, List.dropLast_eq_take, r.length]
  exact r.take _
theorem m_pop (u : Val) (vs : List Val) (x : V) (xs : List V) (h : VH) (H : Hp) (Q : VK) (rx : RV T X.K H u x) (rxs : RVs T X.K H vs xs) (rh : RH T X.K h H) (w : (bmtR .pop u vs h).wp h (dn T X.K H Q)) : rPop x xs H Q := by
  unfold bmtR at w
  dsimp only at w
  split at w
  · obtain rfl := rxs.of_nil
    obtain ⟨a, zs, ys, rfl, e, e1, q, w⟩ := lstA_ok rx rh w
    cases e2 : zs.getLast? with
    | none => rw [e2] at w; exact w.elim
    | some v =>
      rw [e2] at w
      rw [List.getLast?_eq_getElem?] at e2
      obtain ⟨y, e3, ry⟩ := q.get e2
      rw [q.length] at e3
      exact ⟨a, ys, y, rfl, rfl, e1, e3, dn.putL (xs := zs) w.2 rh e1 q.dropLast ry⟩
  · exact w.elim
theorem list_extendW (l : Addr) (items : Array Value) (n : Nat) (b : Addr) (items2 : Array Value) (n2 : Nat) (sl2 : Array (Option Value)) (hc0 : ¬(!items.isEmpty && Builtin.List.listTooLong (items.size + items2.size)) = true) (hc1 : items.size ≤ sizeLine) (hs2 : items.size + items2.size ≤ sizeLine + 1) :
    Meets (Builtin.«list.extend» ⟨[.ref l, .ref b], []⟩) (fun _ R s => s.heap.get? l = some { cls := .type "list", dict := none, data := .seq items n, slots := #[] } ∧ s.heap.get? b = some { cls := .type "list", dict := none, data := .seq items2 n2, slots := sl2 } ∧ R (.ok (.ret Value.none)) { s with heap := s.heap.update l (Obj.mapSeq fun x => x ++ items2), toks := s.toks }) :=
  .of_wp fun prog w A R s h => by
    obtain ⟨hp, g, d, tk, os⟩ := s; obtain ⟨hl, hb, h⟩ := h; have f1 := AutoSeq1.idx_int; have f2 := AutoSeq1.sub_tuple_tuple; have f3 := AutoSeq1.sub_list_list; have f4 := AutoSeq1.sub_tuple_list; have f5 := AutoSeq1.sub_list_tuple;
    have hz' : (items ++ items2).size ≤ sizeLine + 1 := by rw [Array.size_append]; exact hs2
    wp_walk using (wpAny_updateSeq hl rfl (hz := hc1) (_hz' := hz')), wpAny_loadPart' hl, wpAny_loadPart' hb; exact ⟨_, rfl, h⟩
def rExtendL (K : Frag) : V → List V → Hp → VK → Prop := fun x vs H Q => ∃ l b xs zs, x = .ref l ∧ vs = [.ref b] ∧ H l = some (.lst xs) ∧ SqL K H b zs ∧ xs.length + zs.length ≤ sizeLine ∧ Q .non (upd H l (.lst (xs ++ zs)))
theorem mt_extendL {X : Ctx} : MtM X "list.extend" (rExtendL X.K) := by
  intro pins s σ H x vs v us Q I rx rv h
  obtain ⟨l, b, xs, zs, rfl, rfl, hH, hB, hz, q⟩ := h
  cases rx
  obtain ⟨u, rfl, ru⟩ := rv.one
  cases ru
  obtain ⟨z, its, n, r, hl, e⟩ := I.lstM hH
  obtain ⟨its2, r2, ⟨⟨cls2, dd2, data2, sl2⟩, n2, e2, hc2, hd2, hs2⟩, z2⟩ := I.list hB
  simp only at hc2 hd2 hs2
  subst hc2 hd2 hs2
  have hl2 := r2.length
  have hsz : its.toArray.size + its2.toArray.size ≤ sizeLine := by rw [List.size_toArray, List.size_toArray]; omega
  have hlong : ¬ (!its.toArray.isEmpty && Builtin.List.listTooLong (its.toArray.size + its2.toArray.size)) = true := by
    rw [notLongL hsz, Bool.and_false]
    exact Bool.false_ne_true
  refine call_meets F.slot_list_extend ⟨_, e, rfl⟩ F.entry_list_extend (F.args_list_extend_2 _ _)
    (list_extendW l its.toArray n b its2.toArray n2 sl2 hlong (by rw [List.size_toArray]; omega) (by omega)) ⟨e, e2, ?_⟩
  refine ⟨.non, _, I.lset (its' := its ++ its2) hH e (by simp) (r.append r2) ?_, rfl, q⟩
  rw [List.length_append]
  omega
theorem m_extend (u : Val) (vs : List Val) (x : V) (xs : List V) (h : VH) (H : Hp) (Q : VK) (rx : RV T X.K H u x) (rxs : RVs T X.K H vs xs) (rh : RH T X.K h H) (w : (bmtR .extend u vs h).wp h (dn T X.K H Q)) : rExtendL X.K x xs H Q := by
  unfold bmtR at w
  dsimp only at w
  split at w
  · rename_i v
    obtain ⟨y, s, rfl, r1, r2⟩ := rxs.of_cons
    obtain rfl := r2.of_nil
    obtain ⟨a, zs, ys, rfl, e, e1, q, w⟩ := lstA_ok rx rh w
    split at w
    · rename_i zs' e2
      obtain ⟨b, ys', rfl, e1', q'⟩ := lstR_of rh r1 e2
      exact ⟨a, b, ys, ys', rfl, rfl, e1, e1', by rw [szl, ← q.length, ← q'.length]; exact w.1, dn.putL (xs := zs) w.2 rh e1 (q.append q') (rv_non.mpr rfl)⟩
    · exact w.elim
  · exact w.elim
theorem s_bitlen (L : Le Γ Γ) {apos : Pos} (ho : PE X o (tE Γ T X.K W mo)) (hbase : attributeBase o "bit_length" X.env (eval o X.env) = eval o X.env) (hline : (apos.endLine == pos.line) = true) : PE X (.Call (.Attribute o "bit_length" apos) [] [] pos) (tE Γ T X.K W (.bmt .bitlen "int" mo .nil)) :=
  (pe_bits ho hbase hline).imp fun σ H Q ⟨σv, h, rs, rh, w⟩ => by
    simp only [wpE, wpEs] at w
    refine tE.of L .refl rs rh w fun u h1 w1 x H1 l1 rh1 rx => ?_
    obtain ⟨_, w1⟩ := w1
    unfold bmtR at w1
    dsimp only at w1
    split at w1
    · exact ⟨_, rv_int.mp rx, dn.at (dn.sh l1 w1) rh1 (rv_int.mpr rfl)⟩
    · exact w1.elim
end
end MP
end
section
set_option maxHeartbeats 1000000
/-! MpNf: fields, methods, stores into lists. -/
namespace MP
open PySem PySem.Spec PyProof.Rows L2
theorem ofStr_inj {a b : String} (h : Str.ofString a = Str.ofString b) : a = b := by
  rw [Str.ofString_eq_toList, Str.ofString_eq_toList] at h
  have h1 : (a.toList.map Char.toNat) = b.toList.map Char.toNat := by
    have := congrArg (fun s : Str => s.cps.toList) h
    simpa using this
  have h2 : a.toList = b.toList := (List.map_inj_right (f := Char.toNat) fun x y e => Char.toNat_inj.mp e).mp h1
  exact String.ext h2
section
variable {T : Tb} {K : Frag} {H : Hp}
theorem RF.some : ∀ {fs : List (String × Val)} {gs : List (Str × V)} {f : String} {x : Val}, RF T K H fs gs → flook f fs = some x → ∃ v, gs.lookup (Str.ofString f) = some v ∧ RV T K H x v
  | [], _, _, _, _, e => by cases e
  | (g, y) :: fs, _, f, x, ⟨v, r, rfl, h1, h2⟩, e => by
    unfold flook at e
    by_cases q : f = g
    · subst q
      rw [if_pos rfl] at e
      cases e
      exact ⟨v, by simp [List.lookup], h1⟩
    · rw [if_neg q] at e
      obtain ⟨w, e1, e2⟩ := RF.some h2 e
      refine ⟨w, ?_, e2⟩
      rw [List.lookup_cons]
      have : (Str.ofString f == Str.ofString g) = false := by simpa using fun z => q (ofStr_inj z)
      rw [this]
      exact e1
theorem RF.none : ∀ {fs : List (String × Val)} {gs : List (Str × V)} {f : String}, RF T K H fs gs → flook f fs = none → gs.lookup (Str.ofString f) = none
  | [], _, _, h, _ => by
    have h : _ = [] := h
    rw [h]
    rfl
  | (g, y) :: fs, _, f, ⟨v, r, rfl, h1, h2⟩, e => by
    unfold flook at e
    by_cases q : f = g
    · rw [if_pos q] at e; cases e
    · rw [if_neg q] at e
      rw [List.lookup_cons]
      have : (Str.ofString f == Str.ofString g) = false := by simpa using fun z => q (ofStr_inj z)
      rw [this]
      exact RF.none h2 e
theorem RF.put {f : String} {x : Val} {v : V} (rv : RV T K H x v) : ∀ {fs : List (String × Val)} {gs : List (Str × V)}, RF T K H fs gs → RF T K H (fput f x fs) (putF (Str.ofString f) v gs)
  | [], _, h => by
    have h : _ = [] := h
    rw [h]
    exact ⟨v, [], rfl, rv, rfl⟩
  | (g, y) :: fs, _, ⟨w, r, rfl, h1, h2⟩ => by
    unfold fput putF
    by_cases q : f = g
    · subst q
      rw [if_pos rfl, if_pos rfl]
      exact ⟨v, r, rfl, rv, h2⟩
    · have : ¬ Str.ofString f = Str.ofString g := fun z => q (ofStr_inj z)
      rw [if_neg q]
      have this2 : ¬ Str.ofString g = Str.ofString f := fun z => this z.symm
      rw [if_neg this2]
      exact ⟨w, _, rfl, h1, RF.put rv h2⟩
theorem RF.length : ∀ {fs : List (String × Val)} {gs : List (Str × V)}, RF T K H fs gs → fs.length = gs.length
  | [], _, h => by
    have h : _ = [] := h
    rw [h]
    rfl
  | (g, y) :: fs, _, ⟨w, r, rfl, h1, h2⟩ => by rw [List.length_cons, List.length_cons, RF.length h2]
theorem flook_mem {f : String} {x : Val} : ∀ {fs : List (String × Val)}, flook f fs = some x → ∃ p ∈ fs, p.1 = f
  | [], e => by cases e
  | (g, y) :: fs, e => by
    unfold flook at e
    by_cases q : f = g
    · exact ⟨_, List.mem_cons_self, q.symm⟩
    · rw [if_neg q] at e
      obtain ⟨p, h1, h2⟩ := flook_mem e
      exact ⟨p, List.mem_cons_of_mem _ h1, h2⟩
theorem fput_mem {f : String} {x : Val} : ∀ {fs : List (String × Val)} {p : String × Val}, p ∈ fput f x fs → p.1 = f ∨ ∃ q ∈ fs, q.1 = p.1
  | [], p, h => by
    rw [fput, List.mem_singleton] at h
    exact .inl (by rw [h])
  | (g, y) :: fs, p, h => by
    unfold fput at h
    by_cases q : f = g
    · rw [if_pos q] at h
      rcases List.mem_cons.mp h with rfl | h
      · exact .inl q.symm
      · exact .inr ⟨p, List.mem_cons_of_mem _ h, rfl⟩
    · rw [if_neg q] at h
      rcases List.mem_cons.mp h with rfl | h
      · exact .inr ⟨_, List.mem_cons_self, rfl⟩
      · rcases fput_mem h with h | ⟨q, h1, h2⟩
        · exact .inl h
        · exact .inr ⟨q, List.mem_cons_of_mem _ h1, h2⟩
end
section
variable {X : Ctx} {Γ : Gam} {T : Tb} {W : WX} {o e : Expr} {es : List Expr} {mo me mi : E} {ms : Es} {pos p' : Pos}
theorem s_fld (L : Le Γ Γ) {f : String} (ho : PE X o (tE Γ T X.K W mo)) (hb : attributeBase o (Str.ofString f) X.env (eval o X.env) = eval o X.env) : PE X (.Attribute o (Str.ofString f) pos) (tE Γ T X.K W (.fld mo f)) :=
  (pe_fld ho hb).imp fun σ H Q ⟨σv, h, rs, rh, w⟩ => by
    simp only [wpE] at w
    refine tE.of L .refl rs rh w fun u h1 w1 x H1 l1 rh1 rx => ?_
    unfold fldR at w1
    split at w1
    · obtain rfl := rv_ref.mp rx
      split at w1
      · rename_i c fs e1
        obtain ⟨dx, gs, e2, rf, c1, na⟩ := rh1.ins e1
        split at w1
        · rename_i v e3
          obtain ⟨y, e4, ry⟩ := RF.some rf e3
          obtain ⟨p, hp, ep⟩ := flook_mem e3
          have n := na p hp
          rw [ep] at n
          exact ⟨_, _, dx, gs, y, rfl, e2, c1.1, n, e4, dn.at (dn.sh l1 w1) rh1 ry⟩
        · exact w1.elim
      · exact w1.elim
    · exact w1.elim
theorem s_sfl (L : Le Γ Γ) {f : String} (hF : ∀ c, Γ.fld c f = true → NoAttr X.K (T.cls c) (Str.ofString f)) (ho : PE X o (tE Γ T X.K W mo)) (he : PE X e (tE Γ T X.K W me)) (hs : swapsWith e (some (.Attribute o (Str.ofString f) p')) pos.line X.env = pure false) :
    PS X (.Assign [.Attribute o (Str.ofString f) p'] e pos) (tS Γ T X.K W (.sfl mo f me)) :=
  (ps_fld ho he hs).imp fun D σ H ⟨σv, h, rs, rh, w⟩ => by
    simp only [wpS] at w
    refine tE.inS L .refl rs rh w fun v h1 w1 y H1 l1 rh1 ry => ?_
    refine tE.inS L l1 rs rh1 w1 fun u h2 w2 x H2 l2 rh2 rx => ?_
    unfold sflR at w2
    split at w2
    · obtain rfl := rv_ref.mp rx
      split at w2
      · rename_i c fs e1
        obtain ⟨dx, gs, e2, rf, c1, na⟩ := rh2.ins e1
        obtain ⟨⟨k1, k2⟩, w2⟩ := w2
        have l3 : HLe H2 (upd H2 _ (.ins (T.cls c) dx (putF (Str.ofString f) y gs))) := .put e2 True.intro
        refine ⟨_, _, dx, gs, rfl, e2, c1.1, hF c k2, by rw [← RF.length rf]; exact k1, ?_⟩
        refine w2 _ _ ((l1.trans l2).trans l3) (rs.le ((l1.trans l2).trans l3)) ?_
        refine rh2.put e2 True.intro ⟨⟨dx, _, rfl, (RF.put (ry.le l2) rf).le l3⟩, c1, fun p hp => ?_⟩
        rcases fput_mem hp with hp | ⟨q, h1, h2⟩
        · rw [hp]; exact hF c k2
        · rw [← h2]; exact na q h1
      · exact w2.elim
    · exact w2.elim
/-- o.m(..) as it is computed -/
theorem mcall_eq {o : Expr} {name : Str} {apos pos : Pos} {args : List Expr} {env : Env} (hbase : attributeBase o name env (eval o env) = eval o env)
    (hform : methodCallForm (args.length + ([] : List Keyword).length) (backTo pos (starEach args env)) (backToKw pos (keywordEach [] env)) = true) (hline : (apos.endLine == pos.line) = true) :
    eval (.Call (.Attribute o name apos) args [] pos) env = (do
      let ov ← eval o env
      standAt apos.atName
      let (f, first) ← holding [ov] (getMethod ov name (do return (← importBound o env).getD true))
      callWith pos f first (backTo pos (starEach args env)) (backToKw pos (keywordEach [] env))) := by
  have hpos : methodCallPos true o env apos pos = pure pos := by unfold methodCallPos; simp [hline]
  rw [arm_eval_Call, hbase]
  unfold methodCall calleeOf
  rw [hform, hpos]
  rfl
/-- the method that a value's class tells -/
theorem mth_of {K : Frag} {h : VH} {H : Hp} {u : Val} {x : V} {m : String} {c : String} (rx : RV T K H u x) (rh : RH T K h H) (e : mthC u m h = some c) : ∃ a dx gs, x = .ref a ∧ H a = some (.ins (T.cls c) dx gs) ∧ gs.lookup (Str.ofString m) = none ∧ Cls K (T.cls c) := by
  unfold mthC at e
  split at e
  · obtain rfl := rv_ref.mp rx
    split at e
    · rename_i c' fs e1
      obtain ⟨dx, gs, e2, rf, c1, na⟩ := rh.ins e1
      split at e
      · cases e
      · rename_i e3
        cases e
        exact ⟨_, dx, gs, rfl, e2, RF.none rf e3, c1.1⟩
    · cases e
  · cases e
theorem s_mth (L : Le Γ Γ) {m : String} {apos : Pos} {pl : PySem.Sem Bool} (hM : ∀ c l, Γ.mth c m = some l → Meth X.K (T.cls c) (Str.ofString m) (T.fn l) ∧ CallV X W Γ T (.ref (T.fn l)) l) (ho : PE X o (tE Γ T X.K W mo)) (ha : PA X (e :: es) (tA Γ T X.K W ms))
    (hst : starEach (e :: es) X.env = (false, eval e X.env) :: starEach es X.env) (hpl : (backTo pos (starEach es X.env)).any (·.1) = false)
    (ht : eval (.Call (.Attribute o (Str.ofString m) apos) (e :: es) [] pos) X.env = (do
      let ov ← eval o X.env
      standAt apos.atName
      let (f, first) ← holding [ov] (getMethod ov (Str.ofString m) pl)
      callWith pos f first (backTo pos (starEach (e :: es) X.env)) (backToKw pos (keywordEach [] X.env)))) :
    PE X (.Call (.Attribute o (Str.ofString m) apos) (e :: es) [] pos) (tE Γ T X.K W (.mth mo m ms)) := by
  refine ⟨fun pins s σ H Q I ⟨σv, h, rs, rh, w⟩ => ?_⟩
  simp only [wpE] at w
  refine PySem.W.methodCall_KW (pl := pl) (thn (ho.run pins s σ H (fun x H1 => HLe H H1 ∧ ∃ u h1 c l, RV T X.K H1 u x ∧ RH T X.K h1 H1 ∧ mthC u m h1 = some c ∧ Γ.mth c m = some l ∧ wpEs Γ ms σv h1 (fun vs h2 => Γ.call l (u :: vs) h2 (dn T X.K H Q) (dx T X.K H fun c d H' => W c d σ H')) (dx T X.K H fun c d H' => W c d σ H')) I ?_)
    fun uv s1 ⟨x, H1, I1, rx, l1, u, h1, c, l, ru, rh1, ec, el, w1⟩ => ?_) ht
  · refine tE.of L .refl rs rh w fun u h1 w1 x H1 l1 rh1 rx => ⟨l1, u, h1, ?_⟩
    cases ec : mthC u m h1 with
    | none => rw [ec] at w1; exact w1.elim
    | some c =>
      rw [ec] at w1
      dsimp only at w1
      cases el : Γ.mth c m with
      | none => rw [el] at w1; exact w1.elim
      | some l => rw [el] at w1; exact ⟨c, l, rx, rh1, rfl, el, w1⟩
  · obtain ⟨a, dx', gs, rfl, ea, lk, cc⟩ := mth_of ru rh1 ec
    obtain ⟨mt, cv⟩ := hM c l el
    obtain rfl : uv = Value.ref a := rx
    refine getmeth_ok I1 ea cc mt lk ?_
    refine PySem.W.callWith_K (first := [.ref a]) (h₀ := X.base) I.ok.mod.kin mt.kp (thn (ha.run pos pins s1 σ H1 (fun xs H2 => HLe H1 H2 ∧ ∃ vals h2, RVs T X.K H2 vals xs ∧ RH T X.K h2 H2 ∧ Γ.call l (u :: vals) h2 (dn T X.K H Q) (dx T X.K H fun c d H' => W c d σ H')) I1 ?_) fun us s2 ⟨vs, H2, I2, r, l2, vals, h2, rvs, rh2, w2⟩ => ⟨I2.kIn, ?_⟩) hst hpl
    · exact tA.of L l1 (rs.le l1) rh1 w1 fun vs h2 w2 xs H2 l2 rh2 rxs => ⟨l2, vs, h2, rxs, rh2, w2⟩
    · exact cv pins s2 σ H2 (V.ref a :: vs) (Value.ref a :: us) (u :: vals) h2 Q I2 (.cons rfl r) (.cons (ru.le l2) rvs) rh2 (L.call _ _ _ _ _ _ _ (fun _ _ z => dn.sh (l1.trans l2) z) (fun _ _ z => dx.sh (l1.trans l2) z) w2)
theorem s_mth0 (L : Le Γ Γ) {m : String} {apos : Pos} {pl : PySem.Sem Bool} (hM : ∀ c l, Γ.mth c m = some l → Meth X.K (T.cls c) (Str.ofString m) (T.fn l) ∧ CallV X W Γ T (.ref (T.fn l)) l) (ho : PE X o (tE Γ T X.K W mo))
    (ht : eval (.Call (.Attribute o (Str.ofString m) apos) [] [] pos) X.env = (do
      let ov ← eval o X.env
      standAt apos.atName
      let (f, first) ← holding [ov] (getMethod ov (Str.ofString m) pl)
      callWith pos f first (backTo pos (starEach [] X.env)) (backToKw pos (keywordEach [] X.env)))) :
    PE X (.Call (.Attribute o (Str.ofString m) apos) [] [] pos) (tE Γ T X.K W (.mth mo m .nil)) := by
  refine ⟨fun pins s σ H Q I ⟨σv, h, rs, rh, w⟩ => ?_⟩
  simp only [wpE, wpEs] at w
  refine PySem.W.methodCall_KW (pl := pl) (thn (ho.run pins s σ H (fun x H1 => HLe H H1 ∧ ∃ u h1 c l, RV T X.K H1 u x ∧ RH T X.K h1 H1 ∧ mthC u m h1 = some c ∧ Γ.mth c m = some l ∧ Γ.call l [u] h1 (dn T X.K H Q) (dx T X.K H fun c d H' => W c d σ H')) I ?_)
    fun uv s1 ⟨x, H1, I1, rx, l1, u, h1, c, l, ru, rh1, ec, el, w1⟩ => ?_) ht
  · refine tE.of L .refl rs rh w fun u h1 w1 x H1 l1 rh1 rx => ⟨l1, u, h1, ?_⟩
    cases ec : mthC u m h1 with
    | none => rw [ec] at w1; exact w1.elim
    | some c =>
      rw [ec] at w1
      dsimp only at w1
      cases el : Γ.mth c m with
      | none => rw [el] at w1; exact w1.elim
      | some l => rw [el] at w1; exact ⟨c, l, rx, rh1, rfl, el, w1⟩
  · obtain ⟨a, dx', gs, rfl, ea, lk, cc⟩ := mth_of ru rh1 ec
    obtain ⟨mt, cv⟩ := hM c l el
    obtain rfl : uv = Value.ref a := rx
    refine getmeth_ok I1 ea cc mt lk ?_
    exact PySem.W.callWith_K0 (first := [.ref a]) I1.kIn mt.kp (cv pins s1 σ H1 [V.ref a] [Value.ref a] [u] h1 Q I1 (.cons rfl .nil) (.cons ru .nil) rh1 (L.call _ _ _ _ _ _ _ (fun _ _ z => dn.sh l1 z) (fun _ _ z => dx.sh l1 z) w1))
/-! ### stores into lists -/
def rS3 (T : Tb) (K : Frag) : V → V → V → Hp → (Hp → Prop) → Prop := fun x y z H Q => ∃ a b c h, RV T K H a x ∧ RV T K H b y ∧ RV T K H c z ∧ RH T K h H ∧ (setR a b c h).wp h fun _ h' => ∀ H', HLe H H' → RH T K h' H' → Q H'
theorem set_val (hu : X.A.units + 1 < cLine) : PSet X (rS3 T X.K) := by
  intro pins s σ H x y z ux uy uz Q I rx ry rz ⟨a, b, c, h, ra, rb, rc, rh, w⟩
  unfold setR at w
  split at w
  · obtain rfl := rv_ref.mp ra
    split at w
    · rename_i xs e1
      split at w
      · rename_i k
        obtain rfl := rv_int.mp rb
        split at w
        · rename_i j ej
          obtain ⟨ys, e2, rs⟩ := rh.lst e1
          have l : HLe H (upd H _ (.lst (ys.set j z))) := .put e2 True.intro
          exact set_list pins s σ H _ _ _ ux uy uz Q I rx ry rz ⟨_, ys, k, j, rfl, rfl, e2, by rw [← rs.length]; exact ej, w.2 _ l (rh.put e2 True.intro ⟨_, rfl, (RVs.set j rc rs).le l⟩)⟩
        · exact w.elim
      · exact w.elim
    · rename_i kt kvs e1
      obtain ⟨⟨hk, hl⟩, w⟩ := w
      obtain ⟨H', g, l, rh'⟩ := dput_of rh e1 rb hk rc hl
      cases rx
      exact d_setItem hu I g ry rz fun s' I' => ⟨H', I', w H' l rh'⟩
    · exact w.elim
  · exact w.elim
theorem s_ssb (L : Le Γ Γ) (hu : X.A.units + 1 < cLine) {i : Expr} {p2 : Pos} (ho : PE X o (tE Γ T X.K W mo)) (hi : PE X i (tE Γ T X.K W mi)) (he : PE X e (tE Γ T X.K W me)) (hx : ∀ v, assign (.Subscript o i p2) X.env v = (do
      let ov ← holding [v] (eval o X.env)
      let iv ← holding [v, ov] (eval i X.env)
      standAt p2
      holding [v, ov, iv] (setItem ov iv v)
      release [v, ov, iv] [])) (hs : swapsWithSole [.Subscript o i p2] e pos.line X.env = pure false) (hw : swappedStores [.Subscript o i p2] e X.env = pure none) :
    PS X (.Assign [.Subscript o i p2] e pos) (tS Γ T X.K W (.ssb mo mi me)) :=
  (ps_asg he (pg_sub ho hi (set_val (T := T) hu) hx) hs hw rfl).imp fun D σ H ⟨σv, h, rs, rh, w⟩ => by
    simp only [wpS] at w
    refine tE.inS L .refl rs rh w fun v h1 w1 y H1 l1 rh1 ry => ?_
    refine tE.inS L l1 rs rh1 w1 fun u h2 w2 x H2 l2 rh2 rx => ?_
    refine tE.inS L (l1.trans l2) rs rh2 w2 fun k h3 w3 z H3 l3 rh3 rz => ?_
    exact ⟨u, k, v, h3, rx.le l3, rz, ry.le (l2.trans l3), rh3, Res.mono (fun _ h4 q H4 l4 rh4 => q _ H4 (((l1.trans l2).trans l3).trans l4) (rs.le (((l1.trans l2).trans l3).trans l4)) rh4) w3⟩
end
/-! ### dicts: get, setdefault, displays -/
section
variable {X : Ctx} {T : Tb}
def rDGet : V → List V → Hp → VK → Prop := fun x xs H Q => (∃ a y o, x = .ref a ∧ xs = [y] ∧ DGet H a y o ∧ Q (o.getD .non) H) ∨ ∃ a y d o, x = .ref a ∧ xs = [y, d] ∧ DGet H a y o ∧ Q (o.getD d) H
theorem mt_dget (hu : X.A.units + 1 < cLine) : MtR X "dict.get" rDGet := by
  intro pins s σ H x xs v us Q I rx r h
  rcases h with ⟨a, y, o, rfl, rfl, g, q⟩ | ⟨a, y, d, o, rfl, rfl, g, q⟩
  · cases rx
    cases r with
    | cons r1 r2 =>
      cases r2
      exact d_get1 hu I g r1 fun w' s' I' rw' => ⟨_, H, I', rw', q⟩
  · cases rx
    cases r with
    | cons r1 r2 =>
      cases r2 with
      | cons r2 r3 =>
        cases r3
        exact d_get2 hu I g r1 r2 fun w' s' I' rw' => ⟨_, H, I', rw', q⟩
def rDSetD : V → List V → Hp → VK → Prop := fun x xs H Q => ∃ a j d ks, x = .ref a ∧ xs = [kV j, d] ∧ H a = some (.dK ks) ∧ ks.length < sizeLine ∧ (match valV ks j with
  | some v => Q v H
  | none => Q d (upd H a (.dK (putK ks j d))))
theorem mt_dsetd : MtR X "dict.setdefault" rDSetD := by
  intro pins s σ H x xs v us Q I rx r h
  obtain ⟨a, j, d, ks, rfl, rfl, e, hl, q⟩ := h
  cases rx
  cases r with
  | cons r1 r2 =>
    cases r2 with
    | cons r2 r3 =>
      cases r3
      obtain ⟨z, hd, vs, rel, dd⟩ := dk_of I.hok e
      have hz : vs.length ≤ sizeLine := by rw [← rel.length]; exact z
      refine call_meetsIn PySem.F.slot_dict_setdefault dd.typeIs PySem.F.entry_dict_setdefault (PySem.F.args_dict_setdefault_3 _ _ _) (kt_meets_setdefault (mixKind X.prog X.w) a (kV_is r1) hd _) ⟨vs, dd, hz, fun v' hv => ?_, fun hn h' dd' hs => ?_⟩
      · have ro := rel.val j
        rw [hv] at ro
        cases q2 : valV ks j with
        | none => rw [q2] at ro; exact ro.elim
        | some y =>
          rw [q2] at ro q
          exact ⟨y, H, I.tok _, ro, q⟩
      · have ro := rel.val j
        rw [hn] at ro
        cases q2 : valV ks j with
        | some y => rw [q2] at ro; exact ro.elim
        | none =>
          rw [q2] at q
          have he : ∃ q, h'.get? a = some q := let ⟨q, _, _, hq, _⟩ := dd'; ⟨q, hq⟩
          have hz2 : (putK ks j d).length ≤ sizeLine := by have := length_putK ks j d; omega
          exact ⟨d, _, d_write I (by rw [e]; exact True.intro) hs he (dk_new hz2 hd (rel.put j r2) dd'), r2, q⟩
theorem m_dget (u : Val) (vs : List Val) (x : V) (xs : List V) (h : VH) (H : Hp) (Q : VK) (rx : RV T X.K H u x) (rxs : RVs T X.K H vs xs) (rh : RH T X.K h H) (w : (bmtR .get u vs h).wp h (dn T X.K H Q)) : rDGet x xs H Q := by
  have key : ∀ {k : Nat → Bool → List (Val × Val) → Res}, (dicA u h k).wp h (dn T X.K H Q) → ∃ a t kvs, x = .ref a ∧ h a = some (.dic t kvs) ∧ (k a t kvs).wp h (dn T X.K H Q) := fun {k} w => by
    unfold dicA at w
    cases u with
    | ref a =>
      dsimp only at w
      cases q : h a with
      | none => rw [q] at w; exact w.elim
      | some o =>
        rw [q] at w
        cases o with
        | dic t kvs => exact ⟨a, t, kvs, rv_ref.mp rx, q, w⟩
        | _ => exact w.elim
    | _ => exact w.elim
  unfold bmtR at w
  dsimp only at w
  split at w
  · obtain ⟨y, s, rfl, r1, r2⟩ := rxs.of_cons
    obtain rfl := r2.of_nil
    obtain ⟨a, t, kvs, rfl, e, hk, w⟩ := key w
    obtain ⟨o, g, ro⟩ := dget_of rh e r1 hk
    exact .inl ⟨a, y, o, rfl, rfl, g, w.at rh (ro.getD (rv_non.mpr rfl))⟩
  · obtain ⟨y, s, rfl, r1, r2⟩ := rxs.of_cons
    obtain ⟨y2, s, rfl, r3, r4⟩ := r2.of_cons
    obtain rfl := r4.of_nil
    obtain ⟨a, t, kvs, rfl, e, hk, w⟩ := key w
    obtain ⟨o, g, ro⟩ := dget_of rh e r1 hk
    exact .inr ⟨a, y, y2, o, rfl, rfl, g, w.at rh (ro.getD r3)⟩
  · exact w.elim
theorem m_dsetd (u : Val) (vs : List Val) (x : V) (xs : List V) (h : VH) (H : Hp) (Q : VK) (rx : RV T X.K H u x) (rxs : RVs T X.K H vs xs) (rh : RH T X.K h H) (w : (bmtR .setdefault u vs h).wp h (dn T X.K H Q)) : rDSetD x xs H Q := by
  unfold bmtR at w
  dsimp only at w
  split at w
  · rename_i k d
    obtain ⟨y, s, rfl, r1, r2⟩ := rxs.of_cons
    obtain ⟨y2, s, rfl, r3, r4⟩ := r2.of_cons
    obtain rfl := r4.of_nil
    unfold dicA at w
    cases u with
    | ref a =>
      dsimp only at w
      cases q : h a with
      | none => rw [q] at w; exact w.elim
      | some o =>
        rw [q] at w
        cases o with
        | dic t kvs =>
          dsimp only at w
          cases t with
          | true => exact w.elim
          | false =>
            obtain ⟨ks, e1, rd⟩ := rh.dK q
            have hlen := rd.len
            cases ql : dlook k kvs with
            | some v =>
              rw [ql] at w
              obtain ⟨⟨hk, hl⟩, w⟩ := w
              obtain ⟨j, rfl, hj, rfl⟩ := rv_leaf r1 hk
              have ro := rd.look (j := j)
              rw [ql] at ro
              obtain ⟨y', e2, rv'⟩ := ro.some
              refine ⟨a, j, y2, ks, rv_ref.mp rx, rfl, e1, by rw [← hlen, szl]; exact hl, ?_⟩
              rw [e2]
              exact w.at rh rv'
            | none =>
              rw [ql] at w
              obtain ⟨⟨hk, hl⟩, w⟩ := w
              obtain ⟨j, rfl, hj, rfl⟩ := rv_leaf r1 hk
              have ro := rd.look (j := j)
              rw [ql] at ro
              have e2 : valV ks j = none := by
                cases q3 : valV ks j with
                | none => rfl
                | some y => rw [q3] at ro; exact ro.elim
              refine ⟨a, j, y2, ks, rv_ref.mp rx, rfl, e1, by rw [← hlen, szl]; exact hl, ?_⟩
              rw [e2]
              have l : HLe H (upd H a (.dK (putK ks j y2))) := .put e1 True.intro
              exact w _ _ l (rh.put e1 True.intro ⟨_, rfl, (rd.put hj r3).le l⟩) (r3.le l)
        | _ => exact w.elim
    | _ => exact w.elim
  · exact w.elim
/-- pairs that stand for pairs -/
def RVp (T : Tb) (K : Frag) (H : Hp) : List (Val × Val) → List (V × V) → Prop
  | [], ps => ps = []
  | (k, v) :: r, ps => ∃ x y s, ps = (x, y) :: s ∧ RV T K H k x ∧ RV T K H v y ∧ RVp T K H r s
theorem RVp.le {K : Frag} {H H' : Hp} (L : HLe H H') : ∀ {xs : List (Val × Val)} {ps : List (V × V)}, RVp T K H xs ps → RVp T K H' xs ps
  | [], _, h => h
  | (k, v) :: r, _, ⟨x, y, s, e, h1, h2, h3⟩ => ⟨x, y, s, e, h1.le L, h2.le L, h3.le L⟩
theorem RVp.leafs {K : Frag} {H : Hp} : ∀ {xs : List (Val × Val)} {ps : List (V × V)}, RVp T K H xs ps → (xs.all fun q => leafK q.1) = true → ∃ ks : List (Key × V), ps = ks.map (fun kv => (kV kv.1, kv.2)) ∧ RD T K H xs ks
  | [], _, h, _ => by cases h; exact ⟨[], rfl, rfl⟩
  | (k, v) :: r, _, ⟨x, y, s, e, h1, h2, h3⟩, z => by
    subst e
    rw [List.all_cons, Bool.and_eq_true] at z
    obtain ⟨j, rfl, hj, rfl⟩ := rv_leaf h1 z.1
    obtain ⟨ks, rfl, rd⟩ := h3.leafs z.2
    exact ⟨(j, y) :: ks, rfl, j, y, ks, rfl, rfl, hj, h2, rd⟩
theorem RD.merge {K : Frag} {H : Hp} : ∀ {more : List (Val × Val)} {ks : List (Key × V)} {xs : List (Val × Val)} {js : List (Key × V)}, RD T K H more ks → RD T K H xs js → RD T K H (dputs xs more) (mergeK js ks)
  | [], _, _, _, h, g => by cases h; exact g
  | (k, v) :: r, _, xs, js, ⟨j, y, s, e, h1, h2, h3, h4⟩, g => by
    subst e h1
    exact RD.merge (xs := dput (ofK j) v xs) (js := putK js j y) h4 (g.put h2 h3)
def trsOf (Γ : Gam) (T : Tb) (K : Frag) (W : WX) : Es → List (TE × TE)
  | .cons k (.cons v r) => (tE Γ T K W k, tE Γ T K W v) :: trsOf Γ T K W r
  | _ => []
def evenEs : Es → Bool
  | .nil => true
  | .cons _ (.cons _ r) => evenEs r
  | .cons _ .nil => false
theorem pairs_go {Γ : Gam} {K : Frag} {W : WX} (L : Le Γ Γ) {σ : L2.St} {σv : VS} {H0 : Hp} : ∀ {m : Es} {H : Hp} {h : VH} {Qv : List Val → VH → Prop} {Qp : List (V × V) → Hp → Prop}, evenEs m = true → HLe H0 H → RS T K H σv σ → RH T K h H → wpEs Γ m σv h Qv (dx T K H0 fun c d H' => W c d σ H') →
    (∀ vs kvs ps h' H', pairsOf vs = some kvs → RVp T K H' kvs ps → HLe H H' → RH T K h' H' → Qv vs h' → Qp ps H') → tPairs (trsOf Γ T K W m) σ H Qp
  | .nil, H, h, Qv, Qp, _, l, rs, rh, w, k => by
    simp only [wpEs] at w
    exact k [] [] [] h H rfl rfl .refl rh w
  | .cons a (.cons b r), H, h, Qv, Qp, ev, l, rs, rh, w, k => by
    simp only [wpEs] at w
    refine tE.of L l rs rh w fun u h1 w1 x H1 l1 rh1 rx => ?_
    refine tE.of L (l.trans l1) (rs.le l1) rh1 w1 fun v h2 w2 y H2 l2 rh2 ry => ?_
    exact pairs_go L ev ((l.trans l1).trans l2) ((rs.le l1).le l2) rh2 w2 fun vs kvs ps h' H' e rp l3 rh3 q => k (u :: v :: vs) ((u, v) :: kvs) ((x, y) :: ps) h' H' (by rw [pairsOf, e]; rfl) ⟨x, y, ps, rfl, (rx.le l2).le l3, ry.le l3, rp⟩ ((l1.trans l2).trans l3) rh3 q
  | .cons _ .nil, H, h, Qv, Qp, ev, l, rs, rh, w, k => by cases ev
theorem s_dct0 {Γ : Gam} {W : WX} {pos : Pos} : PE X (.Dict [] [] pos) (tE Γ T X.K W (.dct .nil)) :=
  pe_dnewK.imp fun σ H Q ⟨σv, h, rs, rh, w⟩ => by
    simp only [wpE, wpEs] at w
    intro p hp
    obtain ⟨_, _, _, w⟩ := w p (rh.fresh hp)
    rw [show up (up h p (.dic false [])) p (.dic false (dputs [] [])) = up h p (.dic false []) by funext b; unfold up; split <;> rfl] at w
    exact w _ _ (.new hp) (rh.new hp ⟨[], rfl, rfl⟩) (rv_ref.mpr rfl)
theorem s_dctT {Γ : Gam} {W : WX} {pos : Pos} : PE X (.Dict [] [] pos) (tE Γ T X.K W .dctT) :=
  pe_dnewT.imp fun σ H Q ⟨σv, h, rs, rh, w⟩ => by
    simp only [wpE] at w
    intro p hp
    exact w p (rh.fresh hp) _ _ (.new hp) (rh.new hp ⟨[], rfl, rfl⟩) (rv_ref.mpr rfl)
theorem s_dct {Γ : Gam} {W : WX} {pos : Pos} {keys : List (Option Expr)} {values : List Expr} {m : Es} (L : Le Γ Γ) (ev : evenEs m = true) (hp : PPs X pos keys values (trsOf Γ T X.K W m)) (hall : keys.all (·.isSome) = true) (hl : keys.length = values.length) (h0 : keys ≠ []) (h15 : keys.length ≤ 15) : PE X (.Dict keys values pos) (tE Γ T X.K W (.dct m)) :=
  (pe_disp hp hall hl h0 h15).imp fun σ H Q ⟨σv, h, rs, rh, w⟩ => by
    simp only [wpE] at w
    intro p hp
    have l0 : HLe H (upd H p (.dK [])) := .new hp
    refine pairs_go L ev l0 (rs.le l0) (rh.new (x := .dic false []) hp ⟨[], rfl, rfl⟩) (w p (rh.fresh hp)) fun vs kvs ps h' H' e rp l rh' q => ?_
    rw [e] at q
    obtain ⟨q1, q2, q3, q4⟩ := q
    obtain ⟨ks0, e1, rd0⟩ := rh'.dK q1
    cases rd0
    obtain ⟨ks, rfl, rd⟩ := rp.leafs q2
    have l2 : HLe H' (upd H' p (.dK (mergeK [] ks))) := .put e1 True.intro
    refine ⟨e1, ks, rfl, by rw [← rd.len]; exact q3, ?_⟩
    exact q4 _ _ ((l0.trans l).trans l2) (rh'.put e1 True.intro ⟨_, rfl, (RD.merge rd (show RD T X.K H' [] [] from rfl)).le l2⟩) (rv_ref.mpr rfl)
end
end MP
end
section
set_option maxHeartbeats 1000000
/-! MpNs: methods of texts. -/
namespace MP
open PySem PySem.Spec PyProof.Rows L2 TL
theorem splitC_ne (c : Nat) : ∀ l, ∃ w ws, splitC c l = w :: ws
  | [] => ⟨[], [], rfl⟩
  | x :: r => by
    unfold splitC
    by_cases e : x = c
    · rw [if_pos e]; exact ⟨_, _, rfl⟩
    · rw [if_neg e]
      obtain ⟨w, ws, e2⟩ := splitC_ne c r
      rw [e2]
      exact ⟨_, _, rfl⟩
theorem spl_c (c : Nat) : ∀ (l acc : List Nat), ∃ w ws, splitC c l = w :: ws ∧ spl [c] 0 acc l = (acc ++ w) :: ws
  | [], acc => ⟨[], [], rfl, by rw [spl_nil, List.append_nil]⟩
  | x :: r, acc => by
    by_cases e : x = c
    · subst e
      have hp : pre [x] (x :: r) = true := by unfold pre; simp
      obtain ⟨w, ws, e1, e2⟩ := spl_c x r []
      refine ⟨[], splitC x r, ?_, ?_⟩
      · rw [splitC, if_pos rfl]
      · rw [spl_hit hp, List.append_nil, e1]
        rw [List.nil_append] at e2
        exact congrArg (acc :: ·) e2
    · have hp : pre [c] (x :: r) = false := pre_of_head [] r e
      obtain ⟨w, ws, e1, e2⟩ := spl_c c r (acc ++ [x])
      refine ⟨x :: w, ws, ?_, ?_⟩
      · unfold splitC; rw [if_neg e, e1]
      · rw [spl_miss hp, e2, List.append_assoc]; rfl
theorem split_eq {c : Nat} (hc : c < 256) (a : List Nat) : (Txt.split ⟨a.toArray⟩ ⟨[c].toArray⟩).map tl = splitC c a := by
  have hk := kind_ok (x := ⟨a.toArray⟩) (y := ⟨[c].toArray⟩) (by simp [hc])
  rw [split_spl _ _ (by show [c] ≠ []; simp) hk]
  obtain ⟨w, ws, e1, e2⟩ := spl_c c a []
  show spl [c] 0 [] a = _
  rw [e2, e1, List.nil_append]
theorem splitC_len (c : Nat) : ∀ (l : List Nat) (w : List Nat), w ∈ splitC c l → w.length ≤ l.length
  | [], w, h => by
    obtain rfl := List.mem_singleton.mp (show w ∈ [[]] from h)
    exact Nat.le_refl _
  | x :: r, w, h => by
    unfold splitC at h
    by_cases e : x = c
    · rw [if_pos e] at h
      rcases List.mem_cons.mp h with rfl | h
      · exact Nat.zero_le _
      · exact Nat.le_trans (splitC_len c r w h) (Nat.le_succ _)
    · rw [if_neg e] at h
      obtain ⟨v, vs, e2⟩ := splitC_ne c r
      rw [e2] at h
      rcases List.mem_cons.mp h with rfl | h
      · have := splitC_len c r v (by rw [e2]; exact List.mem_cons_self)
        rw [List.length_cons, List.length_cons]; omega
      · exact Nat.le_trans (splitC_len c r w (by rw [e2]; exact List.mem_cons_of_mem _ h)) (Nat.le_succ _)
theorem rvs_strs {T : Tb} {K : Frag} {H : Hp} : ∀ {ys : List Str}, (∀ y ∈ ys, (tl y).length ≤ SZ) → RVs T K H ((ys.map tl).map .str) (ys.map V.str)
  | [], _ => .nil
  | y :: ys, h => .cons (rv_str.mpr ⟨by rw [mk_tl], h y List.mem_cons_self⟩) (rvs_strs fun z hz => h z (List.mem_cons_of_mem _ hz))
section
variable {X : Ctx} {T : Tb}
theorem m_split (u : Val) (vs : List Val) (x : V) (xs : List V) (h : VH) (H : Hp) (Q : VK) (rx : RV T X.K H u x) (rxs : RVs T X.K H vs xs) (rh : RH T X.K h H) (w : (bmtR .split u vs h).wp h (dn T X.K H Q)) :
    ∃ a b, x = .str a ∧ xs = [.str b] ∧ (b.length == 0) = false ∧ a.length + 2 ≤ sizeLine ∧ rNewStrs (Txt.split a b) H Q := by
  unfold bmtR at w
  dsimp only at w
  split at w
  · rename_i a c
    obtain ⟨y, s, rfl, r1, r2⟩ := rxs.of_cons
    obtain rfl := r2.of_nil
    obtain ⟨rfl, _⟩ := rv_str.mp rx
    obtain ⟨rfl, _⟩ := rv_str.mp r1
    obtain ⟨⟨w1, w2⟩, w3⟩ := w
    refine ⟨_, _, rfl, rfl, rfl, by rw [szl]; show a.toArray.size + 2 ≤ SZ; rw [List.size_toArray]; exact w1, ?_⟩
    have e := split_eq w2 a
    have hl : ∀ y ∈ Txt.split ⟨a.toArray⟩ ⟨[c].toArray⟩, (tl y).length ≤ SZ := fun y hy => by
      have := splitC_len c a (tl y) (by rw [← e]; exact List.mem_map.mpr ⟨y, hy, rfl⟩)
      omega
    have := rvs_strs (T := T) (K := X.K) (H := H) hl
    rw [e] at this
    exact dn.newL w3 rh this
  · exact w.elim
theorem joinL_eq (S : List Nat) : ∀ l : List (List Nat), joinL S l = joinC S l
  | [] => rfl
  | [_] => rfl
  | p :: q :: r => by
    show p ++ (S ++ joinL S (q :: r)) = p ++ S ++ joinC S (q :: r)
    rw [joinL_eq S (q :: r), List.append_assoc]
theorem joinC_len (S : List Nat) : ∀ l : List (List Nat), (joinC S l).length ≤ (l.map List.length).sum + l.length * S.length
  | [] => Nat.zero_le _
  | [p] => by show p.length ≤ p.length + 0 + _; omega
  | p :: q :: r => by
    have ih := joinC_len S (q :: r)
    show (p ++ S ++ joinC S (q :: r)).length ≤ _
    rw [List.length_append, List.length_append, List.map_cons, List.sum_cons, List.length_cons, Nat.add_mul]
    omega
theorem m_join (u : Val) (vs : List Val) (x : V) (xs : List V) (h : VH) (H : Hp) (Q : VK) (rx : RV T X.K H u x) (rxs : RVs T X.K H vs xs) (rh : RH T X.K h H) (w : (bmtR .join u vs h).wp h (dn T X.K H Q)) :
    ∃ a p, ∃ ys : List Str, x = .str a ∧ xs = [.ref p] ∧ (SqL X.K H p (ys.map V.str) ∨ SqT X.K H p (ys.map V.str)) ∧ (ys.map (·.length)).sum + ys.length * a.length ≤ 16777216 ∧ Q (.str (Txt.join a ys)) H := by
  unfold bmtR at w
  dsimp only at w
  split at w
  · rename_i a v
    obtain ⟨y, s, rfl, r1, r2⟩ := rxs.of_cons
    obtain rfl := r2.of_nil
    obtain ⟨rfl, _⟩ := rv_str.mp rx
    cases e1 : itemsOf v h with
    | none => rw [e1] at w; exact w.elim
    | some its =>
      rw [e1] at w
      dsimp only at w
      cases e2 : strsOf its with
      | none => rw [e2] at w; exact w.elim
      | some zs =>
        rw [e2] at w
        obtain ⟨w1, w2⟩ := w
        obtain ⟨p, ys, rfl, sq, rs⟩ := items_of rh r1 e1
        obtain rfl := strs_of e2 rs
        refine ⟨_, p, zs.map fun z => ⟨z.toArray⟩, rfl, rfl, sq, ?_, ?_⟩
        · have e3 : (zs.map fun z => (⟨z.toArray⟩ : Str)).map (·.length) = zs.map List.length := by
            rw [List.map_map]
            refine List.map_congr_left fun z _ => ?_
            show z.toArray.size = _
            rw [List.size_toArray]
          rw [e3, List.length_map]
          show _ + _ * a.toArray.size ≤ _
          rw [List.size_toArray]
          exact w1
        · refine dn.at w2 rh (rv_str.mpr ⟨?_, Nat.le_trans (joinC_len a zs) w1⟩)
          rw [join_eq]
          congr 1
          refine ext_tl ?_
          rw [tl_join, List.map_map]
          show joinL a (zs.map fun z => z) = joinC a zs
          rw [List.map_id', joinL_eq]
  · exact w.elim
theorem at_one {a : List Nat} {c i : Nat} : StrLaws.At ⟨a.toArray⟩ ⟨[c].toArray⟩ (⟨a.toArray⟩ : Str).length i ↔ a[i]? = some c := by
  rw [at_iff (by show [c] ≠ []; simp)]
  show pre [c] (a.drop i) = true ↔ _
  unfold pre
  rw [beq_iff_eq]
  constructor
  · intro h
    have := congrArg (fun l => l[0]?) h
    simpa using this
  · intro h
    obtain ⟨hi, e⟩ := List.getElem?_eq_some_iff.mp h
    rw [List.drop_eq_getElem_cons hi, e]
    rfl
theorem findC_spec (c : Nat) : ∀ (a : List Nat) (k : Nat), match findC c a k with
    | some i => k ≤ i ∧ a[i - k]? = some c ∧ ∀ j, j < i - k → a[j]? ≠ some c
    | none => ∀ j : Nat, a[j]? ≠ some c
  | [], k => fun j => by simp
  | x :: r, k => by
    unfold findC
    by_cases e : x = c
    · rw [if_pos e]
      subst e
      exact ⟨Nat.le_refl _, by simp, fun j hj => by omega⟩
    · rw [if_neg e]
      have ih := findC_spec c r (k + 1)
      cases q : findC c r (k + 1) with
      | none =>
        rw [q] at ih
        intro j
        cases j with
        | zero => simpa using e
        | succ j => simpa using ih j
      | some i =>
        rw [q] at ih
        obtain ⟨h1, h2, h3⟩ := ih
        refine ⟨by omega, ?_, fun j hj => ?_⟩
        · rw [show i - k = (i - (k + 1)) + 1 by omega, List.getElem?_cons_succ]; exact h2
        · cases j with
          | zero => simpa using e
          | succ j =>
            rw [List.getElem?_cons_succ]
            exact h3 j (by omega)
theorem occ_find (a : List Nat) (c : Nat) : (match findC c a 0 with
    | some i => ∃ r, Builtin.Str.occurrences ⟨a.toArray⟩ ⟨[c].toArray⟩ 0 (⟨a.toArray⟩ : Str).length 1 = i :: r
    | none => Builtin.Str.occurrences ⟨a.toArray⟩ ⟨[c].toArray⟩ 0 (⟨a.toArray⟩ : Str).length 1 = []) := by
  have sp := findC_spec c a 0
  rcases StrLaws.occ_head ⟨a.toArray⟩ ⟨[c].toArray⟩ 1 (Nat.le_refl _) with ⟨h1, h2⟩ | ⟨i, r, h1, h2, h3⟩
  · cases q : findC c a 0 with
    | none => exact h1
    | some i =>
      rw [q] at sp
      exact (h2 i (at_one.mpr (by simpa using sp.2.1))).elim
  · have e := at_one.mp h2
    cases q : findC c a 0 with
    | none => rw [q] at sp; exact (sp i e).elim
    | some j =>
      rw [q] at sp
      obtain ⟨_, s2, s3⟩ := sp
      have : i = j := by
        rcases Nat.lt_trichotomy i j with z | z | z
        · exact (s3 i (by omega) e).elim
        · exact z
        · exact (h3 j z (at_one.mpr (by simpa using s2))).elim
      subst this
      exact ⟨r, h1⟩
theorem m_find (u : Val) (vs : List Val) (x : V) (xs : List V) (h : VH) (H : Hp) (Q : VK) (rx : RV T X.K H u x) (rxs : RVs T X.K H vs xs) (rh : RH T X.K h H) (w : (bmtR .find u vs h).wp h (dn T X.K H Q)) :
    ∃ a b, x = .str a ∧ xs = [.str b] ∧ Q (.int (Txt.find a b)) H := by
  unfold bmtR at w
  dsimp only at w
  split at w
  · rename_i a c
    obtain ⟨y, s, rfl, r1, r2⟩ := rxs.of_cons
    obtain rfl := r2.of_nil
    obtain ⟨rfl, _⟩ := rv_str.mp rx
    obtain ⟨rfl, _⟩ := rv_str.mp r1
    refine ⟨_, _, rfl, rfl, ?_⟩
    have o := occ_find a c
    unfold Txt.find
    cases q : findC c a 0 with
    | none =>
      rw [q] at o w
      rw [o]
      exact dn.at w rh (rv_int.mpr rfl)
    | some i =>
      rw [q] at o w
      obtain ⟨r, o⟩ := o
      rw [o]
      exact dn.at w rh (rv_int.mpr rfl)
  · exact w.elim
theorem m_startswith (u : Val) (vs : List Val) (x : V) (xs : List V) (h : VH) (H : Hp) (Q : VK) (rx : RV T X.K H u x) (rxs : RVs T X.K H vs xs) (rh : RH T X.K h H) (w : (bmtR .startswith u vs h).wp h (dn T X.K H Q)) :
    ∃ a b, x = .str a ∧ xs = [.str b] ∧ Q (.bl (Txt.startswith a b)) H := by
  unfold bmtR at w
  dsimp only at w
  split at w
  · rename_i a b
    obtain ⟨y, s, rfl, r1, r2⟩ := rxs.of_cons
    obtain rfl := r2.of_nil
    obtain ⟨rfl, _⟩ := rv_str.mp rx
    obtain ⟨rfl, _⟩ := rv_str.mp r1
    refine ⟨_, _, rfl, rfl, ?_⟩
    have e : Txt.startswith ⟨a.toArray⟩ ⟨b.toArray⟩ = b.isPrefixOf a := by
      unfold Txt.startswith
      rw [Bool.eq_iff_iff, List.isPrefixOf_iff_prefix, Bool.and_eq_true, decide_eq_true_eq, StrLaws.subAt_eq]
      show 0 + b.toArray.size ≤ a.toArray.size ∧ ((a.drop 0).take b.toArray.size == b) = true ↔ _
      rw [List.size_toArray, List.size_toArray, List.drop_zero, beq_iff_eq, Nat.zero_add]
      constructor
      · rintro ⟨_, h2⟩
        rw [← h2]
        exact List.take_prefix _ _
      · intro hp
        exact ⟨hp.length_le, (List.prefix_iff_eq_take.mp hp).symm⟩
    rw [e]
    exact dn.at w rh (rv_bl.mpr rfl)
  · exact w.elim
theorem m_index {W : WX} (σ : L2.St) (u : Val) (vs : List Val) (x : V) (xs : List V) (h : VH) (H : Hp) (Q : VK) (rx : RV T X.K H u x) (rxs : RVs T X.K H vs xs) (rh : RH T X.K h H) (w : (bmtR .index u vs h).wp h (dn T X.K H Q)) : rIndexX W σ x xs H Q := by
  unfold bmtR at w
  dsimp only at w
  split at w
  · rename_i a c
    obtain ⟨y, s, rfl, r1, r2⟩ := rxs.of_cons
    obtain rfl := r2.of_nil
    obtain ⟨rfl, _⟩ := rv_str.mp rx
    obtain ⟨rfl, _⟩ := rv_str.mp r1
    have o := occ_find a c
    cases q : findC c a 0 with
    | none => rw [q] at w; exact w.elim
    | some i =>
      rw [q] at o w
      obtain ⟨r, o⟩ := o
      refine ⟨_, _, rfl, rfl, fun k hk => ?_, fun hk => ?_⟩
      · unfold Txt.index0 at hk
        rw [o] at hk
        cases hk
        exact dn.at w rh (rv_int.mpr rfl)
      · unfold Txt.index0 at hk
        rw [o] at hk
        cases hk
  · exact w.elim
/-- a method that may raise -/
theorem s_bmtS {Γ : Gam} {W : WX} {o e : Expr} {es : List Expr} {mo : E} {ms : Es} {pos : Pos} (L : Le Γ Γ) {m : Bmt} {name : Str} {ty id : String} {apos : Pos} (pa : PlainAttrs ty) (slot : Slot ty name id) (hty : typeOf (.builtin id) = pure (.type "method_descriptor")) {r : L2.St → V → List V → Hp → VK → Prop} (hm : MtS X id r)
    (hr : ∀ (σ : L2.St) (u : Val) (vs : List Val) (x : V) (xs : List V) (h : VH) (H : Hp) (Q : VK), RV T X.K H u x → RVs T X.K H vs xs → RH T X.K h H → (bmtR m u vs h).wp h (dn T X.K H Q) → r σ x xs H Q)
    (ho : PE X o (tE Γ T X.K W mo)) (ha : PA X (e :: es) (tA Γ T X.K W ms))
    (hbase : attributeBase o name X.env (eval o X.env) = eval o X.env)
    (hfew : ((backTo pos (starEach (e :: es) X.env)).all (fun x => !x.1) && (backToKw pos (keywordEach [] X.env)).all (fun x => x.1.isSome)
      && decide ((e :: es).length + ([] : List Keyword).length + (if ([] : List Keyword).isEmpty then 0 else 1) < 30)) = true)
    (hline : (apos.endLine == pos.line) = true) (hs : starEach (e :: es) X.env = (false, eval e X.env) :: starEach es X.env) (hplain : (backTo pos (starEach es X.env)).any (·.1) = false) :
    PE X (.Call (.Attribute o name apos) (e :: es) [] pos) (tE Γ T X.K W (.bmt m ty mo ms)) :=
  (pe_bmS pa slot hty hm ho ha hbase hfew hline hs hplain).imp fun σ H Q ⟨σv, h, rs, rh, w⟩ => by
    simp only [wpE] at w
    refine tE.of L .refl rs rh w fun u h1 w1 x H1 l1 rh1 rx => ⟨tyV_of w1.1 rx rh1, ?_⟩
    exact tA.of L l1 (rs.le l1) rh1 w1.2 fun vs h2 w2 xs H2 l2 rh2 rxs => hr σ u vs x xs h2 H2 Q (rx.le l2) rxs rh2 (Res.mono (fun _ _ z => dn.sh (l1.trans l2) z) w2)
end
end MP
end
section
set_option maxHeartbeats 2000000
/-! MpZ: exceptions: raise, try, what is asked of a caught one. -/
namespace MP
open PySem PySem.Spec PyProof.Rows L2
/-! ### raise -/
/-- what is known of an exception class without own __init__ -/
structure Exc0 (K : Frag) (C : Addr) : Prop where
  own : PySem.W.excIn K C He.veBase "ValueError.__new__" = true
  keep : PySem.W.keepIn K (.ref C) = true
  sub : PySem.W.subIn K (.ref C) (.type "BaseException") = some true
  ty : PySem.W.typeIn K (.ref C) = some (.type "type")
theorem pmk_own0 {X : Cx} {C : Addr} {x : Str} {p pos : Pos} (T : Exc0 X.K C) (gC : X.mg x = some (.ref C)) (hg : Gl X x) (hdb : (x == ("__debug__" : Str)) = false) : PMk X (.Call (.Name x p) [] [] pos) (fun _ H Q => Q (.ref C) none H) := by
  intro pins s σ H Q I h
  refine wpAny_Call_Name_kw (ld_glob I hg gC ?_ hdb)
  refine PySem.W.callWith_K0 I.kIn T.keep ?_
  obtain ⟨bm, N, nm, qn, bs, hdct, sn, sub, ab, col, dd, k0, k1, k2, k3, k5, mN, hC, hN, hni, OT⟩ := exc_obj I.kIn T.own
  exact wpAny_call_exc_subT F.excBase_ValueError OT hC hN hni (fun h' e hm => mk_of I hm (raises_own T.sub T.ty) h (I.hok.gone hm.new)) (by show 0 ≤ sizeLine; omega)
theorem pmk_own1 {X : Cx} {C : Addr} {x m : Str} {j : Nat} {p p2 pos : Pos} (T : Exc0 X.K C) (gC : X.mg x = some (.ref C)) (hg : Gl X x) (hdb : (x == ("__debug__" : Str)) = false) : PMk X (.Call (.Name x p) [.Constant (.str m) j p2] [] pos) (fun _ H Q => Q (.ref C) none H) :=
  pmk_own F.excBase_ValueError T.own gC T.keep (raises_own T.sub T.ty) hg hdb
section
variable {X : Ctx} {Γ : Gam} {T : Tb} {W : WX} {pos : Pos}
theorem rai_end {c : String} {C : Addr} (hC : C = T.cls c) (he : Γ.exc c = some []) {vs : List Val} {D : Ends} {σ : L2.St} {H : Hp} {σv : VS} {h : VH} (rs : RS T X.K H σv σ) (rh : RH T X.K h H) (w : raiK (Γ.exc c) c vs h fun e h2 => (dD T X.K W H D).ex e σv h2) : W (.ref C) none σ H := by
  rw [he] at w
  subst hC
  exact w (.ref (T.cls c)) none σ H .refl rs rh ⟨rfl, rfl⟩
theorem s_rai0 (hc : X.calm = true) (tk : Takes X W) {x : Str} {p p' : Pos} {c : String} (he : Γ.exc c = some []) (E0 : Exc0 X.K (T.cls c)) (gC : X.mg x = some (.ref (T.cls c))) (hg : Gl X x) (hdb : (x == ("__debug__" : Str)) = false) :
    PS X (.Raise (some (.Call (.Name x p) [] [] p')) none pos) (tS Γ T X.K W (.rai c .nil)) :=
  (ps_raise hc tk (pmk_own0 E0 gC hg hdb)).imp fun D σ H ⟨σv, h, rs, rh, w⟩ => by
    simp only [wpS, wpEs] at w
    exact rai_end rfl he rs rh w.2
theorem s_rai1 (hc : X.calm = true) (tk : Takes X W) {x m : Str} {j : Nat} {p p' p2 : Pos} {c : String} {z : List Nat} (he : Γ.exc c = some []) (E0 : Exc0 X.K (T.cls c)) (gC : X.mg x = some (.ref (T.cls c))) (hg : Gl X x) (hdb : (x == ("__debug__" : Str)) = false) :
    PS X (.Raise (some (.Call (.Name x p) [.Constant (.str m) j p2] [] p')) none pos) (tS Γ T X.K W (.rai c (.cons (.str z) .nil))) :=
  (ps_raise hc tk (pmk_own1 E0 gC hg hdb)).imp fun D σ H ⟨σv, h, rs, rh, w⟩ => by
    simp only [wpS, wpEs, wpE] at w
    exact rai_end rfl he rs rh w.2
/-! ### try -/
theorem s_try (L : Le Γ Γ) (hs : X.stack = X.env :: X.outer) (hf : X.env.frame = some X.env.locals) (hN : X.N.Nodup) {x n : Str} {np p' : Pos} {c : String} {i : Nat} (hi : X.N[i]? = some n) (hln : X.env.kindOf n = some .local) (hc : Names X x (cv T c)) (tk : Takes X W)
    (hsub : ∀ e b, Γ.sub e c = some b → PySem.W.exmOne X.K (.ref (T.cls e)) (cv T c) = some b) {body suite : List Stmt} {b₀ : Stmt} {mb ms : Ss}
    (hb : ∀ (W' : WX) (pn : List (Addr × PySem.Obj)) (xe : Value → Shared → Prop), Takes (X.tr pn xe) W' → PassesOwn (model X.prog X.w) X.A X.env xe → PSs (X.tr pn xe) body (tSs Γ T X.K W' mb))
    (hsu : ∀ (a : Addr) (oe : PySem.Obj) (e : Exc) (pn : List (Addr × PySem.Obj)), Zc (.ref (T.cls e.cls)) e.d oe → (∃ vs, oe.data = .fields vs) → PSs (X.suite a ((a, oe) :: pn)) (b₀ :: suite) (tSs { Γ with cur := some (i, a, e) } T X.K W0 ms)) :
    PS X (.Try body [.ExceptHandler (some (.Name x np)) (some n) (b₀ :: suite) p'] [] [] pos) (tS Γ T X.K W (.try_ mb (.cons c i ms .nil) .nil)) := by
  refine (ps_try_as (ts := fun a cls d D σ H => ∃ e, RX T X.K H e cls d ∧ tSs { Γ with cur := some (i, a, e) } T X.K W0 ms D σ H) hs hf hN hi hln hc tk (tb := fun W' => tSs Γ T X.K W' mb) hb fun a oe cls d pn hz hv => ⟨fun pins s σ H D I ⟨e, ⟨e1, e2⟩, q⟩ => ?_⟩).imp fun D σ H ⟨σv, h, rs, rh, w⟩ => ?_
  · subst e1
    subst e2
    exact (hsu a oe e pn hz hv).run pins s σ H D I q
  · simp only [wpS, wpSs] at w
    refine ⟨σv, h, rs, rh, wpSs_mono L mb σv h { nx := (dD T X.K W H D).nx, rt := (dD T X.K W H D).rt, ex := fun e σ h => wpHs Γ (.cons c i ms .nil) e σ h (dD T X.K W H D) } _ ⟨fun _ _ z => z, fun _ _ z => z, fun e σv' h' z cls d σ' H' l rs' rh' rx => ?_⟩ w⟩
    obtain ⟨e1, e2⟩ := rx
    subst e1
    simp only [wpHs] at z
    cases q : Γ.sub e.cls c with
    | none => rw [q] at z; exact z.elim
    | some b =>
      rw [q] at z
      refine ⟨b, hsub _ _ q, fun hb a ha => ?_, fun hb => ?_⟩
      · subst hb
        have ha' : h' a = none := rh'.fresh ha
        refine ⟨e, ⟨rfl, e2⟩, sset σv' i (some (.ref a)), h', rs'.set (rv_ref.mpr rfl), rh', ?_⟩
        have L' : Le { Γ with cur := some (i, a, e) } { Γ with cur := some (i, a, e) } := ⟨rfl, rfl, rfl, rfl, rfl, rfl, rfl, L.call⟩
        refine wpSs_mono L' ms _ h' { nx := fun σ' h' => (dD T X.K W H D).nx (sset σ' i none) h', rt := (dD T X.K W H D).rt, ex := fun _ _ _ => False } _ ⟨fun σ2 h2 z2 σ3 H3 l3 rs3 rh3 => ?_, fun v h2 z2 => dn.sh l z2, fun _ _ _ z => z.elim⟩ (z a ha')
        exact z2 _ H3 (l.trans l3) rs3.wipe1 rh3
      · subst hb
        simp only [wpHs] at z
        exact z (.ref (T.cls e.cls)) d σ' H' l rs' rh' ⟨rfl, e2⟩
/-! ### what is asked of a caught exception -/
/-- isinstance, whatever its dict -/
theorem kin_classE' {prog : Program} {w : World} {A : Around} {E : Value → Shared → Prop} {s : Shared} {K : Frag} {x D : Addr} {ox : PySem.Obj} {od : Option PySem.Obj} {Q : Option Value → Shared → Prop} (hga : PySem.W.findIn K (.ref D) "__getattribute__" = some (some (.builtin "BaseException.__getattribute__"))) (hgt : PySem.W.findIn K (.ref D) "__getattr__" = some none) (hsub : PySem.W.subIn K (.ref D) (.type "BaseException") = some true)
    (hdct : PySem.W.hasDictIn K D = true) (ha : PySem.W.findIn K (.ref D) "__class__" = some (some (.builtin "object.__class__")))
    (hn : PySem.W.specialIn K (.builtin "object.__class__") "__get__" = some (some (.builtin "getset_descriptor.__get__"))) (htk : PySem.W.takesIn K (.builtin "object.__class__") = some true) (hm : PySem.W.mroIn K D (.type "object") = some true)
    (X : K.In s.heap) (I : PySem.W.InstAt s.heap x ox D od) (h : Q (some (.ref D)) { s with toks := s.toks + 1 }) : wpAny (model prog w) A (getAttr? (.ref x) "__class__") Q E s := by
  open PySem.W PySem.Calls Builtin in
  have hf : findObj K D od "__class__" = some (.bind (.builtin "getset_descriptor.__get__") (.builtin "object.__class__")) := by
    obtain ⟨cd, hc, _⟩ := any_some hdct
    unfold findObj
    rw [hc, Option.bind_some, ha, Option.bind_some]
    simp [hn, htk]
  obtain ⟨hp, g, d, t, os⟩ := s
  have L0 := I.type (M := model prog w)
  have L1 := PySem.W.looks_findIn (M := model prog w) X hga
  have L2 := PySem.W.looks_findIn (M := model prog w) X hgt
  have L3 := PySem.W.looks_find (M := model prog w) X I hf
  have sub : PySem.W.Looks (model prog w) hp (isInstance (.ref x) (.type "BaseException")) true := L0.andThen (PySem.W.looks_subIn X hsub)
  have hx0 : (false && onTheHeap (Value.builtin "BaseException.__getattribute__")) = false := rfl
  have hx2 : (Value.builtin "BaseException.__getattribute__" == Value.builtin "object.__getattribute__") = false := by decide +kernel
  have hx1 : (onTheHeap (Value.ref D) && Value.builtin "BaseException.__getattribute__" == Value.builtin "object.__getattribute__") = false := by rw [hx2]; rfl
  unfold getAttr? getAttrBy? getAttrBy
  refine wpAny_bind (wpAny_mkText (wpAny_bind (wpAny_attempt (wpAny_holding (wpAny_bind (L0.at (wpAny_bind (L1.at ?_))))))))
  show wpAny _ _ (if (onTheHeap (Value.ref D) && Value.builtin "BaseException.__getattribute__" == Value.builtin "object.__getattribute__") = true then _ else _) _ _ _
  rw [hx1, if_neg Bool.false_ne_true]
  unfold getAttrByItsOwn hookBefore
  refine wpAny_bind ?_
  rw [if_pos (show onTheHeap (Value.ref D) = true from rfl)]
  refine L2.at ?_
  refine wpAny_bind (wpAny_attempt (wpAny_holding ?_))
  unfold callGetattribute
  rw [hx0, if_neg Bool.false_ne_true]
  unfold boundAndCalled
  rw [PySem.F.excAttr_ValueError.ga.bind (.ref x)]
  refine wpAny_bind (wpAny_pure ?_)
  show wpAny _ _ (call (.builtin "BaseException.__getattribute__") [.ref x, .str "__class__" t]) _ _ _
  refine wpAny_call (codeAny_call_builtin PySem.F.excAttr_ValueError.ga.plain PySem.F.entry_bexc_ga ?_)
  refine @PySem.W.check_slot (model prog w) _ _ ⟨hp, g, d, t + 1, os⟩ "BaseException.__getattribute__" "BaseException" "__getattribute__" (.ref x) [.str "__class__" t] [] _ (by decide +kernel) (by decide +kernel) sub (PySem.F.args_bexc_ga (.ref x) (.str "__class__" t)) ?_
  unfold Builtin.«object.__getattribute__»
  refine wpAny_bind (wpAny_of_eq (a := ((Value.ref x : Value), [Value.str "__class__" t])) (by first | rfl | (simp only [Builtin.slotArgs]; rfl)) ?_)
  refine wpAny_bind (wpAny_pure (wpAny_bind (L0.at (wpAny_bind (L3.at ?_)))))
  show wpAny _ _ (holding [Value.builtin "object.__class__"] (call (.builtin "getset_descriptor.__get__") [.builtin "object.__class__", .ref x, .ref D]) >>= _) _ _ _
  refine wpAny_bind (wpAny_holding (wpAny_call (PySem.W.class_get (s := ⟨hp, g, d, t + 1, os⟩) (ox := ox) (od := od) X I hm ?_)))
  refine wpAny_pure ?_
  show wpAny _ _ (handedOut (.ref D)) _ _ _
  rw [handedOut_of (v := .ref D) rfl]
  first
    | exact wpAny_pure (wpAny_pure h)
    | exact wpAny_pure h
    | exact wpAny_pure (wpAny_bind (wpAny_pure (wpAny_pure h)))
theorem kitx_exc {K : Frag} {x D : Addr} {ox : PySem.Obj} {od : Option PySem.Obj} (C : ExcC K D) : PySem.W.KitX K (.ref x) (.ref D) (fun h => PySem.W.InstAt h x ox D od) where
  ty := fun _ _ _ I => I.type
  it := fun _ _ X _ => by
    obtain ⟨cdD, hcD, _⟩ := PySem.W.any_some C.hd
    unfold PySem.W.clsIn at hcD
    split at hcD
    · rename_i c' d' cd' sl' ho
      intro A' Q' E' s' k q
      unfold isType loadHead
      exact wpAny_bind (wpAny_loadPart (k _ _ (X _ _ ho)) (wpAny_pure q))
    · cases hcD
  ne := fun h tp dd its n sl X htp => by
    obtain ⟨cdD, hcD, _⟩ := PySem.W.any_some C.hd
    refine Bool.eq_false_iff.mpr fun q => ?_
    have e : D = tp := Value.ref.inj (beq_iff_eq.mp q)
    subst e
    unfold PySem.W.clsIn at hcD
    split at hcD
    · rename_i c' d' cd' sl' ho
      have z := (X _ _ ho).symm.trans htp
      cases z
    · cases hcD
  ca := fun X I k => kin_classE' C.hg C.hk C.hs C.hd C.ha C.hn C.ht C.hm X I k
def rIsE' (K : Frag) (D a : Addr) (d : Option Addr) : List V → Hp → VK → Prop := fun xs H Q => ∃ (c : V) (cv : Value) (b : Bool), xs = [.ref a, c] ∧ (∀ u, RelV c u → u = cv) ∧ PySem.W.kitOne K (.ref D) cv = some b ∧ (∀ dd, d = some dd → ∃ gs, H dd = some (.xd gs)) ∧ Q (.bl b) H
theorem call_isE' {X : Cx} {a D : Addr} {d : Option Addr} {oe : PySem.Obj} {pn : List (Addr × PySem.Obj)} (C : ExcC X.K D) (hz : Zc (.ref D) d oe) (hf : ∃ vs, oe.data = .fields vs) : CallR (X.suite a ((a, oe) :: pn)) (.builtin "isinstance") (rIsE' X.K D a d) := by
  intro pins s σ H xs us Q I r h
  obtain ⟨c, cv, b, rfl, hcv, e, hd, q⟩ := h
  cases r with
  | cons rx rr =>
    cases rr with
    | cons rt rr =>
      cases rr
      cases rx
      have ec := hcv _ rt
      subst ec
      obtain ⟨hget, _⟩ := I.pin (a, oe) (List.mem_append.mpr (.inl List.mem_cons_self))
      obtain ⟨vs, hv⟩ := hf
      have J : ∃ od, PySem.W.InstAt s.heap a oe D od := by
        cases d with
        | none => exact ⟨none, hget, hz.1, by unfold PySem.W.notCls; rw [hv] <;> rfl, by rw [hz.2]; trivial⟩
        | some dd =>
          obtain ⟨gs, ea⟩ := hd dd rfl
          have hx : ObjOk X.prog X.w H s.heap dd (.xd gs) := I.hok dd _ ea
          obtain ⟨mA, hns, hr⟩ := hx
          obtain ⟨od, ho, hl⟩ := lookIn_ns hns
          exact ⟨some od, hget, hz.1, by unfold PySem.W.notCls; rw [hv] <;> rfl, by rw [hz.2]; exact ho⟩
      obtain ⟨od, J⟩ := J
      exact PySem.W.kia_one (kitx_exc C) I.kIn J e (fun z => nomatch z) fun tk => ⟨.bl b, H, I.kept (t' := tk) fun _ _ z => z, rfl, q⟩
theorem s_xisi (L : Le Γ Γ) {X : Ctx} {W : WX} {a : Addr} {oe : PySem.Obj} {pn : List (Addr × PySem.Obj)} {i : Nat} {e : Exc} {c : String} {v w : Expr} {p : Pos} (hcur : Γ.cur = some (i, a, e)) (C : ∀ b, Γ.sub e.cls c = some b → ExcC X.K (T.cls e.cls) ∧ PySem.W.kitOne X.K (.ref (T.cls e.cls)) (cv T c) = some b)
    (hz : Zc (.ref (T.cls e.cls)) e.d oe) (hf : ∃ vs, oe.data = .fields vs) (hg : Gl (X.suite a ((a, oe) :: pn)) "isinstance") (hm : X.mg "isinstance" = none) (hv : PE (X.suite a ((a, oe) :: pn)) v (tE Γ T X.K W (.var i))) (hc : PE (X.suite a ((a, oe) :: pn)) w (tC (cV T c)))
    (hs : starEach [v, w] X.env = (false, eval v X.env) :: starEach [w] X.env) (hs2 : starEach [w] X.env = (false, eval w X.env) :: starEach [] X.env) (hpl : (backTo pos (starEach [w] X.env)).any (·.1) = false) :
    PE (X.suite a ((a, oe) :: pn)) (.Call (.Name "isinstance" p) [v, w] [] pos) (tE Γ T X.K W (.xisi [c])) := by
  refine ⟨fun pins s σ H Q I ⟨σv, h, rs, rh, z⟩ => ?_⟩
  simp only [wpE] at z
  obtain ⟨i', a', e', z1, z2, z3⟩ := z
  rw [hcur] at z1
  cases z1
  unfold xiR at z3
  dsimp only at z3
  cases q : Γ.sub e.cls c with
  | none => rw [q] at z3; exact z3.elim
  | some b =>
    rw [q] at z3
    obtain ⟨z3, z4⟩ := z3
    obtain ⟨C1, C2⟩ := C b q
    refine (pe_callB (X := X.suite a ((a, oe) :: pn)) (call_isE' C1 hz hf) hg hm (by decide +kernel) (pa_cons hv (pa_cons hc pa_nil hs2) hs) (by decide +kernel) (by decide +kernel) hs hpl).run pins s σ H Q I ?_
    have w0 : wpE Γ (.var i) σv h (fun u h1 => u = .ref a ∧ h1 = h) (dx T X.K H fun c d H' => W c d σ H') := by
      simp [wpE, z2]
    refine tE.of L .refl rs rh w0 fun u h1 w1 x H1 l1 rh1 rx => ?_
    obtain ⟨rfl, rfl⟩ := w1
    obtain rfl := rv_ref.mp rx
    exact ⟨_, cv T c, b, rfl, fun u hu => by (unfold cV at hu; unfold cv; split at hu <;> (rename_i hq; simp only [hq]; exact hu)), C2, fun dd hd => by
      obtain ⟨fs, e1⟩ := z3 dd hd
      obtain ⟨u, e2, gs, rfl, _⟩ := rh1 dd _ e1
      exact ⟨gs, e2⟩, dn.at (dn.sh l1 z4) rh1 (rv_bl.mpr rfl)⟩
/-- the exception against a tuple of classes that was just laid -/
def rIsET (K : Frag) (D a : Addr) (d : Option Addr) : List V → Hp → VK → Prop := fun xs H Q => ∃ (tp : Addr) (cs : List V) (us : List Value) (b : Bool), xs = [.ref a, .ref tp] ∧ H tp = some (.tup cs) ∧ Paired ClsV cs us ∧ PySem.W.kitAny K (.ref D) us = some b ∧ (∀ dd, d = some dd → ∃ gs, H dd = some (.xd gs)) ∧ Q (.bl b) H
theorem call_isET {X : Cx} {a D : Addr} {d : Option Addr} {oe : PySem.Obj} {pn : List (Addr × PySem.Obj)} (C : ExcC X.K D) (hz : Zc (.ref D) d oe) (hf : ∃ vs, oe.data = .fields vs) : CallR (X.suite a ((a, oe) :: pn)) (.builtin "isinstance") (rIsET X.K D a d) := by
  intro pins s σ H xs us Q I r h
  obtain ⟨tp, cs, ws, b, rfl, hT, k, e, hd, q⟩ := h
  obtain ⟨u1, u2, rfl, r1, r2⟩ := vals2 r
  cases (show u1 = Value.ref a from r1)
  cases (show u2 = Value.ref tp from r2)
  obtain ⟨hget, _⟩ := I.pin (a, oe) (List.mem_append.mpr (.inl List.mem_cons_self))
  obtain ⟨vs, hv⟩ := hf
  have J : ∃ od, PySem.W.InstAt s.heap a oe D od := by
    cases d with
    | none => exact ⟨none, hget, hz.1, by unfold PySem.W.notCls; rw [hv] <;> rfl, by rw [hz.2]; trivial⟩
    | some dd =>
      obtain ⟨gs, ea⟩ := hd dd rfl
      have hx : ObjOk X.prog X.w H s.heap dd (.xd gs) := I.hok dd _ ea
      obtain ⟨mA, hns, hr⟩ := hx
      obtain ⟨od, ho, hl⟩ := lookIn_ns hns
      exact ⟨some od, hget, hz.1, by unfold PySem.W.notCls; rw [hv] <;> rfl, by rw [hz.2]; exact ho⟩
  obtain ⟨od, J⟩ := J
  obtain ⟨_, its, rv, o, h1, h2, n, h3⟩ := (show ObjOk X.prog X.w H s.heap tp (.tup cs) from I.hok tp _ hT)
  have e3 := ClsV.all k rv
  subst e3
  obtain ⟨oc, od2, dt, sl⟩ := o
  simp only at h2 h3
  subst h2 h3
  exact PySem.W.kia_tup (kitx_exc C) I.kIn J h1 e (fun z => nomatch z) fun tk => ⟨.bl b, H, I.kept (t' := tk) fun _ _ z => z, rfl, q⟩
def tCs (cs : List V) : TA := fun _ H Q => Q cs H
theorem xiA_any {K : Frag} {sub : String → String → Option Bool} {T : Tb} {e : String} (C : ∀ c b, sub e c = some b → PySem.W.kitOne K (.ref (T.cls e)) (cv T c) = some b) : ∀ {cs : List String} {b : Bool}, xiA sub e cs = some b → PySem.W.kitAny K (.ref (T.cls e)) (cs.map (cv T)) = some b
  | [], b, h => by cases h; exact kitAny_nil
  | c :: cs, b, h => by
    unfold xiA at h
    cases q : sub e c with
    | none => rw [q] at h; cases h
    | some b1 =>
      rw [q] at h
      cases b1 with
      | true => cases h; exact kitAny_cons (C _ _ q) (fun z => nomatch z) (fun _ => rfl)
      | false => exact kitAny_cons (C _ _ q) (fun _ => xiA_any C h) (fun z => nomatch z)
theorem cv_all (T : Tb) : ∀ cs : List String, Paired ClsV (cs.map (cV T)) (cs.map (cv T))
  | [] => .nil
  | c :: cs => .cons (cv_clsV T c) (cv_all T cs)
theorem xiA_sub {sub : String → String → Option Bool} {e c : String} {cs : List String} {b : Bool} (h : xiA sub e (c :: cs) = some b) : ∃ b1, sub e c = some b1 := by
  unfold xiA at h
  cases q : sub e c with
  | none => rw [q] at h; cases h
  | some b1 => exact ⟨b1, rfl⟩
theorem s_xisiT (L : Le Γ Γ) {X : Ctx} {W : WX} {a : Addr} {oe : PySem.Obj} {pn : List (Addr × PySem.Obj)} {i : Nat} {e : Exc} {c1 c2 : String} {cs : List String} {v w : Expr} {p : Pos} (hcur : Γ.cur = some (i, a, e)) (C : ∀ c b, Γ.sub e.cls c = some b → ExcC X.K (T.cls e.cls) ∧ PySem.W.kitOne X.K (.ref (T.cls e.cls)) (cv T c) = some b)
    (hz : Zc (.ref (T.cls e.cls)) e.d oe) (hf : ∃ vs, oe.data = .fields vs) (hg : Gl (X.suite a ((a, oe) :: pn)) "isinstance") (hm : X.mg "isinstance" = none) (hv : PE (X.suite a ((a, oe) :: pn)) v (tE Γ T X.K W (.var i))) (hl : (c1 :: c2 :: cs).length < 20) (hc : PE (X.suite a ((a, oe) :: pn)) w (tTup (tCs ((c1 :: c2 :: cs).map (cV T)))))
    (hs : starEach [v, w] X.env = (false, eval v X.env) :: starEach [w] X.env) (hs2 : starEach [w] X.env = (false, eval w X.env) :: starEach [] X.env) (hpl : (backTo pos (starEach [w] X.env)).any (·.1) = false) :
    PE (X.suite a ((a, oe) :: pn)) (.Call (.Name "isinstance" p) [v, w] [] pos) (tE Γ T X.K W (.xisi (c1 :: c2 :: cs))) := by
  refine ⟨fun pins s σ H Q I ⟨σv, h, rs, rh, z⟩ => ?_⟩
  simp only [wpE] at z
  obtain ⟨i', a', e', z1, z2, z3⟩ := z
  rw [hcur] at z1
  cases z1
  unfold xiR at z3
  dsimp only at z3
  cases q : xiA Γ.sub e.cls (c1 :: c2 :: cs) with
  | none => rw [q] at z3; exact z3.elim
  | some b =>
    rw [q] at z3
    obtain ⟨z3, z4⟩ := z3
    obtain ⟨b1, q1⟩ := xiA_sub q
    have C1 := (C c1 b1 q1).1
    refine (pe_callB (X := X.suite a ((a, oe) :: pn)) (call_isET C1 hz hf) hg hm (by decide +kernel) (pa_cons hv (pa_cons hc pa_nil hs2) hs) (by decide +kernel) (by decide +kernel) hs hpl).run pins s σ H Q I ?_
    have w0 : wpE Γ (.var i) σv h (fun u h1 => u = .ref a ∧ h1 = h) (dx T X.K H fun c d H' => W c d σ H') := by
      simp [wpE, z2]
    refine tE.of L .refl rs rh w0 fun u h1 w1 x H1 l1 rh1 rx => ?_
    obtain ⟨rfl, rfl⟩ := w1
    obtain rfl := rv_ref.mp rx
    refine ⟨by rw [List.length_map]; unfold sizeLine; omega, fun tp htp => ?_⟩
    have rh2 := rh1.side (o := .tup ((c1 :: c2 :: cs).map (cV T))) htp
    exact ⟨tp, _, _, b, rfl, upd_same, cv_all T _, xiA_any (fun c b hb => (C c b hb).2) q, fun dd hd => by
      obtain ⟨fs, e1⟩ := z3 dd hd
      obtain ⟨u, e2, gs, rfl, _⟩ := rh2 dd _ e1
      exact ⟨gs, e2⟩, dn.at (dn.sh (l1.trans (.new htp)) z4) rh2 (rv_bl.mpr rfl)⟩
theorem s_xfld (L : Le Γ Γ) {X : Ctx} {W : WX} {a : Addr} {oe : PySem.Obj} {pn : List (Addr × PySem.Obj)} {i : Nat} {e : Exc} {f : String} {v : Expr} (hcur : Γ.cur = some (i, a, e)) (C : ∀ ns, Γ.exc e.cls = some ns → f ∈ ns → XfC X.K (T.cls e.cls) ∧ PySem.W.findIn X.K (.ref (T.cls e.cls)) (Str.ofString f) = some none)
    (hz : Zc (.ref (T.cls e.cls)) e.d oe) (hf : ∃ vs, oe.data = .fields vs) (hv : PE (X.suite a ((a, oe) :: pn)) v (tE Γ T X.K W (.var i))) (hb : attributeBase v (Str.ofString f) X.env (eval v X.env) = eval v X.env) :
    PE (X.suite a ((a, oe) :: pn)) (.Attribute v (Str.ofString f) pos) (tE Γ T X.K W (.xfld f)) := by
  refine ⟨fun pins s σ H Q I ⟨σv, h, rs, rh, z⟩ => ?_⟩
  simp only [wpE] at z
  obtain ⟨i', a', e', z1, z2, z3⟩ := z
  rw [hcur] at z1
  cases z1
  unfold xfR at z3
  cases q : e.d with
  | none => rw [q] at z3; exact z3.elim
  | some d =>
    rw [q] at z3
    dsimp only at z3
    cases q2 : h d with
    | none => rw [q2] at z3; exact z3.elim
    | some o =>
      rw [q2] at z3
      cases o with
      | xd fs =>
        dsimp only at z3
        cases q3 : flook f fs with
        | none => rw [q3] at z3; exact z3.elim
        | some y =>
          rw [q3] at z3
          obtain ⟨⟨ns, z4, z5⟩, z6⟩ := z3
          obtain ⟨C1, C2⟩ := C ns z4 z5
          refine (pe_xf (X := X) C1 C2 hz hf hv hb).run pins s σ H Q I ?_
          have w0 : wpE Γ (.var i) σv h (fun u h1 => u = .ref a ∧ h1 = h) (dx T X.K H fun c d H' => W c d σ H') := by
            simp [wpE, z2]
          refine tE.of L .refl rs rh w0 fun u h1 w1 x H1 l1 rh1 rx => ?_
          obtain ⟨rfl, rfl⟩ := w1
          obtain rfl := rv_ref.mp rx
          obtain ⟨u, e2, gs, rfl, r3⟩ := rh1 d _ q2
          obtain ⟨yv, e4, r4⟩ := RF.some r3 q3
          exact ⟨rfl, rfl, d, gs, yv, q, e2, e4, dn.at (dn.sh l1 z6) rh1 r4⟩
      | _ => exact z3.elim
end
end MP
end
section
set_option maxHeartbeats 1000000
/-! MpLk: a dict is walked by its items, locked meanwhile. -/
namespace MP
open PySem PySem.Spec PyProof.Rows L2
/-- the pairs of a locked dict with tuple keys, each a new tuple of the key's own tuple and the value -/
def Itit (d : Addr) (o : PySem.Obj) (kvs : List (List Key × V)) : L2.It :=
  ⟨fun i H => H d = some (.frz o (.dT kvs)) ∧ i < kvs.length, fun i H x H' => ∃ (t : Addr) (k : List Key) (v : V) (q : Addr), kvs[i]? = some (k, v) ∧ x = .ref t ∧ H q = some (.tup (k.map kV)) ∧ H t = none ∧ H' = upd H t (.tup [.ref q, v]), fun i H => H d = some (.frz o (.dT kvs)) ∧ kvs.length ≤ i⟩
section
variable {X : Ctx} {pins : List (Addr × PySem.Obj)} {σ : L2.St} {H : Hp} {s : Shared} {d : Addr} {o : PySem.Obj}
theorem frzT2 {kvs : List (List Key × V)} (I : Inv X pins σ H s) (h : H d = some (.frz o (.dT kvs))) :
    (d == sysModules) = false ∧ s.heap.get? d = some o ∧ o.ExactDict ∧ ∃ (es : Array DictEntry) (ep : Nat), o.data = .dict es ep ∧ es.size = kvs.length ∧
      ∀ (i : Nat) (k : List Key) (v : V), kvs[i]? = some (k, v) → ∃ (en : DictEntry) (q : Addr), es[i]? = some en ∧ en.key = .ref q ∧ H q = some (.tup (k.map kV)) ∧ RelV v en.val := by
  obtain ⟨hd, z, hs, xs, pr, o', es, ep, ho, hx, hdt, he, _⟩ := I.hok d _ h
  rw [hd] at ho
  cases ho
  refine ⟨hs, hd, hx, es, ep, hdt, ?_, fun i k v e => ?_⟩
  · have l1 : es.size = xs.length := size_of_entries he
    have l2 : kvs.length = xs.length := Paired.length pr
    omega
  · obtain ⟨b, hb, e1, e2, e3⟩ := L2.paired_get pr e
    have q := entry_at he i
    rw [hb] at q
    exact ⟨_, b.2.1, q, rfl, e2, e3⟩
end
section
variable {P : Program} {w : World} {K : PySem.W.Frag} {tg : Expr} {d : Addr} {o : PySem.Obj} {es : Array DictEntry} {ep : Nat}
theorem turn_itemsT {kvs : List (List Key × V)} {elts : List Expr} {kk : Nat} {tpos : Pos} (it : Addr) (hod : o.data = .dict es ep) :
    Turn P w K (.Tuple elts kk tpos) (Itit d o kvs) [it] it (fun i h => ∃ ok ov, IsItemIter h it d i kvs.length ep ok ov) where
  mem := by simp
  obj := fun i h st b hb => by
    have e : b = it := by simpa using hb
    subst e
    obtain ⟨ok, ov, e⟩ := st
    exact ⟨_, e, fun v z => nomatch z⟩
  keep := fun i h h' st k => let ⟨ok, ov, e⟩ := st; ⟨ok, ov, k it (by simp) _ e⟩
  item := by
    intro X hP hw hK hc i pins s σ H E I hf st hg
    subst hP hw hK
    obtain ⟨hd, hi⟩ := hg
    obtain ⟨hs, hgd, hx, es', ep', hdt, hsz, ent⟩ := frzT2 I hd
    obtain ⟨rfl, rfl⟩ := dict_ep hod hdt
    obtain ⟨⟨k, v⟩, hkv⟩ : ∃ p, kvs[i]? = some p := ⟨kvs[i], List.getElem?_eq_getElem hi⟩
    obtain ⟨en, q, hen, hkey, hq, hv⟩ := ent i k v hkv
    obtain ⟨ok, ov, he⟩ := st
    have hlt : it < s.heap.objs.size := Heap.lt_size he
    have hi' : i < es'.size := by omega
    have een : es'[i] = en := by rw [Array.getElem?_eq_getElem hi'] at hen; exact Option.some.inj hen
    rw [← hsz] at he
    refine DT.nextI he ⟨o, hgd, hx, hdt⟩ hi' fun h' ho hT hz hk => ?_
    rw [een] at ho hT
    refine ⟨_, rfl, wpAny_letOwnedTupleGo_items (s := { s with heap := h' }) ho fun h'' he' sb => ?_⟩
    have hT2 : h''.get? s.heap.objs.size = some { cls := .type "tuple", data := .seq #[en.key, en.val] } := (sb.2 _ (Nat.ne_of_gt hlt)).trans hT
    have new : ObjOk X.prog X.w (upd H s.heap.objs.size (.tup [.ref q, v])) h'' s.heap.objs.size (.tup [.ref q, v]) :=
      ⟨by show 2 ≤ sizeLine; decide, [en.key, en.val], .cons hkey (.cons hv .nil), ⟨_, hT2, rfl, _, rfl⟩⟩
    have I1 : Inv X pins σ (upd H s.heap.objs.size (.tup [.ref q, v])) { s with heap := h'' } :=
      I.turnedNew (t' := s.toks) (ch := [it]) (fun b ob hb e => (sb.2 b (by simpa using hb)).trans (hk b ob (by simpa using hb) e)) hf (Nat.le_refl _) new
    refine ⟨.ref s.heap.objs.size, _, I1, rfl, ⟨_, k, v, q, hkv, rfl, hq, I.hok.fresh (Nat.le_refl _), rfl⟩, ⟨_, _, by rw [← hsz]; exact he'⟩, fun b hb => ?_⟩
    have e : b = it := by simpa using hb
    rw [e, upd_ne (Nat.ne_of_lt hlt)]
    exact (hf it (by simp)).1
  done := by
    intro X hP hw hK hc i pins s σ H E I hf st hg
    subst hP hw hK
    obtain ⟨hd, hi⟩ := hg
    obtain ⟨f0, f1, f2, f3, f4, f5⟩ := hf it (by simp)
    obtain ⟨hs, hgd, hx, es', ep', hdt, hsz, ent⟩ := frzT2 I hd
    obtain ⟨rfl, rfl⟩ := dict_ep hod hdt
    obtain ⟨ok, ov, he⟩ := st
    rw [← hsz] at he
    exact DT.endI (I.ok.hd hc) he ⟨o, hgd, hx, hdt⟩ (by omega) fun h' eb => ⟨rfl, I.turned (t' := s.toks) (fun b ob hb e => eb b ob hb e) f0 f1 f3 f4 f5⟩
  self := fun A i s Q E st h => let ⟨_, _, e⟩ := st; PySem.W.kcp_self e h
end
/-- e.items(): the dict is locked from then on -/
def iItemsL (X : Ctx) (td : TE) : TI := fun σ H R => td σ H fun x H1 => ∃ d u, x = .ref d ∧ H1 d = some u ∧ ((∃ kvs, u = .dK kvs) ∨ ∃ kvs, u = .dT kvs) ∧
  ∀ od, (∀ o' u', X.H_0 d ≠ some (.frz o' u')) → (∀ kvs, u = .dK kvs → R (Iti d od kvs) (upd H1 d (.frz od u))) ∧ ∀ kvs, u = .dT kvs → R (Itit d od kvs) (upd H1 d (.frz od u))
section
variable {X : Ctx} {tg e : Expr} {td : TE} {apos cpos tpos : Pos} {elts : List Expr} {kk : Nat}
theorem pi_itemsL (he : PE X e td) (hbase : attributeBase e "items" X.env (eval e X.env) = eval e X.env) (hline : (apos.endLine == cpos.line) = true) : PI X (.Tuple elts kk tpos) (.Call (.Attribute e "items" apos) [] [] cpos) (iItemsL X td) := by
  refine ⟨fun pins s σ H R I h => ?_⟩
  refine wpAny_Call_method (T := "dict") (id := "dict.items") hbase rfl hline F.plainAttrs_dict F.slot_dict_items F.type_dict_items (thn (he.run pins s σ H _ I h) fun u s1 ⟨x, H1, I0, rx, d, ob, ex, hd0, ho, q0⟩ => ?_)
  subst ex
  obtain rfl : u = Value.ref d := rx
  rcases ho with ⟨kvs, rfl⟩ | ⟨kvs, rfl⟩
  · obtain ⟨o, I1⟩ := I0.lock hd0 True.intro
    have q := (q0 o (I0.nofrz hd0 True.intro)).1 kvs rfl
    obtain ⟨hs, hgd, hx, es, ep, vs, hdt, hsz, kv, hm⟩ := I1.frzK upd_same
    have hl : kvs.length = vs.length := Paired.length kv
    refine ⟨hm.dictOf.typeIs, hm.dictOf.mapOf.noDict, ?_⟩
    have I2 := I1.kept (t' := s1.toks) (h' := s1.heap.push { cls := .type "dict_items", data := .fields #[.ref d] }) fun b ob q => Heap.get?_push_of_some _ q
    have fin : wpAny (model X.prog X.w) X.A (pyIter (.ref s1.heap.objs.size)) (PIE X pins σ (.Tuple elts kk tpos) R) X.xe { s1 with heap := s1.heap.push { cls := .type "dict_items", data := .fields #[.ref d] } } := by
      refine wpAny_pyIter_items (d := d) (knd := mixKind X.prog X.w) ⟨_, Heap.get?_push_size _ rfl, rfl, rfl⟩ (hm.push _) (pi_one (tk := s1.toks) I2 _ (turn_items _ hdt) ⟨.none, .none, ?_⟩ q)
      rw [hl]
      exact Heap.get?_push_size _ rfl
    show wpAny _ _ (callWith cpos (.builtin "dict.items") [.ref d] [] []) _ X.xe s1
    exact method_meetsIn F.slot_dict_items F.entry_dict_items rfl (PySem.evalArgs_none ⟨rfl, hm.dictOf.typeIs, F.args_dict_items_1 _, _, meets_dict_items (mixKind X.prog X.w) d hs, ⟨vs, hm.dictOf⟩, fin⟩)
  · obtain ⟨o, I1⟩ := I0.lock hd0 True.intro
    have q := (q0 o (I0.nofrz hd0 True.intro)).2 kvs rfl
    obtain ⟨hs, hgd, hx, es, ep, hdt, hsz, ent⟩ := frzT2 I1 upd_same
    have raw : DT.Raw s1.heap d es ep := ⟨o, hgd, hx, hdt⟩
    refine ⟨raw.typeIs, fun a' e' => ⟨o, by cases e'; exact hgd, hx.2.1⟩, ?_⟩
    have I2 := I1.kept (t' := s1.toks) (h' := s1.heap.push { cls := .type "dict_items", data := .fields #[.ref d] }) fun b ob q => Heap.get?_push_of_some _ q
    have fin : wpAny (model X.prog X.w) X.A (pyIter (.ref s1.heap.objs.size)) (PIE X pins σ (.Tuple elts kk tpos) R) X.xe { s1 with heap := s1.heap.push { cls := .type "dict_items", data := .fields #[.ref d] } } := by
      refine DT.iterI (d := d) (s := { s1 with heap := s1.heap.push { cls := .type "dict_items", data := .fields #[.ref d] } }) ⟨_, Heap.get?_push_size _ rfl, rfl, rfl⟩ (raw.push _) (pi_one (tk := s1.toks) I2 _ (turn_itemsT _ hdt) ⟨.none, .none, ?_⟩ q)
      rw [← hsz]
      exact Heap.get?_push_size _ rfl
    show wpAny _ _ (callWith cpos (.builtin "dict.items") [.ref d] [] []) _ X.xe s1
    exact method_meetsIn F.slot_dict_items F.entry_dict_items rfl (PySem.evalArgs_none ⟨rfl, raw.typeIs, F.args_dict_items_1 _, _, DT.meetsItems hs, raw, fin⟩)
end
end MP
namespace MP
open PySem PySem.Spec PyProof.Rows L2
section
variable {T : Tb} {K : Frag}
theorem RD.get2 {H : Hp} : ∀ {kvs : List (Val × Val)} {ks : List (Key × V)}, RD T K H kvs ks → ∀ {i : Nat} {k v : Val}, kvs[i]? = some (k, v) → ∃ j y, ks[i]? = some (j, y) ∧ k = ofK j ∧ okK j ∧ RV T K H v y
  | [], _, h, i, k, v, e => by simp at e
  | (k0, v0) :: r, _, ⟨j, y, s, e0, h1, h2, h3, h4⟩, 0, k, v, e => by
    subst e0
    simp at e
    obtain ⟨rfl, rfl⟩ := e
    exact ⟨j, y, rfl, h1, h2, h3⟩
  | (k0, v0) :: r, _, ⟨j, y, s, e0, h1, h2, h3, h4⟩, i + 1, k, v, e => by
    subst e0
    simpa using RD.get2 h4 (i := i) (by simpa using e)
theorem RDt.get2 {H : Hp} : ∀ {kvs : List (Val × Val)} {ks : List (List Key × V)}, RDt T K H kvs ks → ∀ {i : Nat} {k v : Val}, kvs[i]? = some (k, v) → ∃ j y, ks[i]? = some (j, y) ∧ k = .tup (j.map ofK) ∧ (∀ i ∈ j, okK i) ∧ RV T K H v y
  | [], _, h, i, k, v, e => by simp at e
  | (k0, v0) :: r, _, ⟨j, y, s, e0, h1, h2, h3, h4⟩, 0, k, v, e => by
    subst e0
    simp at e
    obtain ⟨rfl, rfl⟩ := e
    exact ⟨j, y, rfl, h1, h2, h3⟩
  | (k0, v0) :: r, _, ⟨j, y, s, e0, h1, h2, h3, h4⟩, i + 1, k, v, e => by
    subst e0
    simpa using RDt.get2 h4 (i := i) (by simpa using e)
theorem rvs_keys {H : Hp} : ∀ {j : List Key}, (∀ i ∈ j, okK i) → RVs T K H (j.map ofK) (j.map kV)
  | [], _ => .nil
  | k :: j, h => .cons (of_rv (h k List.mem_cons_self)) (rvs_keys fun i hi => h i (List.mem_cons_of_mem _ hi))
theorem itemsD_get {kvs : List (Val × Val)} {i : Nat} {v : Val} (h : (itemsD kvs)[i]? = some v) : ∃ k y, kvs[i]? = some (k, y) ∧ v = .tup [k, y] := by
  unfold itemsD at h
  rw [List.getElem?_map] at h
  cases q : kvs[i]? with
  | none => rw [q] at h; cases h
  | some p => rw [q] at h; cases h; exact ⟨p.1, p.2, rfl, rfl⟩
/-- the locked dict yields its pairs -/
theorem jok_items {H0 : Hp} {d : Addr} {od : PySem.Obj} {kvs : List (Val × Val)} {ks : List (Key × V)} (h0 : H0 d = some (.frz od (.dK ks))) : JOk T K H0 (Iti d od ks) (itemsD kvs) fun h => h d = some (.lck false kvs) := fun i H h l rh e => by
  have hd := l.frz _ _ _ h0
  obtain ⟨u', e2, od', u2, q, ro⟩ := rh.obj d _ e
  subst q
  rw [hd] at e2
  cases e2
  obtain ⟨ks', q, rd⟩ := ro
  cases q
  have hl : (itemsD kvs).length = ks.length := by unfold itemsD; rw [List.length_map]; exact rd.len
  refine ⟨fun hi => ⟨hd, by omega⟩, fun v hv => ?_⟩
  obtain ⟨k, y, e1, rfl⟩ := itemsD_get hv
  obtain ⟨j, yv, e2, rfl, ok, ry⟩ := rd.get2 e1
  refine ⟨⟨hd, (List.getElem?_eq_some_iff.mp e2).1⟩, fun x H' ⟨t, k', v', e3, h1, h2, h3⟩ => ?_⟩
  rw [e2] at e3
  cases e3
  subst h1 h3
  exact ⟨.new h2, rh.side h2, rv_tup.mpr ⟨t, _, rfl, upd_same, .cons (of_rv ok) (.cons (ry.le (.new h2)) .nil)⟩⟩
theorem jok_itemsT {H0 : Hp} {d : Addr} {od : PySem.Obj} {kvs : List (Val × Val)} {ks : List (List Key × V)} (h0 : H0 d = some (.frz od (.dT ks))) : JOk T K H0 (Itit d od ks) (itemsD kvs) fun h => h d = some (.lck true kvs) := fun i H h l rh e => by
  have hd := l.frz _ _ _ h0
  obtain ⟨u', e2, od', u2, q, ro⟩ := rh.obj d _ e
  subst q
  rw [hd] at e2
  cases e2
  obtain ⟨ks', q, rd⟩ := ro
  cases q
  have hl : (itemsD kvs).length = ks.length := by unfold itemsD; rw [List.length_map]; exact rd.len
  refine ⟨fun hi => ⟨hd, by omega⟩, fun v hv => ?_⟩
  obtain ⟨k, y, e1, rfl⟩ := itemsD_get hv
  obtain ⟨j, yv, e2, rfl, ok, ry⟩ := rd.get2 e1
  refine ⟨⟨hd, (List.getElem?_eq_some_iff.mp e2).1⟩, fun x H' ⟨t, k', v', q, e3, h1, hq, h2, h3⟩ => ?_⟩
  rw [e2] at e3
  cases e3
  subst h1 h3
  exact ⟨.new h2, rh.side h2, rv_tup.mpr ⟨t, _, rfl, upd_same, .cons (rv_tup.mpr ⟨q, _, rfl, by rw [upd_ne (ne_of_none hq h2)]; exact hq, rvs_keys ok⟩) (.cons (ry.le (.new h2)) .nil)⟩⟩
end
/-- what is walked by its items: what is known of the lock -/
def tID (X : Ctx) (Γ : Gam) (T : Tb) (W : WX) (m : E) : TI := fun σ H R => ∃ σv h, RS T X.K H σv σ ∧ RH T X.K h H ∧ wpE Γ m σv h (fun x h1 => lckK x h1 fun a t kvs => ∀ H1 u od, HLe H H1 → H1 a = some u → Free u → HLe H (upd H1 a (.frz od u)) → RH T X.K (up h1 a (.lck t kvs)) (upd H1 a (.frz od u)) → (∀ o' u', X.H_0 a ≠ some (.frz o' u')) → ∀ J, JOk T X.K (upd H1 a (.frz od u)) J (itemsD kvs) (fun h => h a = some (.lck t kvs)) → R J (upd H1 a (.frz od u))) (dx T X.K H fun c d H' => W c d σ H')
section
variable {X : Ctx} {Γ : Gam} {T : Tb} {W : WX} {a b c e tg : Expr} {ma mb mc : E} {ms : Ss} {pos apos cpos tpos : Pos} {elts : List Expr} {kk : Nat}
theorem lckK_some {x : Val} {h : VH} {k : Nat → Bool → List (Val × Val) → Prop} (z : lckK x h k) : ∃ a t kvs, x = .ref a ∧ h a = some (.dic t kvs) ∧ k a t kvs := by
  unfold lckK lckV at z
  split at z
  · rename_i q
    split at q
    · split at q
      · cases q
        exact ⟨_, _, _, rfl, ‹_›, z⟩
      · cases q
    · cases q
  · exact z.elim
theorem s_itemsI (L : Le Γ Γ) (he : PE X e (tE Γ T X.K W ma)) (hbase : attributeBase e "items" X.env (eval e X.env) = eval e X.env) (hline : (apos.endLine == cpos.line) = true) : PI X (.Tuple elts kk tpos) (.Call (.Attribute e "items" apos) [] [] cpos) (tID X Γ T W ma) :=
  (pi_itemsL he hbase hline).imp fun σ H R ⟨σv, h, rs, rh, w⟩ => by
    refine tE.of L .refl rs rh w fun x h1 w1 xv H1 l1 rh1 rx => ?_
    obtain ⟨d, t, kvs, rfl, hd, k⟩ := lckK_some w1
    obtain ⟨u, e1, ro⟩ := rh1.obj _ _ hd
    have f : Free u := RDo.free ro
    refine ⟨d, u, rv_ref.mp rx, e1, ?_, fun od nf => ?_⟩
    · cases t with
      | false => obtain ⟨ks, rfl, _⟩ := ro; exact .inl ⟨ks, rfl⟩
      | true => obtain ⟨ks, rfl, _⟩ := ro; exact .inr ⟨ks, rfl⟩
    · have l2 : HLe H (upd H1 d (.frz od u)) := l1.trans (.put e1 f)
      have k2 := k H1 u od l1 e1 f l2 (rh1.lock hd e1) nf
      refine ⟨fun ks q => ?_, fun ks q => ?_⟩
      · subst q
        cases t with
        | false => exact k2 _ (jok_items upd_same)
        | true => obtain ⟨_, q, _⟩ := ro; cases q
      · subst q
        cases t with
        | false => obtain ⟨_, q, _⟩ := ro; cases q
        | true => exact k2 _ (jok_itemsT upd_same)
/-- the lock is opened behind the statement -/
def tUnl (X : Ctx) (t : TS) : TS := fun D σ H => t ⟨fun σ' H' => ∃ d od u, H' d = some (.frz od u) ∧ (∀ o' u', X.H_0 d ≠ some (.frz o' u')) ∧ D.nx σ' (upd H' d u), fun v H' => ∃ d od u, H' d = some (.frz od u) ∧ (∀ o' u', X.H_0 d ≠ some (.frz o' u')) ∧ D.rt v (upd H' d u), fun _ _ => False, fun _ _ => False⟩ σ H
theorem ps_unlock {st : Stmt} {t : TS} (h : PS X st t) : PS X st (tUnl X t) := by
  refine ⟨fun pins s σ H D I hw => ?_⟩
  refine thn (h.run pins s σ _ _ I hw) fun f s1 q => ?_
  cases f with
  | next => obtain ⟨σ', H', I2, d, od, u, e, n, q⟩ := q; exact ⟨σ', _, I2.unlock e n, q⟩
  | brk => obtain ⟨σ', H', I2, q⟩ := q; exact q.elim
  | cont => obtain ⟨σ', H', I2, q⟩ := q; exact q.elim
  | ret v => obtain ⟨x, σ', H', I2, r, d, od, u, e, n, q⟩ := q; exact ⟨x, σ', _, I2.unlock e n, r, q⟩
def tUnlE (X : Ctx) (t : TE) : TE := fun σ H Q => t σ H fun v H' => ∃ d od u, H' d = some (.frz od u) ∧ (∀ o' u', X.H_0 d ≠ some (.frz o' u')) ∧ Q v (upd H' d u)
theorem pe_unlock {e : Expr} {t : TE} (h : PE X e t) : PE X e (tUnlE X t) := by
  refine ⟨fun pins s σ H Q I hw => ?_⟩
  refine thn (h.run pins s σ _ _ I hw) fun v s1 ⟨x, H1, I2, r, d, od, u, e2, n, q⟩ => ?_
  exact ⟨x, _, I2.unlock e2 n, r, q⟩
theorem s_forD (L : Le Γ Γ) {iter : Expr} {body : List Stmt} {g : G} (hp : PassesOwn (model X.prog X.w) X.A X.env X.xe) (hc : X.calm = true) (hi : PI X tg iter (tID X Γ T W ma)) (hg : PG X tg (tG T X.K g)) (hb : PSs X body (tSs Γ T X.K W ms)) (hs : ∀ x, foldedSetIterable iter X.env x = pure x) :
    PS X (.For tg iter body [] pos) (tS Γ T X.K W (.loopD g ma ms)) :=
  (ps_unlock (ps_for hp hc hi hg hb hs)).imp fun D σ H ⟨σv, h, rs, rh, w⟩ => by
    simp only [wpS] at w
    refine ⟨σv, h, rs, rh, wpE_mono L ma σv h _ _ _ _ (fun x h1 w1 => lckK_mono (fun d t kvs w1 H1 u od l0 hd f l1 rh1 nf J jok => ?_) w1) (fun _ _ z => ex_of rs z) w⟩
    let G : List Val → VS → VH → Prop := fgo (fun v σ h k => gset g v σ fun σ' => wpSs Γ ms σ' h { nx := k, rt := fun v h => h d = some (.lck t kvs) ∧ (dD T X.K W H D).rt v (up h d (.dic t kvs)), ex := (dD T X.K W H D).ex }) (fun h' => h' d = some (.lck t kvs)) (fun σ' h' => (dD T X.K W H D).nx σ' (up h' d (.dic t kvs)))
    refine ⟨fun i m σ' H' => ∃ σv' h', HLe (upd H1 d (.frz od u)) H' ∧ RS T X.K H' σv' σ' ∧ RH T X.K h' H' ∧ m = (itemsD kvs).length - i ∧ i ≤ (itemsD kvs).length ∧ G ((itemsD kvs).drop i) σv' h',
      ⟨(itemsD kvs).length, σv, _, .refl, rs.le l1, rh1, rfl, Nat.zero_le _, w1⟩, ?_⟩
    rintro i m σ' H' ⟨σv', h', l2, rs2, rh2, rfl, hle, w3⟩
    by_cases hlt : i < (itemsD kvs).length
    · rw [List.drop_eq_getElem_cons hlt] at w3
      obtain ⟨hg', w3⟩ := w3
      obtain ⟨go, jy⟩ := (jok i H' h' l2 rh2 hg').2 _ (List.getElem?_eq_getElem hlt)
      refine .inr ⟨go, fun σ'' H'' => ∃ σv'' h'', HLe (upd H1 d (.frz od u)) H'' ∧ RS T X.K H'' σv'' σ'' ∧ RH T X.K h'' H'' ∧ G ((itemsD kvs).drop (i + 1)) σv'' h'', fun σ'' H'' ⟨σv'', h'', a1, a2, a3, a4⟩ => ⟨(itemsD kvs).length - (i + 1), by omega, σv'', h'', a1, a2, a3, rfl, hlt, a4⟩, fun x H3 hy => ?_⟩
      obtain ⟨l3, rh3, rx⟩ := jy x H3 hy
      have l13 := l2.trans l3
      refine ⟨_, σv', rx, rs2.le l3, gset_mono (fun σ4 w4 σ5 rs5 => ?_) w3⟩
      refine ⟨σ4, h', rs5, rh3, wpSs_mono L ms σ4 h' { nx := fun σ h => G ((itemsD kvs).drop (i + 1)) σ h, rt := fun v h => h d = some (.lck t kvs) ∧ (dD T X.K W H D).rt v (up h d (.dic t kvs)), ex := (dD T X.K W H D).ex } _ ⟨fun σ6 h6 z σ7 H7 l7 rs7 rh7 => ⟨σ6, h6, l13.trans l7, rs7, rh7, z⟩, fun v h6 z x6 H6 l6 rh6 rv6 => ?_, fun e σ6 h6 (z : (dD T X.K W H D).ex e σ6 h6) cls d' σ7 H7 l7 => z cls d' σ7 H7 (l1.trans (l13.trans l7))⟩ w4⟩
      have fd : H6 d = some (.frz od u) := (l13.trans l6).frz d od u upd_same
      obtain ⟨nz, rh7⟩ := rh6.unlock z.1 fd
      exact ⟨d, od, u, fd, nf, z.2 _ _ (l0.trans (.over hd f (l13.trans l6))) rh7 (rv6.lew (.unlock fd nz))⟩
    · have e : i = (itemsD kvs).length := by omega
      subst e
      rw [List.drop_length] at w3
      have fd : H' d = some (.frz od u) := l2.frz d od u upd_same
      obtain ⟨nz, rh7⟩ := rh2.unlock w3.1 fd
      exact .inl ⟨(jok _ H' h' l2 rh2 w3.1).1 (Nat.le_refl _), d, od, u, fd, nf, w3.2 _ _ (l0.trans (.over hd f l2)) (rs2.lew (.unlock fd nz)) rh7⟩
/-! ### comprehensions over a dict's items -/
theorem lc_readD (L : Le Γ Γ) {el : E} {t : G} {c : O} {vs : List Nat} (hi : ∀ i ∈ slotsOf t, i ∈ vs) {σ : L2.St} {H : Hp} {Q : VK} (w : tE Γ T X.K W (.cmprD el t ma c vs) σ H Q) :
    tUnlE X (tLc (tID X Γ T W ma) (gRaw X.K t) (tIf1 Γ T X.K c) (tE Γ T X.K W0 el) vs) σ H Q := by
  obtain ⟨σv, h, rs, rh, w⟩ := w
  simp only [wpE] at w
  refine ⟨σv, h, rs, rh, wpE_mono L ma σv h _ _ _ _ (fun x h1 w1 => lckK_mono (fun a kt kvs w1 H1 u od l0 hd f l1 rh1 nf J jok D hD => ?_) w1) (fun _ _ z => z) w⟩
  have w2 := w1 D (rh1.fresh hD)
  let g : VH → Prop := fun h' => h' a = some (.lck kt kvs)
  let fin : VH → Prop := fun h' => dn T X.K H Q (.ref D) (up h' a (.dic kt kvs))
  let H1' : Hp := upd H1 a (.frz od u)
  refine ⟨fun i m H' => ∃ h', HLe H1' H' ∧ RH T X.K h' H' ∧ m = (itemsD kvs).length - i ∧ i ≤ (itemsD kvs).length ∧ cgo (cbody Γ el t c vs σv) g D fin ((itemsD kvs).drop i) h', ⟨(itemsD kvs).length, _, .new hD, rh1.new (x := .lst []) hD ⟨[], rfl, .nil⟩, rfl, Nat.zero_le _, w2⟩, ?_⟩
  rintro i m H' ⟨h', l2, rh2, rfl, hle, w3⟩
  by_cases hlt : i < (itemsD kvs).length
  · rw [List.drop_eq_getElem_cons hlt] at w3
    obtain ⟨hg, w3⟩ := w3
    obtain ⟨_, jgo⟩ := jok i H' h' l2 rh2 hg
    obtain ⟨go, jy⟩ := jgo _ (List.getElem?_eq_getElem hlt)
    refine .inr ⟨go, fun H'' => ∃ h'', HLe H1' H'' ∧ RH T X.K h'' H'' ∧ cgo (cbody Γ el t c vs σv) g D fin ((itemsD kvs).drop (i + 1)) h'', fun H'' ⟨h'', a1, a2, a3⟩ => ⟨(itemsD kvs).length - (i + 1), by omega, h'', a1, a2, rfl, hlt, a3⟩, fun x H3 hy => ?_⟩
    obtain ⟨l3, rh3, rx⟩ := jy x H3 hy
    have l13 := l2.trans l3
    have rsw : RS T X.K H3 (swipe σv vs) (wipe σ vs) := (rs.le (l1.trans l13)).wipe vs
    refine graw_go hi rx rsw w3 fun σv' σ2 rs2 hw w4 => ⟨by rw [hw, wipe_idem], ?_⟩
    have fin2 : ∀ (b : Bool) (H4 : Hp) (h4 : VH), HLe H3 H4 → RH T X.K h4 H4 → (if b = true then wpE Γ el σv' h4 (fun y h5 => ∃ acc, h5 D = some (.lst acc) ∧ acc.length < SZ ∧ cgo (cbody Γ el t c vs σv) g D fin ((itemsD kvs).drop (i + 1)) (up h5 D (.lst (acc ++ [y])))) (fun _ _ => False) else cgo (cbody Γ el t c vs σv) g D fin ((itemsD kvs).drop (i + 1)) h4) →
        if b = true then tE Γ T X.K W0 el σ2 H4 (fun y H5 => ∃ acc, H5 D = some (.lst acc) ∧ acc.length < sizeLine ∧ ∃ h'', HLe H1' (upd H5 D (.lst (acc ++ [y]))) ∧ RH T X.K h'' (upd H5 D (.lst (acc ++ [y]))) ∧ cgo (cbody Γ el t c vs σv) g D fin ((itemsD kvs).drop (i + 1)) h'')
        else ∃ h'', HLe H1' H4 ∧ RH T X.K h'' H4 ∧ cgo (cbody Γ el t c vs σv) g D fin ((itemsD kvs).drop (i + 1)) h'' := by
      intro b H4 h4 l4 rh4 w5
      cases b with
      | false => exact ⟨h4, l13.trans l4, rh4, w5⟩
      | true =>
        refine ⟨σv', h4, rs2.le l4, rh4, wpE_mono L el σv' h4 _ _ _ _ (fun y h5 z yv H5 l5 rh5 ry => ?_) (fun _ _ z => z.elim) w5⟩
        obtain ⟨acc, e1, e2, w6⟩ := z
        obtain ⟨ws, e3, rw'⟩ := rh5.lst e1
        have l6 := (l13.trans l4).trans l5
        exact ⟨ws, e3, by rw [szl, ← rw'.length]; exact e2, _, l6.trans (.put e3 True.intro), rh5.put (x := .lst (acc ++ [y])) e3 True.intro ⟨_, rfl, (rw'.append (.cons ry .nil)).le (.put e3 True.intro)⟩, w6⟩
    cases c with
    | no =>
      simp only [wpC] at w4
      exact fin2 true H3 h' .refl rh3 w4
    | some mc =>
      simp only [wpC] at w4
      exact ⟨σv', h', rs2, rh3, wpE_mono L mc σv' h' _ _ _ _ (fun u h4 z => onT_mono (fun b h4 z H4 l4 rh4 => fin2 b H4 h4 l4 rh4 z) z) (fun _ _ z => z.elim) w4⟩
  · have e : i = (itemsD kvs).length := by omega
    subst e
    rw [List.drop_length] at w3
    have fd : H' a = some (.frz od u) := l2.frz a od u upd_same
    obtain ⟨nz, rh7⟩ := rh2.unlock w3.1 fd
    exact .inl ⟨(jok _ H' h' l2 rh2 w3.1).1 (Nat.le_refl _), a, od, u, fd, nf, w3.2 _ _ (l0.trans (.over hd f l2)) rh7 (rv_ref.mpr rfl)⟩
theorem s_cmprD (L : Le Γ Γ) {elt iter : Expr} {ifs : List Expr} {scope : Scope} {own : List (Str × Nat)} {g : G} {c : O} {el : E} (hc : X.calm = true) (hN : X.N.Nodup) (hi : PI X tg iter (tID X Γ T W ma)) (ok : BlkOk X.N X.env.scope scope own) (hsl : ∀ i ∈ slotsOf g, i ∈ own.map (·.2))
    (hg : ∀ (s : Shared) (H : Hp) (C : Addr) (cl : List (Str × Addr)) (fp : List Addr), PG (X.blk s H scope (compEnvC scope cl C X.env) fp) tg (gRaw X.K g)) (ht : ∀ (s : Shared) (H : Hp) (C : Addr) (cl : List (Str × Addr)) (fp : List Addr), PTs (X.blk s H scope (compEnvC scope cl C X.env) fp) ifs (tIf1 Γ T X.K c))
    (he : ∀ (s : Shared) (H : Hp) (C : Addr) (cl : List (Str × Addr)) (fp : List Addr), PE (X.blk s H scope (compEnvC scope cl C X.env) fp) elt (tE Γ T X.K W0 el)) (hs : ∀ x, foldedSetIterable iter X.env x = pure x) :
    PE X (.ListComp elt [⟨tg, iter, ifs, 0⟩] scope pos) (tE Γ T X.K W (.cmprD el g ma c (own.map (·.2)))) :=
  (pe_unlock (pe_lc hc hN hi ok hg ht he hs)).imp fun σ H Q w => lc_readD L hsl w
end
end MP
end
section
set_option maxHeartbeats 2000000
/-! MpZt: try .. except c: without a name. -/
namespace MP
open PySem PySem.Spec PyProof.Rows L2
theorem sset_out : ∀ {σ : VS} {i : Nat} {v : Option Val}, σ.length ≤ i → sset σ i v = σ
  | [], _, _, _ => rfl
  | _ :: _, 0, _, h => by simp at h
  | x :: r, i + 1, v, h => by
    show x :: sset r i v = x :: r
    rw [sset_out (by simpa using h)]
section
variable {X : Ctx} {Γ : Gam} {T : Tb} {W : WX} {pos : Pos}
theorem s_tryN (L : Le Γ Γ) (hs : X.stack = X.env :: X.outer) (hf : X.env.frame = some X.env.locals) {x : Str} {np p' : Pos} {c : String} {i : Nat} (hi : X.N.length ≤ i) (hc : Names X x (cv T c)) (tk : Takes X W)
    (hsub : ∀ e b, Γ.sub e c = some b → PySem.W.exmOne X.K (.ref (T.cls e)) (cv T c) = some b) {body suite : List Stmt} {b₀ : Stmt} {mb ms : Ss}
    (hb : ∀ (W' : WX) (pn : List (Addr × PySem.Obj)) (xe : Value → Shared → Prop), Takes (X.tr pn xe) W' → PassesOwn (model X.prog X.w) X.A X.env xe → PSs (X.tr pn xe) body (tSs Γ T X.K W' mb))
    (hsu : ∀ (a : Addr) (oe : PySem.Obj) (e : Exc) (pn : List (Addr × PySem.Obj)), Zc (.ref (T.cls e.cls)) e.d oe → (∃ vs, oe.data = .fields vs) → PSs (X.suite a ((a, oe) :: pn)) (b₀ :: suite) (tSs { Γ with cur := some (i, a, e) } T X.K W0 ms)) :
    PS X (.Try body [.ExceptHandler (some (.Name x np)) none (b₀ :: suite) p'] [] [] pos) (tS Γ T X.K W (.try_ mb (.cons c i ms .nil) .nil)) := by
  refine (ps_try_only (ts := fun a cls d D σ H => ∃ e, RX T X.K H e cls d ∧ (σ.length = X.N.length → tSs { Γ with cur := some (i, a, e) } T X.K W0 ms { D with nx := fun σ H => σ.length = X.N.length → D.nx σ H } σ H)) hs hf hc tk (tb := fun W' => tSs Γ T X.K W' mb) hb fun a oe cls d pn hz hv => ⟨fun pins s σ H D I ⟨e, ⟨e1, e2⟩, q⟩ => ?_⟩).imp fun D σ H ⟨σv, h, rs, rh, w⟩ => ?_
  · subst e1
    subst e2
    refine wpAny_mono ((hsu a oe e pn hz hv).run pins s σ H { D with nx := fun σ H => σ.length = X.N.length → D.nx σ H } I (q I.len)) (fun f s' z => ?_) fun _ _ z => z
    cases f with
    | next =>
      obtain ⟨σ6, H6, S6, q6⟩ := z
      exact ⟨σ6, H6, S6, q6 S6.len⟩
    | brk => exact z
    | cont => exact z
    | ret u => exact z
  · simp only [wpS, wpSs] at w
    refine ⟨σv, h, rs, rh, wpSs_mono L mb σv h { nx := (dD T X.K W H D).nx, rt := (dD T X.K W H D).rt, ex := fun e σ h => wpHs Γ (.cons c i ms .nil) e σ h (dD T X.K W H D) } _ ⟨fun _ _ z => z, fun _ _ z => z, fun e σv' h' z cls d σ' H' l rs' rh' rx => ?_⟩ w⟩
    obtain ⟨e1, e2⟩ := rx
    subst e1
    simp only [wpHs] at z
    cases q : Γ.sub e.cls c with
    | none => rw [q] at z; exact z.elim
    | some b =>
      rw [q] at z
      refine ⟨b, hsub _ _ q, fun hb a ha => ?_, fun hb => ?_⟩
      · subst hb
        have ha' : h' a = none := rh'.fresh ha
        refine ⟨e, ⟨rfl, e2⟩, fun hlen => ⟨sset σv' i (some (.ref a)), h', by rw [sset_out (by rw [rs'.1, hlen]; exact hi)]; exact rs', rh', ?_⟩⟩
        have L' : Le { Γ with cur := some (i, a, e) } { Γ with cur := some (i, a, e) } := ⟨rfl, rfl, rfl, rfl, rfl, rfl, rfl, L.call⟩
        refine wpSs_mono L' ms _ h' { nx := fun σ' h' => (dD T X.K W H D).nx (sset σ' i none) h', rt := (dD T X.K W H D).rt, ex := fun _ _ _ => False } _ ⟨fun σ2 h2 z2 σ3 H3 l3 rs3 rh3 hl3 => ?_, fun v h2 z2 => dn.sh l z2, fun _ _ _ z => z.elim⟩ (z a ha')
        exact z2 _ H3 (l.trans l3) (by rw [sset_out (by rw [rs3.1, hl3]; exact hi)]; exact rs3) rh3
      · subst hb
        simp only [wpHs] at z
        exact z (.ref (T.cls e.cls)) d σ' H' l rs' rh' ⟨rfl, e2⟩
end
end MP
end
section
set_option maxHeartbeats 4000000
/-! MpSq: sorting, plain; sorted of flat tuples and of a dict with tuple keys. -/
namespace MP
open PySem PySem.Spec PyProof.Rows L2 SrtO
section
variable {α β : Type} {lt : α → α → Bool}
theorem insL_split (x : α) : ∀ l : List α, ∃ M N, l = M ++ N ∧ insL lt x l = M ++ x :: N ∧ (∀ m ∈ M, lt m x = true) ∧ ∀ y r, N = y :: r → lt y x = false
  | [] => ⟨[], [], rfl, rfl, (fun _ h => nomatch h), fun y r e => nomatch e⟩
  | y :: r => by
    by_cases h : lt y x = true
    · obtain ⟨M, N, h1, h2, h3, h4⟩ := insL_split x r
      refine ⟨y :: M, N, by rw [h1]; rfl, ?_, fun m hm => ?_, h4⟩
      · unfold insL
        rw [if_pos h, h2]
        rfl
      · rcases List.mem_cons.mp hm with rfl | hm
        · exact h
        · exact h3 m hm
    · refine ⟨[], y :: r, rfl, ?_, (fun _ h => nomatch h), fun z s e => ?_⟩
      · unfold insL
        rw [if_neg h]
        rfl
      · cases e
        simpa using h
theorem insL_perm (x : α) (l : List α) : (insL lt x l).Perm (x :: l) := by
  obtain ⟨M, N, h1, h2, _, _⟩ := insL_split (lt := lt) x l
  rw [h2, h1]
  exact List.perm_middle
theorem isort_perm : ∀ l : List α, (isort lt l).Perm l
  | [] => .refl _
  | x :: r => by
    unfold isort
    exact (insL_perm x _).trans ((isort_perm r).cons x)
theorem insL_srtd (O : Swo lt) {x : α} {l : List α} (h : Srtd lt l) : Srtd lt (insL lt x l) := by
  obtain ⟨M, N, h1, h2, h3, h4⟩ := insL_split (lt := lt) x l
  rw [h2]
  subst h1
  obtain ⟨a, b, c⟩ := srtd_app.mp h
  refine srtd_app.mpr ⟨a, List.pairwise_cons.mpr ⟨fun y hy => ?_, b⟩, fun m hm z hz => ?_⟩
  · cases N with
    | nil => cases hy
    | cons n r =>
      have hn := h4 n r rfl
      rcases List.mem_cons.mp hy with rfl | hy
      · exact hn
      · have := srtd_head b y hy
        exact O.tr x n y |> fun _ => by
          cases e : lt y x with
          | false => rfl
          | true =>
            have := O.lelt this e
            rw [hn] at this
            cases this
  · rcases List.mem_cons.mp hz with rfl | hz
    · exact O.asym _ _ (h3 m hm)
    · exact c m hm z hz
theorem isort_srtd (O : Swo lt) : ∀ l : List α, Srtd lt (isort lt l)
  | [] => List.Pairwise.nil
  | x :: r => by unfold isort; exact insL_srtd O (isort_srtd O r)
theorem isort_stb (O : Swo lt) : ∀ l : List α, Stb lt (isort lt l) l
  | [] => Stb.refl _
  | x :: r => by
    unfold isort
    obtain ⟨M, N, h1, h2, h3, h4⟩ := insL_split (lt := lt) x (isort lt r)
    rw [h2]
    have s1 : Stb lt (M ++ [x] ++ N) ([x] ++ M ++ N) := Stb.app (Stb.swap O fun a ha b hb => by rw [List.mem_singleton.mp hb]; exact h3 a ha) (Stb.refl N)
    have s2 : Stb lt ([x] ++ (M ++ N)) ([x] ++ r) := Stb.app (Stb.refl _) (by rw [← h1]; exact isort_stb O r)
    have e1 : M ++ x :: N = M ++ [x] ++ N := by simp
    have e2 : [x] ++ M ++ N = [x] ++ (M ++ N) := by simp
    rw [e1]
    rw [e2] at s1
    exact s1.trans s2
/-- what sorts is the insertion sort -/
theorem isort_uniq (O : Swo lt) {l m : List α} (h1 : Srtd lt m) (h2 : Stb lt m l) : m = isort lt l :=
  stb_uniq O h1 (isort_srtd O l) (h2.trans ⟨(isort_stb O l).perm.symm, fun x => ((isort_stb O l).cls x).symm⟩)
theorem insL_map {lt : β → β → Bool} (f : α → β) (x : α) : ∀ l : List α, insL lt (f x) (l.map f) = (insL (fun a b => lt (f a) (f b)) x l).map f
  | [] => rfl
  | y :: r => by
    rw [List.map_cons]
    unfold insL
    by_cases h : lt (f y) (f x) = true
    · rw [if_pos h, if_pos h, List.map_cons, insL_map f x r]
    · rw [if_neg h, if_neg h]
      rfl
theorem isort_map {lt : β → β → Bool} (f : α → β) : ∀ l : List α, isort lt (l.map f) = (isort (fun a b => lt (f a) (f b)) l).map f
  | [] => rfl
  | x :: r => by
    rw [List.map_cons]
    unfold isort
    rw [isort_map f r, insL_map f x]
theorem insL_paired {lt2 : β → β → Bool} {R : α → β → Prop} (hR : ∀ a b c d, R a b → R c d → lt a c = lt2 b d) {x : α} {y : β} (h : R x y) : ∀ {l : List α} {m : List β}, Paired R l m → Paired R (insL lt x l) (insL lt2 y m)
  | _, _, .nil => .cons h .nil
  | _, _, .cons (a := a) (b := b) r t => by
    unfold insL
    rw [hR _ _ _ _ r h]
    by_cases q : lt2 b y = true
    · rw [if_pos q, if_pos q]
      exact .cons r (insL_paired hR h t)
    · rw [if_neg q, if_neg q]
      exact .cons h (.cons r t)
theorem isort_paired {lt2 : β → β → Bool} {R : α → β → Prop} (hR : ∀ a b c d, R a b → R c d → lt a c = lt2 b d) : ∀ {l : List α} {m : List β}, Paired R l m → Paired R (isort lt l) (isort lt2 m)
  | _, _, .nil => .nil
  | _, _, .cons r t => by
    unfold isort
    exact insL_paired hR r (isort_paired hR t)
end
/-! ### the order of keys -/
abbrev ltK (a b : List Lf) : Bool := PyProof.Rows.lexLt PyProof.Rows.itemOrd a b
theorem swoK : Swo ltK := by
  refine ⟨fun x y h => ?_, fun x y z h1 h2 => ?_⟩
  · cases e : ltK y x with
    | false => rfl
    | true =>
      have := lex_trans (O := itemOrd) x y x h e
      rw [lex_irrefl] at this
      cases this
  · cases e : ltK z x with
    | false => rfl
    | true =>
      rcases lex_negTrans (O := itemOrd) z y x e with q | q
      · exact absurd (h2.symm.trans q) (by decide)
      · exact absurd (h1.symm.trans q) (by decide)
theorem swo_by {α : Type} (k : α → List Lf) : Swo fun x y => ltK (k x) (k y) := ⟨fun x y h => swoK.asym _ _ h, fun x y z h1 h2 => swoK.tr _ _ _ h1 h2⟩
theorem swoV : Swo ltV := swo_by keyL
/-! ### flat tuples in the machine -/
def lfV : Lf → V
  | .inl i => .int i
  | .inr x => .str ⟨x.toArray⟩
theorem titems_of {shape : Nat → Bool} : ∀ {l : List Lf} {i : Nat} {us : List Value}, Vals (l.map lfV) us → (∀ j x, l[j]? = some x → shape (i + j) = isR x) → tupItems shape i us = some l
  | [], i, us, r, _ => by
    obtain rfl : us = [] := by cases r; rfl
    rfl
  | x :: l, i, us, r, hs => by
    cases r with
    | cons rx rl =>
      have h0 := hs 0 x rfl
      have ih := titems_of (i := i + 1) rl fun j y hy => by
        have := hs (j + 1) y hy
        rw [show i + (j + 1) = i + 1 + j by omega] at this
        exact this
      rw [Nat.add_zero] at h0
      cases x with
      | inl n =>
        have h0 : shape i = false := h0
        obtain ⟨t, rfl⟩ := rx
        show (if shape i = true then none else (tupItems shape (i + 1) _).map (Sum.inl n :: ·)) = _
        rw [h0, if_neg (by decide), ih]
        rfl
      | inr x =>
        have h0 : shape i = true := h0
        obtain ⟨t, rfl⟩ := rx
        show (if shape i = true then (tupItems shape (i + 1) _).map (Sum.inr _ :: ·) else none) = _
        rw [h0, if_pos rfl, ih]
        rfl
def IsK (h : Heap) (shape : Nat → Bool) (v : Value) (l : List Lf) : Prop := ∃ a o xs n, v = .ref a ∧ h.get? a = some o ∧ o.cls = .type "tuple" ∧ o.data = .seq xs n ∧ tupItems shape 0 xs.toList = some l
theorem IsK.keeps {h h' : Heap} {shape : Nat → Bool} {v : Value} {l : List Lf} (w : IsK h shape v l) (k : ∀ b o, h.get? b = some o → o.cls = .type "tuple" → h'.get? b = some o) : IsK h' shape v l := by
  obtain ⟨a, o, xs, n, e, ho, hc, hd, hi⟩ := w
  exact ⟨a, o, xs, n, e, k a o ho hc, hc, hd, hi⟩
theorem IsK.key {h : Heap} {shape : Nat → Bool} {v : Value} {l : List Lf} (w : IsK h shape v l) : tupKey h shape v = some l := by
  obtain ⟨a, o, xs, n, rfl, ho, hc, hd, hi⟩ := w
  unfold tupKey
  simp only [ho, hd]
  exact hi
theorem IsK.tup {h : Heap} {shape : Nat → Bool} {v : Value} {l : List Lf} (w : IsK h shape v l) (hl : l ≠ []) : ∃ f, TupOf h shape v f := by
  obtain ⟨a, o, xs, n, rfl, ho, hc, hd, hi⟩ := w
  obtain ⟨xs⟩ := xs
  cases xs with
  | nil => cases hi; exact absurd rfl hl
  | cons u r =>
    refine ⟨u, a, o, _, n, rfl, ho, hc, hd, rfl, fun e => ?_, fun e => ?_⟩
    · obtain ⟨k, t, _, e1, _⟩ := tupItems_int e hi
      exact ⟨k, t, e1⟩
    · obtain ⟨x, t, _, e1, _⟩ := tupItems_str e hi
      exact ⟨x, t, e1⟩
theorem tups_of {h : Heap} {shape : Nat → Bool} {k : Value → List Lf} : ∀ {vs : List Value}, (∀ v ∈ vs, IsK h shape v (k v) ∧ k v ≠ []) → ∃ fs, TupsOf h shape vs fs ∧ fs.length = vs.length
  | [], _ => ⟨[], .nil, rfl⟩
  | v :: r, hv => by
    obtain ⟨f, hf⟩ := (hv v List.mem_cons_self).1.tup (hv v List.mem_cons_self).2
    obtain ⟨fs, h1, h2⟩ := tups_of (vs := r) fun u hu => hv u (List.mem_cons_of_mem _ hu)
    exact ⟨f :: fs, .cons hf h1, by rw [List.length_cons, List.length_cons, h2]⟩
section
variable {prog : Program} {w : World} {A : Around} {s : Shared}
theorem sortable {a : Addr} {vs : List Value} {shape : Nat → Bool} {k : Value → List Lf} (h0 : 0 < vs.length) (hp : ∀ v ∈ vs, IsK s.heap shape v (k v) ∧ k v ≠ []) (ha : ∀ o, s.heap.get? a = some o → o.cls ≠ .type "tuple") : SortableO prog w A s a vs fun v u => ltK (k v) (k u) := by
  intro h' keep
  have hp' : ∀ v ∈ vs, IsK h' shape v (k v) ∧ k v ≠ [] := fun v hm => ⟨(hp v hm).1.keeps fun b o e c => keep b o (fun z => by subst z; exact ha o e c) e, (hp v hm).2⟩
  obtain ⟨fs, h1, h2⟩ := tups_of hp'
  refine ⟨tuples' true, fun Q E hq => tup_kind (shape := shape) (by omega) h1 hq, ?_⟩
  intro p q hm hm'
  exact tup_ltAt (s := { s with heap := h' }) (shape := shape) true A _ p.1 q.1 (k p.1) (k q.1) (hp' _ hm).1.key (hp' _ hm').1.key ⟨rfl, rfl⟩
end
/-- sorted(xs), xs a list of flat tuples of one shape -/
def rSortedTO (K : PySem.W.Frag) : List V → Hp → VK → Prop := fun vs H Q => ∃ (a : Addr) (xs : List V) (k : V → List Lf) (shape : Nat → Bool), vs = [V.ref a] ∧ SqL K H a xs ∧ (∀ x ∈ xs, ∃ t, x = V.ref t ∧ H t = some (.tup ((k x).map lfV)) ∧ k x ≠ [] ∧ ∀ j y, (k x)[j]? = some y → shape j = isR y) ∧
  ∀ p, H p = none → Q (.ref p) (upd H p (.lst (isort (fun x y => ltK (k x) (k y)) xs)))
section
variable {X : L2.Cx}
theorem cr_sortedTO : CallR X (.builtin "sorted") (rSortedTO X.K) := by
  intro pins s σ H vs us Q I r h
  obtain ⟨a, xs, k, shape, rfl, hs, hx, q⟩ := h
  obtain ⟨its, rv, hl, hz⟩ := I.list hs
  obtain ⟨u, rfl, ru⟩ := vals1 r
  obtain rfl : u = Value.ref a := ru
  obtain ⟨e1, e2⟩ := refs_back rv fun x m => by
    obtain ⟨t, e, _⟩ := hx x m
    exact ⟨t, e⟩
  have hk : ∀ v ∈ its, IsK s.heap shape v (k (backV v)) ∧ k (backV v) ≠ [] := fun v hv => by
    obtain ⟨t, rfl⟩ := e2 v hv
    have hm : V.ref t ∈ xs := by rw [e1]; exact List.mem_map.mpr ⟨_, hv, rfl⟩
    obtain ⟨t', e, ht, hne, hsh⟩ := hx _ hm
    cases e
    obtain ⟨_, its2, r2, o, ho, hc, n, hd⟩ := I.hok _ _ ht
    exact ⟨⟨t, o, _, n, rfl, ho, hc, hd, titems_of r2 fun j y hy => by rw [Nat.zero_add]; exact hsh j y hy⟩, hne⟩
  refine SrtO.sorted_ord (ltv := fun v u => ltK (k (backV v)) (k (backV u))) (swo_by fun v => k (backV v)) hl.isList (by rw [← rv.length]; exact hz) (fun h2 h₁ a' ha kk => ?_) fun out h1 h2 => ?_
  · refine sortable (s := { s with heap := h₁ }) (k := fun v => k (backV v)) (shape := shape) (by omega) (fun v hm => ⟨(hk v hm).1.keeps fun b o e _ => (kk b o e).2, (hk v hm).2⟩) fun o e => ?_
    have e' := e.symm.trans ha
    cases e'
    intro c
    exact absurd (Value.type.inj c) (by decide)
  · have h3 : ∀ u ∈ out, ∃ a, u = Value.ref a := fun u hu => e2 u (h2.perm.mem_iff.mp hu)
    have hb : SrtO.Stb (fun x y => ltK (k x) (k y)) (out.map backV) xs := by
      rw [e1]
      exact SrtO.Stb.map (swo_by k) backV h2
    obtain ⟨n, hn⟩ := sortedAll_at s.heap its out.toArray
    have ei := isort_uniq (swo_by k) (SrtO.srtd_map h1) hb
    refine ⟨.ref (s.heap.objs.size + 1), upd H _ (.lst (out.map backV)), I.laid (t' := s.toks) (fun b o e => sortedAll_old e) (Nat.le_succ _) ⟨?_, out, n, vals_back h3, hn⟩, rfl, ?_⟩
    · rw [hb.len]
      exact hz
    · rw [ei]
      exact q _ (I.hok.fresh (Nat.le_succ _))
end
/-! ### the keys of a dict collected -/
section
variable {prog : Program} {w : World} {A : Around} {E : Value → Shared → Prop} {s : Shared} {d : Addr} {es : Array DictEntry} {ep : Nat}
def RawD (h : Heap) (d : Addr) (es : Array DictEntry) (ep : Nat) : Prop := ∃ o, h.get? d = some o ∧ o.ExactDict ∧ o.data = .dict es ep
theorem walks_raw (hh : A.handled = none) (I d : Addr) (hne : d ≠ I) : Walks prog w A I [I, d] [I] es.size (fun i v => ∃ en : DictEntry, es[i]? = some en ∧ v = en.key) (fun i h => h.IsKeyIter I d i es.size ep ∧ RawD h d es ep) where
  sub := fun b hb => by simp at hb; simp [hb]
  frame := fun _ _ _ st hk => ⟨st.1.at fun o e => hk I (by simp) o e, let ⟨o, ho, x⟩ := st.2; ⟨o, hk d (by simp) o ho, x⟩⟩
  item := fun i s Q E hi st hQ => by
    obtain ⟨st1, o, ho, hx, hd⟩ := st
    refine next_key_item st1 ho hd rfl (Array.getElem?_eq_getElem hi) fun h' st' sb => ?_
    exact hQ _ h' s.toks ⟨_, Array.getElem?_eq_getElem hi, rfl⟩ ⟨st', o, (sb.2 d hne).trans ho, hx, hd⟩ fun b o hb e => (sb.2 b (fun h => hb (by simp [h]))).trans e
  done := fun s Q E st hQ => by
    obtain ⟨st1, o, ho, hx, hd⟩ := st
    exact next_key_end hh st1 ho hd rfl (Nat.le_refl _) fun h' eb => hQ h' s.toks fun b o hb e => eb b o (fun h => hb (by simp [h])) e
  self := fun i s Q E st hQ => by
    refine wpAny_pyIter_slot st.1.typeIs F.slot_dict_keyiterator_iter (wpAny_call_entry F.slot_dict_keyiterator_iter st.1.typeIs F.entry_dict_keyiterator_iter ?_ (F.args_dict_keyiterator_iter_1 _))
    show wpAny _ _ (ret (.ref I)) _ _ s
    exact wpAny_pure ⟨_, rfl, "dict_keyiterator", _, st.1.typeIs, F.slot_dict_keyiterator_next.lookup, hQ⟩
theorem src_raw (lo : (d == sysModules) = false) : PySem.W.KdlSrc prog w "dict" d d es.size (fun i v => ∃ en : DictEntry, es[i]? = some en ∧ v = en.key) (fun h => RawD h d es ep) where
  type := fun _ ⟨o, ho, hx, _⟩ => ⟨o, ho, hx.1⟩
  there := fun _ ⟨o, ho, _⟩ => ⟨Heap.lt_size ho, Heap.lt_size ho⟩
  keep := fun _ _ ⟨o, ho, x⟩ hk => ⟨o, hk d (.inl rfl) o ho, x⟩
  notList := by decide
  notTuple := by decide
  hint := fun _ _ _ _ ⟨o, ho, hx, _⟩ hq => PySem.W.kdl_hint_dict ⟨o, ho, hx.1⟩ hq
  iter := fun A s hh hm => by
    obtain ⟨o, ho, hx, hd⟩ := hm
    exact ⟨_, _, (fun _ _ hq => iter_keys lo ho hx hd hq), walks_raw hh _ d (Nat.ne_of_lt (Heap.lt_size ho)), ⟨_, Heap.get?_push_size _ rfl, rfl, rfl⟩, o, Heap.get?_push_of_some _ ho, hx, hd⟩
/-- a source collected; the heap has grown -/
theorem collect2 {T : String} {r d : Addr} {n : Nat} {P : Nat → Value → Prop} {OK : Heap → Prop} {R : List Value → Shared → Prop} (K : PySem.W.KdlSrc prog w T r d n P OK) (hh : A.handled = none) (hok : OK s.heap) (hn : n ≤ sizeLine)
    (h : ∀ (h' : Heap) (tk : Nat) (acc : Array Value), (∀ b o, s.heap.get? b = some o → h'.get? b = some o) → s.heap.objs.size ≤ h'.objs.size → ItemsOf P acc n → R acc.toList { s with heap := h', toks := tk }) :
    wpAny (model prog w) A (collect (.ref r)) R E s := by
  have hlt := K.there _ hok
  unfold collect
  refine wpAny_bind (wpAny_runValue (codeAny_builtin entry_proto_collect' ?_))
  rw [Around.under_plainId PySem.F.plain_proto_collect _]
  show wpAny _ A.in1 (newList [] >>= fun l => again (.builtin "list.__iadd__" ⟨[l, .ref r], []⟩)) _ _ s
  refine wpAny_bind (wpAny_newObj_type ?_)
  refine wpAny_pure ⟨plainId_quiet PySem.F.plain_list_iadd _, codeAny_builtin entry_list_iadd' ?_⟩
  rw [Around.under_plainId PySem.F.plain_list_iadd _]
  have hS₁ : (s.heap.push { cls := .type "list", data := .seq ([] : List Value).toArray }).get? s.heap.objs.size = some { cls := .type "list", data := .seq #[] } := Heap.get?_push_size _ rfl
  show wpAny _ A.in1 (Builtin.List.listExtendWith (.ref s.heap.objs.size) (.ref r) (.ref s.heap.objs.size)) _ _ _
  have key := PySem.W.kdl_extend (A := A) (s := { s with heap := s.heap.push { cls := .type "list", data := .seq ([] : List Value).toArray } })
    (R := fun (q : Result) (s' : Shared) => ∃ (h' : Heap) (tk : Nat) (acc' : Array Value) (c' : Nat), q = .ok (.ret (.ref s.heap.objs.size)) ∧ s' = { s with heap := h', toks := tk } ∧
      (∀ b o, s.heap.get? b = some o → h'.get? b = some o) ∧ h'.get? s.heap.objs.size = some { cls := .type "list", dict := none, data := .seq acc' c', slots := #[] } ∧ ItemsOf P acc' n)
    K hh (K.keep _ _ hok fun b _ o e => Heap.get?_push_of_some _ e) s.heap.objs.size (Nat.ne_of_gt hlt.1) (Nat.ne_of_gt hlt.2) (.ref s.heap.objs.size) 0 hS₁
    (fun h' tk acc' c' hk hS' hacc => ⟨h', tk, acc', c', rfl, rfl, fun b o e => hk b o (Nat.ne_of_lt (Heap.lt_size e)) (Heap.get?_push_of_some _ e), hS', hacc⟩) hn
  refine wpAny_mono key (fun fin s' x => ?_) fun e s' x => ?_
  · cases fin with
    | done f =>
      obtain ⟨h', tk, acc', c', e, rfl, hk, hS', hacc⟩ := x
      cases e
      show wpAny _ A (load s.heap.objs.size >>= _) _ _ _
      refine wpAny_bind (wpAny_load hS' ?_)
      exact wpAny_pure (h h' tk acc' hk (Nat.le_of_lt (Heap.lt_size hS')) hacc)
    | again c₁ =>
      refine ⟨x.1, codeAny_mono x.2 fun q s₂ y => ?_⟩
      obtain ⟨h', tk, acc', c', rfl, rfl, hk, hS', hacc⟩ := y
      show wpAny _ A (load s.heap.objs.size >>= _) _ _ _
      refine wpAny_bind (wpAny_load hS' ?_)
      exact wpAny_pure (h h' tk acc' hk (Nat.le_of_lt (Heap.lt_size hS')) hacc)
  · obtain ⟨_, _, _, _, e', _⟩ := x
    cases e'
theorem sorted_raw {vs : List Value} {ltv : Value → Value → Bool} {Q : Value → Shared → Prop} (O : SrtO.Swo ltv) (lo : (d == sysModules) = false) (hh : A.handled = none) (hm : RawD s.heap d es ep) (ev : vs = es.toList.map fun en => en.key) (hz : vs.length ≤ sizeLine)
    (hS : 2 ≤ vs.length → ∀ (h₁ : Heap) (tk : Nat) (a : Addr), h₁.get? a = some (seqObj "list" vs.toArray 0) → (∀ b o, s.heap.get? b = some o → b ≠ a ∧ h₁.get? b = some o) → SrtO.SortableO prog w A.in1.in1 { s with heap := h₁, toks := tk } a vs ltv)
    (h : ∀ (h' : Heap) (tk : Nat) (D : Addr) (out : List Value), SrtO.Srtd ltv out → SrtO.Stb ltv out vs → (∀ b o, s.heap.get? b = some o → h'.get? b = some o) → s.heap.objs.size ≤ D → (∃ n, h'.get? D = some (seqObj "list" out.toArray n)) → Q (.ref D) { s with heap := h', toks := tk }) :
    wpAny (model prog w) A (call (.builtin "sorted") [.ref d]) Q E s := by
  refine Calls.call_function_entry kind_sorted plain_sorted entry_sorted (args_sorted1 _) ?_
  unfold Builtin.«sorted»
  refine wpAny_bind (m := checkCount "sorted" 1 1 _) (wpAny_pure ?_)
  refine wpAny_bind (collect2 (A := A.in1) (src_raw (prog := prog) (w := w) (es := es) (ep := ep) lo) hh hm (by rw [ev, List.length_map, Array.length_toList] at hz; exact hz) fun h1 tk acc hk hgr hacc => ?_)
  have ea : acc.toList = vs := by
    refine List.ext_getElem? fun i => ?_
    rw [ev, List.getElem?_map, Array.getElem?_toList, Array.getElem?_toList]
    cases e : acc[i]? with
    | none =>
      have : es.size ≤ i := by
        have := Array.getElem?_eq_none_iff.mp e
        rw [hacc.1] at this
        exact this
      rw [Array.getElem?_eq_none this]
      rfl
    | some v =>
      obtain ⟨en, e1, rfl⟩ := hacc.2 i v e
      rw [e1]
      rfl
  rw [ea]
  refine wpAny_bind (wpAny_newList ?_ hz)
  have hoL : (h1.push (seqObj "list" vs.toArray 0)).get? h1.objs.size = some (seqObj "list" vs.toArray 0) := Heap.get?_push_size _ rfl
  have keep : ∀ b o, s.heap.get? b = some o → b ≠ h1.objs.size ∧ (h1.push (seqObj "list" vs.toArray 0)).get? b = some o := fun b o q => ⟨Nat.ne_of_lt (Heap.lt_size (hk b o q)), Heap.get?_push_of_some _ (hk b o q)⟩
  show wpAny _ _ _ _ _ { s with heap := h1.push (seqObj "list" vs.toArray 0), toks := tk }
  refine wpAny_bind (wpAny_holding (wpAny_call_entry slot_list_sort ⟨_, hoL, rfl⟩ entry_list_sort (SrtO.list_sort_ord O hoL hz (fun h2 => hS h2 _ tk _ hoL keep) fun out hs hb => ⟨_, rfl, ?_⟩) (args_list_sort _)))
  refine wpAny_pure ⟨_, rfl, h _ tk _ out hs hb (fun b o q => ?_) ?_ (sortedHeap_at hoL)⟩
  · rw [sortedHeap_old (keep b o q).1 (Heap.lt_size (keep b o q).2)]
    exact (keep b o q).2
  · exact hgr
end
/-! ### keys read off the layer's heap -/
def backL : V → Lf
  | .int i => .inl i
  | .str x => .inr x.cps.toList
  | _ => .inl 0
def kOf (H : Hp) : V → List Lf
  | .ref t => (match H t with
    | some (.tup vs) => vs.map backL
    | _ => [])
  | .int i => [.inl i]
  | _ => []
theorem backL_lfV (x : Lf) : backL (lfV x) = x := by cases x <;> rfl
theorem lfs_rv {T : Tb} {K : Frag} {H : Hp} : ∀ {vs : List Val} {ks : List Lf} {ys : List V}, lfsOf vs = some ks → RVs T K H vs ys → ys = ks.map lfV
  | [], ks, ys, e, r => by cases e; rw [r.of_nil]; rfl
  | v :: vs, ks, ys, e, r => by
    obtain ⟨y, t, rfl, r1, r2⟩ := r.of_cons
    unfold lfsOf at e
    cases q1 : lfOf v with
    | none => rw [q1] at e; cases e
    | some x =>
      rw [q1] at e
      dsimp only at e
      cases q2 : lfsOf vs with
      | none => rw [q2] at e; cases e
      | some xs =>
        rw [q2] at e
        cases e
        rw [lfs_rv q2 r2]
        cases v with
        | int i => cases q1; rw [rv_int.mp r1]; rfl
        | str a => cases q1; rw [(rv_str.mp r1).1]; rfl
        | _ => cases q1
theorem flat_rv {T : Tb} {K : Frag} {H : Hp} {shape : Nat → Bool} {x : Val} {y : V} (f : FlatS shape x) (r : RV T K H x y) : kOf H y = keyL x ∧ (∃ t, y = V.ref t ∧ H t = some (.tup ((kOf H y).map lfV))) ∧ kOf H y ≠ [] ∧ ∀ j z, (kOf H y)[j]? = some z → shape j = isR z := by
  obtain ⟨vs, ks, rfl, h1, h2, h3⟩ := f
  obtain ⟨a, ys, rfl, h4, h5⟩ := rv_tup.mp r
  have e := lfs_rv h1 h5
  have ek : kOf H (.ref a) = ks := by
    unfold kOf
    dsimp only
    rw [h4]
    dsimp only
    rw [e, List.map_map]
    have : ∀ l : List Lf, l.map (backL ∘ lfV) = l := fun l => by
      induction l with
      | nil => rfl
      | cons z l ih => rw [List.map_cons, ih]; show backL (lfV z) :: l = _; rw [backL_lfV]
    exact this ks
  rw [ek]
  refine ⟨?_, ⟨a, rfl, by rw [h4, e]⟩, h2, h3⟩
  unfold keyL
  dsimp only
  rw [h1]
  rfl
theorem rvs_paired {T : Tb} {K : Frag} {H : Hp} {R : Val → V → Prop} : ∀ {xs : List Val} {ys : List V}, RVs T K H xs ys → (∀ x ∈ xs, ∀ y, RV T K H x y → R x y) → Paired R xs ys
  | [], _, r, _ => by rw [r.of_nil]; exact .nil
  | x :: xs, _, r, h => by
    obtain ⟨y, t, rfl, r1, r2⟩ := r.of_cons
    exact .cons (h x List.mem_cons_self y r1) (rvs_paired r2 fun z hz => h z (List.mem_cons_of_mem _ hz))
theorem paired_rvs {T : Tb} {K : Frag} {H : Hp} {R : Val → V → Prop} : ∀ {xs : List Val} {ys : List V}, Paired R xs ys → (∀ x y, R x y → RV T K H x y) → RVs T K H xs ys
  | _, _, .nil, _ => .nil
  | _, _, .cons r t, h => .cons (h _ _ r) (paired_rvs t h)
theorem paired_right {α β : Type} {R : α → β → Prop} : ∀ {xs : List α} {ys : List β}, Paired R xs ys → ∀ y ∈ ys, ∃ x ∈ xs, R x y
  | _, _, .nil, y, h => nomatch h
  | _, _, .cons r t, y, h => by
    rcases List.mem_cons.mp h with rfl | h
    · exact ⟨_, List.mem_cons_self, r⟩
    · obtain ⟨x, hx, q⟩ := paired_right t y h
      exact ⟨x, List.mem_cons_of_mem _ hx, q⟩
/-- a list of flat tuples sorted: what stands for it -/
theorem rvs_isort {T : Tb} {K : Frag} {H : Hp} {xs : List Val} {ys : List V} (ok : SrtOk xs) (r : RVs T K H xs ys) : RVs T K H (isort ltV xs) (isort (fun a b => ltK (kOf H a) (kOf H b)) ys) := by
  obtain ⟨shape, hs⟩ := ok
  have p : Paired (fun x y => RV T K H x y ∧ kOf H y = keyL x) xs ys := rvs_paired r fun x hx y ry => ⟨ry, (flat_rv (hs x hx) ry).1⟩
  refine paired_rvs (isort_paired (fun a b c d h1 h2 => ?_) p) fun x y h => h.1
  show PyProof.Rows.lexLt itemOrd (keyL a) (keyL c) = _
  rw [h1.2, h2.2]
/-- sorted(d), d a dict with tuple keys -/
def rSortedTD : List V → Hp → VK → Prop := fun vs H Q => ∃ (d : Addr) (kvs : List (List Key × V)) (shape : Nat → Bool), vs = [V.ref d] ∧ H d = some (.dT kvs) ∧
  (∀ p ∈ kvs, ∀ y t, y = V.ref t → H t = some (.tup (p.1.map kV)) → H t = some (.tup ((kOf H y).map lfV)) ∧ kOf H y ≠ [] ∧ ∀ j z, (kOf H y)[j]? = some z → shape j = isR z) ∧
  ∀ qs : List V, Paired (fun p q => ∃ t, q = V.ref t ∧ H t = some (.tup (p.1.map kV))) kvs qs → ∀ p, H p = none → Q (.ref p) (upd H p (.lst (isort (fun x y => ltK (kOf H x) (kOf H y)) qs)))
section
variable {X : L2.Cx}
theorem cr_sortedTD (hc : X.calm = true) : CallR X (.builtin "sorted") rSortedTD := by
  intro pins s σ H vs us Q I r h
  obtain ⟨d, kvs, shape, rfl, hd, hk, q⟩ := h
  obtain ⟨u, rfl, ru⟩ := vals1 r
  obtain rfl : u = Value.ref d := ru
  obtain ⟨hz, lo, xs, pr, o, es, ep, ho, hx, hdt, he, hrest⟩ := I.hok d _ hd
  have raw : RawD s.heap d es ep := ⟨o, ho, hx, hdt⟩
  have ekeys : (es.toList.map fun en => en.key) = xs.map fun x => Value.ref x.2.1 := by
    rw [he, List.map_map]
    rfl
  have hlen : kvs.length = xs.length := Paired.length pr
  have P : Paired (fun (p : List Key × V) (q : V) => ∃ t, q = V.ref t ∧ H t = some (.tup (p.1.map kV))) kvs (xs.map fun x => V.ref x.2.1) := by
    clear hk q hrest he ekeys hlen hz hd
    induction pr with
    | nil => exact .nil
    | cons h t ih => exact .cons ⟨_, rfl, h.2.1⟩ ih
  have eV : (xs.map fun x => V.ref x.2.1) = (xs.map fun x => Value.ref x.2.1).map backV := by
    rw [List.map_map]
    rfl
  have hvs : ∀ v ∈ (xs.map fun x => Value.ref x.2.1), ∃ a, v = Value.ref a := fun v hv => by
    obtain ⟨x, _, rfl⟩ := List.mem_map.mp hv
    exact ⟨_, rfl⟩
  have hkk : ∀ v ∈ (xs.map fun x => Value.ref x.2.1), IsK s.heap shape v (kOf H (backV v)) ∧ kOf H (backV v) ≠ [] := fun v hv => by
    have hm : backV v ∈ xs.map fun x => V.ref x.2.1 := by rw [eV]; exact List.mem_map.mpr ⟨v, hv, rfl⟩
    obtain ⟨p, hp, t, e1, e2⟩ := paired_right P _ hm
    obtain ⟨e3, hne, hsh⟩ := hk p hp _ t e1 e2
    obtain ⟨a, rfl⟩ := hvs v hv
    cases e1
    obtain ⟨_, its2, r2, o, ho, hc, n, hd⟩ := I.hok _ _ e3
    exact ⟨⟨_, o, _, n, rfl, ho, hc, hd, titems_of r2 fun j y hy => by rw [Nat.zero_add]; exact hsh j y hy⟩, hne⟩
  have hzs : (xs.map fun x => Value.ref x.2.1).length ≤ sizeLine := by rw [List.length_map, ← hlen]; exact hz
  refine sorted_raw (ltv := fun v u => ltK (kOf H (backV v)) (kOf H (backV u))) (swo_by fun v => kOf H (backV v)) lo (I.ok.hd hc) raw ekeys.symm hzs (fun h2 h₁ tk a' ha kk => ?_) fun h' tk D out h1 h2 hke hge hD => ?_
  · refine sortable (s := { s with heap := h₁, toks := tk }) (k := fun v => kOf H (backV v)) (shape := shape) (by omega) (fun v hm => ⟨(hkk v hm).1.keeps fun b o e _ => (kk b o e).2, (hkk v hm).2⟩) fun o e => ?_
    have e' := e.symm.trans ha
    cases e'
    intro c
    exact absurd (Value.type.inj c) (by decide)
  · have h3 : ∀ u ∈ out, ∃ a, u = Value.ref a := fun u hu => hvs u (h2.perm.mem_iff.mp hu)
    have hb : SrtO.Stb (fun x y => ltK (kOf H x) (kOf H y)) (out.map backV) (xs.map fun x => V.ref x.2.1) := by
      rw [eV]
      exact SrtO.Stb.map (swo_by (kOf H)) backV h2
    obtain ⟨n, hn⟩ := hD
    have ei := isort_uniq (swo_by (kOf H)) (SrtO.srtd_map h1) hb
    refine ⟨.ref D, upd H _ (.lst (out.map backV)), I.laid (t' := tk) hke hge ⟨?_, out, n, vals_back h3, hn⟩, rfl, ?_⟩
    · rw [hb.len, List.length_map, ← hlen]
      exact hz
    · rw [ei]
      exact q _ P _ (I.hok.fresh hge)
/-- sorted of flat tuples, or of a dict with such keys -/
theorem c_sorted {T : Tb} (hc : X.calm = true) : CallR X (.builtin "sorted") (rC T X.K (bifR .sorted)) := by
  intro pins s σ H xs us Q I r ⟨vs, h, rs, rh, w⟩
  have lst : ∀ {a : Addr} {zs : List Val} {ys : List V}, xs = [V.ref a] → SqL X.K H a ys → RVs T X.K H zs ys → (Res.new (SrtOk zs) (.lst (isort ltV zs))).wp h (dn T X.K H Q) → wpAny (model X.prog X.w) X.A (call (.builtin "sorted") us) (EP X pins σ Q) X.xe s := by
    intro a zs ys ex sq rv w
    obtain ⟨ok, w⟩ := w
    obtain ⟨shape, hs⟩ := id ok
    have p : Paired (fun x y => x ∈ zs ∧ RV T X.K H x y) zs ys := rvs_paired rv fun x hx y ry => ⟨hx, ry⟩
    refine cr_sortedTO pins s σ H xs us Q I r ⟨a, ys, kOf H, shape, ex, sq, fun y hy => ?_, fun q hq => ?_⟩
    · obtain ⟨x, _, hx, ry⟩ := paired_right p y hy
      obtain ⟨_, ⟨t, e1, e2⟩, e3, e4⟩ := flat_rv (hs x hx) ry
      exact ⟨t, e1, e2, e3, e4⟩
    · exact dn.newL w rh (rvs_isort ok rv) q hq
  unfold bifR at w
  dsimp only at w
  split at w
  · obtain ⟨x, t, rfl, ra, rt⟩ := rs.of_cons
    obtain rfl := rt.of_nil
    obtain ⟨p, ys, rfl, sp, q⟩ := rv_rls.mp ra
    exact lst rfl sp.sq q w
  · obtain ⟨x, t, rfl, ra, rt⟩ := rs.of_cons
    obtain rfl := rt.of_nil
    obtain rfl := rv_ref.mp ra
    split at w
    · rename_i zs e
      obtain ⟨ys, e1, q⟩ := rh.lst e
      exact lst rfl (.of e1) q w
    · rename_i kvs e
      obtain ⟨u, e1, ks, rfl, rd⟩ := rh.obj _ _ e
      obtain ⟨ok, w⟩ := w
      obtain ⟨shape, hs⟩ := id ok
      have key : ∀ p ∈ ks, ∀ y t, y = V.ref t → H t = some (.tup (p.1.map kV)) → ∃ k ∈ kvs.map (·.1), RV T X.K H k y := by
        intro p hp y t ey et
        obtain ⟨i, hi⟩ := List.mem_iff_getElem?.mp hp
        have : ∃ z, kvs[i]? = some z := ⟨_, List.getElem?_eq_getElem (by rw [rd.len]; exact (List.getElem?_eq_some_iff.mp hi).1)⟩
        obtain ⟨⟨k, v⟩, hz⟩ := this
        obtain ⟨j, yv, e3, rfl, okj, _⟩ := rd.get2 hz
        rw [hi] at e3
        cases e3
        exact ⟨_, List.mem_map.mpr ⟨_, List.mem_of_getElem? hz, rfl⟩, rv_tup.mpr ⟨t, _, ey, et, rvs_keys okj⟩⟩
      refine cr_sortedTD hc pins s σ H _ us Q I r ⟨_, ks, shape, rfl, e1, fun p hp y t ey et => ?_, fun qs P q hq => ?_⟩
      · obtain ⟨k, hk, rk⟩ := key p hp y t ey et
        obtain ⟨_, ⟨t', e2, e3⟩, e4, e5⟩ := flat_rv (hs k hk) rk
        rw [ey] at e2
        cases e2
        exact ⟨e3, e4, e5⟩
      · have rv : RVs T X.K H (kvs.map (·.1)) qs := by
          clear w ok hs e e1 key I r rh
          induction kvs generalizing ks qs with
          | nil => cases rd; cases P; exact .nil
          | cons z kvs ih =>
            obtain ⟨k, v⟩ := z
            obtain ⟨j, y, s', e0, rfl, h2, h3, h4⟩ := rd
            subst e0
            cases P with
            | cons h t =>
              obtain ⟨a, rfl, ha⟩ := h
              exact .cons (rv_tup.mpr ⟨a, _, rfl, ha, rvs_keys h2⟩) (ih _ h4 _ t)
        exact dn.newL w rh (rvs_isort ok rv) q hq
    · exact w.elim
  · exact w.elim
end
end MP
end
section
set_option maxHeartbeats 4000000
/-! MpKs: sorted with a key function, any length. -/
namespace MP
open PySem PySem.Spec PyProof.Rows L2 SrtO
/-- keys made one behind the other -/
def kgoL (key : V → Hp → VK → Prop) (fin : List V → Hp → Prop) : List V → List V → Hp → Prop
  | [], ks, H => fin ks H
  | x :: r, ks, H => key x H fun k H' => kgoL key fin r (ks ++ [k]) H'
def KOkL (H : Hp) (ks : List V) : Prop := (∀ k ∈ ks, ∃ i, k = .int i) ∨ ∃ shape : Nat → Bool, ∀ k ∈ ks, ∃ t, k = .ref t ∧ H t = some (.tup ((kOf H k).map lfV)) ∧ kOf H k ≠ [] ∧ ∀ j y, (kOf H k)[j]? = some y → shape j = isR y
def ltP (H : Hp) : V × V → V × V → Bool := fun p q => ltK (kOf H p.1) (kOf H q.1)
def ksortL (H : Hp) (ks xs : List V) : List V := (isort (ltP H) (ks.zip xs)).map (·.2)
/-- the key of a raw value -/
def rkOf (H : Hp) : Value → List Lf
  | .ref t => kOf H (.ref t)
  | .int i _ => [.inl i]
  | _ => []
theorem rk_int {H : Hp} {i : Int} {u : Value} (r : RelV (V.int i) u) : rkOf H u = [.inl i] := by
  obtain ⟨t, rfl⟩ := (show ∃ t, u = Value.int i t from r)
  rfl
theorem rk_ref {H : Hp} {t : Addr} {u : Value} (r : RelV (V.ref t) u) : rkOf H u = kOf H (.ref t) := by
  obtain rfl : u = Value.ref t := r
  rfl
theorem vals_rel : ∀ {xs : List V} {us : List Value}, Vals xs us → Paired (fun (x : V) (u : Value) => RelV x u) xs us
  | _, _, .nil => .nil
  | _, _, .cons h t => .cons h (vals_rel t)
theorem rel_vals : ∀ {xs : List V} {us : List Value}, Paired (fun (x : V) (u : Value) => RelV x u) xs us → Vals xs us
  | _, _, .nil => .nil
  | _, _, .cons h t => .cons h (rel_vals t)
theorem paired_zip {α β γ δ : Type} {R : α → β → Prop} {S : γ → δ → Prop} : ∀ {a : List α} {b : List β} {c : List γ} {d : List δ}, Paired R a b → Paired S c d → Paired (fun (p : α × γ) (q : β × δ) => R p.1 q.1 ∧ S p.2 q.2) (a.zip c) (b.zip d)
  | _, _, _, _, .nil, _ => .nil
  | _, _, _, _, .cons _ _, .nil => .nil
  | _, _, _, _, .cons h t, .cons h' t' => .cons ⟨h, h'⟩ (paired_zip t t')
theorem paired_map2 {α β γ δ : Type} {R : α → β → Prop} {S : γ → δ → Prop} {f : α → γ} {g : β → δ} (h : ∀ a b, R a b → S (f a) (g b)) : ∀ {a : List α} {b : List β}, Paired R a b → Paired S (a.map f) (b.map g)
  | _, _, .nil => .nil
  | _, _, .cons r t => .cons (h _ _ r) (paired_map2 h t)
section
variable {X : L2.Cx} {pins : List (Addr × PySem.Obj)} {σ : L2.St} {H : Hp} {s : Shared}
/-- the keys can be compared -/
theorem keys_sortable {A : Around} {a : Addr} {ks : List V} {us : List Value} (I : Inv X pins σ H s) (ok : KOkL H ks) (r : Vals ks us) (h2 : 2 ≤ us.length) (ha : ∀ o, s.heap.get? a = some o → o.cls ≠ .type "tuple") : SortableO X.prog X.w A s a us fun v u => ltK (rkOf H v) (rkOf H u) := by
  have pr := vals_rel r
  rcases ok with ok | ⟨shape, ok⟩
  · have hI : ∃ ns, IntsAre us ns := by
      clear h2 pr ha
      induction us generalizing ks with
      | nil => exact ⟨[], .nil⟩
      | cons u us ih =>
        cases r with
        | cons h t =>
          obtain ⟨i, rfl⟩ := ok _ List.mem_cons_self
          obtain ⟨t', rfl⟩ := (show ∃ t, u = Value.int i t from h)
          obtain ⟨ns, hn⟩ := ih t fun k hk => ok k (List.mem_cons_of_mem _ hk)
          exact ⟨i :: ns, .cons _ _ hn⟩
    obtain ⟨ns, hI⟩ := hI
    intro h' keep
    obtain ⟨κ, h1, hC⟩ := SrtO.ints_sortable (prog := X.prog) (w := X.w) (A := A) (s := s) (a := a) hI h2 h' keep
    refine ⟨κ, h1, fun p q hp hq => wpAny_mono (hC p q hp hq) (fun b s' ⟨e1, e2⟩ => ⟨e1, ?_⟩) fun _ _ z => z⟩
    rw [e2]
    have int : ∀ v ∈ us, ∃ i t, v = Value.int i t := fun v hv => by
      obtain ⟨x, hx, rx⟩ := paired_right pr v hv
      obtain ⟨i, rfl⟩ := ok x hx
      obtain ⟨t, e⟩ := (show ∃ t, v = Value.int i t from rx)
      exact ⟨i, t, e⟩
    obtain ⟨i, t, e1⟩ := int _ hp
    obtain ⟨j, t', e2⟩ := int _ hq
    show SrtO.ltIv p.1 q.1 = ltK (rkOf H p.1) (rkOf H q.1)
    rw [e1, e2]
    show decide (i < j) = (decide (i < j) || (!decide (j < i) && false))
    rw [Bool.and_false, Bool.or_false]
  · refine sortable (k := rkOf H) (shape := shape) (by omega) (fun v hv => ?_) ha
    obtain ⟨x, hx, rx⟩ := paired_right pr v hv
    obtain ⟨t, rfl, e1, e2, e3⟩ := ok x hx
    rw [rk_ref rx]
    obtain rfl : v = Value.ref t := rx
    obtain ⟨_, its2, r2, o, ho, hc, n, hd⟩ := I.hok _ _ e1
    exact ⟨⟨t, o, _, n, rfl, ho, hc, hd, titems_of r2 fun j y hy => by rw [Nat.zero_add]; exact e3 j y hy⟩, e2⟩
/-- sorted(l, key=f) -/
theorem sortedK {a f : Addr} {xs : List V} {key : V → Hp → VK → Prop} {Q : VK} (hkey : ∀ (pins : List (Addr × PySem.Obj)) (σ : L2.St) (H : Hp) (s : Shared) (x : V) (u : Value) (Q : VK), Inv X pins σ H s → RelV x u → key x H Q → wpAny (model X.prog X.w) X.A.in1.in1 (call (.ref f) [u]) (EP X pins σ Q) (fun _ _ => False) s)
    (I : Inv X pins σ H s) (hs : SqL X.K H a xs) (q : kgoL key (fun ks H' => KOkL H' ks ∧ ∀ p, H' p = none → Q (.ref p) (upd H' p (.lst (ksortL H' ks xs)))) xs [] H) :
    wpAny (model X.prog X.w) X.A (call (.builtin "sorted") [.ref a] [(Str.ofString "key", .ref f)]) (EP X pins σ Q) X.xe s := by
  obtain ⟨its, rv, hl, hz⟩ := I.list hs
  have hlen : xs.length = its.length := rv.length
  have hzI : its.length ≤ sizeLine := by rw [← hlen]; exact hz
  refine call_function_entry_kw kind_sorted plain_sorted entry_sorted (ksk_s1 _ _) ?_
  unfold Builtin.«sorted»
  refine wpAny_bind (m := checkCount "sorted" 1 1 _) (wpAny_pure ?_)
  refine wpAny_bind (collect_list hl.isList ?_ hzI)
  refine wpAny_bind (wpAny_newList ?_ hzI)
  have hsz : ((s.heap.push (seqObj "list" #[] 0)).update s.heap.objs.size (Obj.mapSeq (· ++ its.toArray))).objs.size = s.heap.objs.size + 1 := by
    rw [Heap.size_update, size_push']
  have hoL : (((s.heap.push (seqObj "list" #[] 0)).update s.heap.objs.size (Obj.mapSeq (· ++ its.toArray))).push (seqObj "list" its.toArray 0)).get? (s.heap.objs.size + 1) = some (seqObj "list" its.toArray 0) := by
    rw [← hsz]; exact Heap.get?_push_size _ rfl
  have keep0 : ∀ b o, s.heap.get? b = some o → b ≠ s.heap.objs.size + 1 ∧ (((s.heap.push (seqObj "list" #[] 0)).update s.heap.objs.size (Obj.mapSeq (· ++ its.toArray))).push (seqObj "list" its.toArray 0)).get? b = some o := fun b o q => by
    have hlt : b < s.heap.objs.size := Heap.lt_size q
    refine ⟨Nat.ne_of_lt (Nat.lt_succ_of_lt hlt), Heap.get?_push_of_some _ ?_⟩
    rw [Heap.get?_update_ne _ _ _ _ (Nat.ne_of_lt hlt)]
    exact Heap.get?_push_of_some _ q
  have hszL : (((s.heap.push (seqObj "list" #[] 0)).update s.heap.objs.size (Obj.mapSeq (· ++ its.toArray))).push (seqObj "list" its.toArray 0)).objs.size = s.heap.objs.size + 2 := by rw [size_push', hsz]
  show wpAny _ _ _ _ _ { s with heap := ((s.heap.push (seqObj "list" #[] 0)).update s.heap.objs.size (Obj.mapSeq (· ++ its.toArray))).push (seqObj "list" its.toArray 0) }
  rw [hsz]
  generalize hhL : ((s.heap.push (seqObj "list" #[] 0)).update s.heap.objs.size (Obj.mapSeq (· ++ its.toArray))).push (seqObj "list" its.toArray 0) = hL at hoL keep0 hszL ⊢
  clear hhL
  refine wpAny_bind (wpAny_holding (wpAny_call_entry_kw slot_list_sort ⟨_, hoL, rfl⟩ entry_list_sort ?_ (ksk_l1 _ _)))
  rw [ksk_t1]
  generalize hD : s.heap.objs.size + 1 = D at hoL keep0 ⊢
  have hDL : D < hL.objs.size := Heap.lt_size hoL
  obtain ⟨e1, ho1⟩ : ∃ e1, (hL.update D (Obj.mapSeq fun _ => (#[] : Array Value))).get? D = some (seqObj "list" #[] e1) := ⟨_, get?_update_seq hoL fun _ => #[]⟩
  have hz2 := hzI
  rw [sizeLine_eq] at hz2
  have hsT : ((hL.update D (Obj.mapSeq fun _ => (#[] : Array Value))).push (seqObj "tuple" its.toArray 0)).objs.size = hL.objs.size + 1 := by rw [size_push', Heap.size_update]
  unfold ksk_tree
  refine wpAny_bind (listItems_at hoL rfl ?_)
  refine wpAny_bind (listUpdate_at hoL rfl ?_ (by rw [List.size_toArray]; exact hzI) (Nat.zero_le _))
  refine wpAny_bind (seqEpoch_at ho1 rfl ?_)
  refine wpAny_bind (wpAny_newTuple ?_ (by show its.length ≤ _; exact hzI))
  refine wpAny_bind (wpAny_newList ?_ (Nat.zero_le _))
  refine wpAny_holding ?_
  rw [hsT]
  generalize hkS : hL.objs.size + 1 = kS
  have keep1 : ∀ b o, s.heap.get? b = some o → (((hL.update D (Obj.mapSeq fun _ => (#[] : Array Value))).push (seqObj "tuple" its.toArray 0)).push (seqObj "list" #[] 0)).get? b = some o := fun b o q =>
    Heap.get?_push_of_some _ (Heap.get?_push_of_some _ ((Heap.get?_update_ne _ _ _ _ (keep0 b o q).1).trans (keep0 b o q).2))
  have hD1 : (((hL.update D (Obj.mapSeq fun _ => (#[] : Array Value))).push (seqObj "tuple" its.toArray 0)).push (seqObj "list" #[] 0)).get? D = some (seqObj "list" #[] e1) := Heap.get?_push_of_some _ (Heap.get?_push_of_some _ ho1)
  have hK1 : (((hL.update D (Obj.mapSeq fun _ => (#[] : Array Value))).push (seqObj "tuple" its.toArray 0)).push (seqObj "list" #[] 0)).get? kS = some (seqObj "list" #[] 0) := by rw [← hkS, ← hsT]; exact Heap.get?_push_size _ rfl
  have hDs : s.heap.objs.size ≤ D := by omega
  have hkSs : s.heap.objs.size ≤ kS := by omega
  have hkD : kS ≠ D := by omega
  have fD := I.fpOk hDs (I.hok.fresh hDs)
  have fK := I.fpOk hkSs (I.hok.fresh hkSs)
  have I0 : Inv X pins σ H { s with heap := ((hL.update D (Obj.mapSeq fun _ => (#[] : Array Value))).push (seqObj "tuple" its.toArray 0)).push (seqObj "list" #[] 0) } := I.kept (t' := s.toks) keep1
  generalize hh1 : ((hL.update D (Obj.mapSeq fun _ => (#[] : Array Value))).push (seqObj "tuple" its.toArray 0)).push (seqObj "list" #[] 0) = h1 at hD1 hK1 I0 ⊢
  clear hh1 keep1 hsT ho1 hoL keep0 hDL hszL hsz
  show wpAny _ _ (ksk_rest D (.ref f) false its.toArray e1 (.ref kS)) _ _ { s with heap := h1 }
  unfold ksk_rest
  refine wpAny_bind (wpAny_rule ?_)
  first
    | rw [List.forIn_toArray]
    | (rw [← Array.forIn_toList]; simp only [List.toList_toArray])
    | rw [← Array.forIn_toList]
  refine wpAny_bind (ksk_fold (fun i s' => ∃ (H' : Hp) (ks : List V) (kA : Array Value) (e : Nat), Inv X pins σ H' s' ∧ s'.heap.get? kS = some (seqObj "list" kA e) ∧ s'.heap.get? D = some (seqObj "list" #[] e1) ∧ H' kS = none ∧ H' D = none ∧ Vals ks kA.toList ∧ ks.length = i ∧ kgoL key (fun ks H' => KOkL H' ks ∧ ∀ p, H' p = none → Q (.ref p) (upd H' p (.lst (ksortL H' ks xs)))) (xs.drop i) ks H') its 0 _
    ⟨H, [], #[], 0, I0, hK1, hD1, fK.1, fD.1, .nil, rfl, q⟩ ?step ?done)
  case step =>
    rintro j v s' hv ⟨H', ks, kA, e, I', gK, gD, nK, nD, vk, hl', q'⟩
    simp only [Nat.zero_add] at hl' q' ⊢
    have hj : j < its.length := (List.getElem?_eq_some_iff.mp hv).1
    obtain ⟨x, hx⟩ : ∃ x, xs[j]? = some x := ⟨_, List.getElem?_eq_getElem (by omega)⟩
    have rx : RelV x v := by
      obtain ⟨u, hu, ru⟩ := rv.get hx
      rw [hv] at hu
      cases hu
      exact ru
    have ed : xs.drop j = x :: xs.drop (j + 1) := by
      rw [List.drop_eq_getElem_cons (List.getElem?_eq_some_iff.mp hx).1]
      congr 1
      exact (List.getElem?_eq_some_iff.mp hx).2
    rw [ed] at q'
    have hzk : kA.size ≤ its.length := by
      have h1 : ks.length = kA.size := (show ks.length = kA.toList.length from vk.length).trans Array.length_toList
      omega
    have I2 : Inv X (pins ++ [(kS, seqObj "list" kA e), (D, seqObj "list" #[] e1)]) σ H' s' := I'.pins_of fun p hp => by
      rcases List.mem_append.mp hp with hp | hp
      · exact I'.pin p (List.mem_append_right _ hp)
      · rcases List.mem_cons.mp hp with rfl | hp
        · exact ⟨gK, nK, fK.2.1, fK.2.2.1, fun v z => nomatch z⟩
        · rw [List.mem_singleton.mp hp]
          exact ⟨gD, nD, fD.2.1, fD.2.2.1, fun v z => nomatch z⟩
    refine wpAny_bind (wpAny_attempt (wpAny_mono (hkey _ σ H' s' x v _ I2 rx q') (fun k s'' he => ?_) fun _ _ hF => hF.elim))
    obtain ⟨kv, H'', J, rk, q''⟩ := he
    have pK := J.pin (kS, seqObj "list" kA e) (List.mem_append_right _ (List.mem_append_right _ (.head _)))
    have pD := J.pin (D, seqObj "list" #[] e1) (List.mem_append_right _ (List.mem_append_right _ (.tail _ (.head _))))
    have J0 : Inv X pins σ H'' s'' := J.pins_of fun p hp => J.pin p (List.mem_append_right _ (List.mem_append_left _ hp))
    have s1 := Heap.SameBut.update s''.heap kS (Obj.mapSeq (·.push k))
    obtain ⟨c2, hc2⟩ : ∃ c2, (s''.heap.update kS (Obj.mapSeq (·.push k))).get? kS = some (seqObj "list" (kA.push k) c2) := ⟨_, get?_update_seq pK.1 (·.push k)⟩
    try dsimp only
    refine wpAny_bind (listUpdate_at pK.1 rfl ?_ (by rw [sizeLine_eq]; omega) (Nat.le_trans (Nat.le_of_eq (Array.size_push ..)) (by rw [sizeLine_eq]; omega)))
    have J1 : Inv X pins σ H'' { s'' with heap := s''.heap.update kS (Obj.mapSeq (·.push k)) } := J0.turned (t' := s''.toks) (it := kS) (fun b ob hb e => (s1.2 b hb).trans e) pK.2.1 fK.2.1 fK.2.2.2.1 fK.2.2.2.2.1 fK.2.2.2.2.2
    refine wpAny_pure ⟨rfl, H'', ks ++ [kv], kA.push k, c2, J1, hc2, (s1.2 D hkD.symm).trans pD.1, pK.2.1, pD.2.1, ?_, by rw [List.length_append, hl']; rfl, q''⟩
    rw [Array.toList_push]
    exact rel_vals (Paired.snoc (vals_rel vk) rk)
  case done =>
    rintro s' ⟨H', ks, kA, e, I', gK, gD, nK, nD, vk, hl', q'⟩
    rw [Nat.zero_add] at hl' q'
    have edrop : xs.drop its.length = [] := List.drop_eq_nil_of_le (by omega)
    rw [edrop] at q'
    obtain ⟨ok, q'⟩ := q'
    have hks : kA.size = its.length := by
      have h1 : ks.length = kA.size := (show ks.length = kA.toList.length from vk.length).trans Array.length_toList
      omega
    try dsimp only
    refine wpAny_bind (listItems_at gK rfl ?_)
    refine wpAny_mono (Q := fun fl s4 => fl = .done (.ret .none) ∧ EP X pins σ Q (.ref D) s4) (E := fun _ _ => False) ?main (fun fl s4 ⟨e, h⟩ => by
      subst e
      exact ⟨_, rfl, wpAny_pure ⟨_, rfl, h⟩⟩) (fun _ _ z => z.elim)
    -- the sort's end, from an arrangement
    have fin : ∀ st : SortSt, Srtd (lt2 fun v u => ltK (rkOf H' v) (rkOf H' u)) (arrOf st).toList → Stb (lt2 fun v u => ltK (rkOf H' v) (rkOf H' u)) (arrOf st).toList (kA.zip its.toArray).toList → failedOf st = none →
        wpAny (model X.prog X.w) X.A.in1.in1 (ksk_tail D false e1 (.ref kS) st) (fun fl s4 => fl = .done (.ret .none) ∧ EP X pins σ Q (.ref D) s4) (fun _ _ => False) s' := by
      intro st hs1 hs2 hfl
      have eq1 := isort_uniq (swo2 (swo_by (rkOf H'))) hs1 hs2
      have hsz2 : (arrOf st).size = its.length := by
        have e : (arrOf st).size = (kA.zip its.toArray).size := (Array.length_toList (xs := arrOf st)).symm.trans (hs2.len.trans Array.length_toList)
        rw [Array.size_zip, hks, show its.toArray.size = its.length from List.size_toArray, Nat.min_self] at e
        exact e
      have hout : ((arrOf st).map (·.2)).size = its.length := by rw [Array.size_map]; exact hsz2
      -- what comes out, in the layer
      have pz : Paired (fun (p : V × V) (r : Value × Value) => (RelV p.1 r.1 ∧ kOf H' p.1 = rkOf H' r.1) ∧ RelV p.2 r.2) (ks.zip xs) (kA.toList.zip its) := by
        refine paired_zip (R := fun (a : V) (b : Value) => RelV a b ∧ kOf H' a = rkOf H' b) (S := fun (a : V) (b : Value) => RelV a b) ?_ (vals_rel rv)
        have pk := vals_rel vk
        have key : ∀ x ∈ ks, ∀ u, RelV x u → kOf H' x = rkOf H' u := by
          rcases ok with ok | ⟨shape, ok⟩
          · intro x hx u ru
            obtain ⟨i, rfl⟩ := ok x hx
            rw [rk_int ru]
            rfl
          · intro x hx u ru
            obtain ⟨t, rfl, _⟩ := ok x hx
            rw [rk_ref ru]
        generalize kA.toList = us at pk
        clear q' vk hl' ok hks eq1 hs1 hs2
        induction pk with
        | nil => exact .nil
        | cons h t ih => exact .cons ⟨h, key _ List.mem_cons_self _ h⟩ (ih fun x hx => key x (List.mem_cons_of_mem _ hx))
      have ez : (kA.zip its.toArray).toList = kA.toList.zip its := by
        rw [Array.toList_zip]
      rw [ez] at eq1
      have po := isort_paired (lt := ltP H') (lt2 := lt2 fun v u => ltK (rkOf H' v) (rkOf H' u)) (fun a b c d h1 h2 => by
        show ltK _ _ = ltK _ _
        rw [h1.1.2, h2.1.2]) pz
      rw [← eq1] at po
      have vo : Vals (ksortL H' ks xs) ((arrOf st).map (·.2)).toList := by
        rw [Array.toList_map]
        exact rel_vals (paired_map2 (fun a b h => h.2) po)
      unfold ksk_tail
      try dsimp only
      have s1 := Heap.SameBut.update s'.heap kS (Obj.mapSeq fun _ => (#[] : Array Value))
      have na1 : (s'.heap.update kS (Obj.mapSeq fun _ => (#[] : Array Value))).get? D = some (seqObj "list" #[] e1) := (s1.2 D hkD.symm).trans gD
      have s2 := Heap.SameBut.update (s'.heap.update kS (Obj.mapSeq fun _ => (#[] : Array Value))) D (Obj.mapSeq fun _ => (arrOf st).map (·.2))
      obtain ⟨c2, hc2⟩ : ∃ c2, ((s'.heap.update kS (Obj.mapSeq fun _ => (#[] : Array Value))).update D (Obj.mapSeq fun _ => (arrOf st).map (·.2))).get? D = some (seqObj "list" ((arrOf st).map (·.2)) c2) := ⟨_, get?_update_seq na1 fun _ => (arrOf st).map (·.2)⟩
      refine wpAny_bind (listUpdate_at gK rfl ?_ (by rw [hks]; exact hzI) (Nat.zero_le _))
      refine wpAny_bind (wpAny_letGo ?_)
      refine wpAny_bind (seqEpoch_at na1 rfl ?_)
      simp only [Bool.false_eq_true, if_false]
      refine wpAny_bind (listUpdate_at na1 rfl ?_ (Nat.zero_le _) (Nat.le_trans (Nat.le_of_eq hout) (by rw [sizeLine_eq]; omega)))
      rw [hfl]
      simp only [bne_self_eq_false, Bool.false_eq_true, if_false]
      have J1 : Inv X pins σ H' { s' with heap := s'.heap.update kS (Obj.mapSeq fun _ => (#[] : Array Value)) } := I'.turned (t' := s'.toks) (it := kS) (fun b ob hb e => (s1.2 b hb).trans e) nK fK.2.1 fK.2.2.2.1 fK.2.2.2.2.1 fK.2.2.2.2.2
      have J2 := J1.take (t' := s'.toks) (h' := (s'.heap.update kS (Obj.mapSeq fun _ => (#[] : Array Value))).update D (Obj.mapSeq fun _ => (arrOf st).map (·.2))) (it := D) (o := .lst (ksortL H' ks xs)) (fun b ob hb e => (s2.2 b hb).trans e) ⟨nD, fD.2⟩ ⟨by
        rw [(show (ksortL H' ks xs).length = ((arrOf st).map (·.2)).toList.length from vo.length), Array.length_toList, hout]
        exact hzI, _, c2, vo, by rw [Array.toArray_toList]; exact hc2⟩
      exact wpAny_pure ⟨rfl, .ref D, _, J2, rfl, q' D nD⟩
    unfold ksk_end
    try dsimp only
    simp only [Bool.false_eq_true, if_false]
    by_cases h2 : its.toArray.size < 2
    · rw [if_pos h2, if_pos h2]
      refine wpAny_bind (wpAny_pure ?_)
      rw [StateT.run_pure]
      refine wpAny_bind (wpAny_pure ?_)
      try dsimp only
      refine fin (SortSt.mk' general' (kA.zip its.toArray) #[] 7 none) ?_ (Stb.refl _) rfl
      show Srtd _ (kA.zip its.toArray).toList
      have hl2 : (kA.zip its.toArray).toList.length < 2 := by
        rw [Array.length_toList, Array.size_zip, hks]
        rw [show its.toArray.size = its.length from List.size_toArray] at h2 ⊢
        omega
      match (kA.zip its.toArray).toList, hl2 with
      | [], _ => exact List.Pairwise.nil
      | [v], _ => exact List.pairwise_singleton _ _
      | _ :: _ :: l, h => exact absurd h (by rw [List.length_cons, List.length_cons]; omega)
    · rw [if_neg h2, if_neg h2]
      rw [show its.toArray.size = its.length from List.size_toArray] at h2
      have hal : kA.toList.toArray = kA := Array.toArray_toList
      obtain ⟨κ, hkind, hT⟩ := keys_sortable (A := X.A.in1.in1) (a := D) I' ok vk (by rw [Array.length_toList]; omega) (fun o e => by
        rw [gD] at e
        cases e
        intro c
        exact absurd (Value.type.inj c) (by decide)) s'.heap (fun b o _ e => e)
      rw [hal] at hkind
      refine wpAny_bind (hkind _ _ ?_)
      have hall : AllL (fun p : Keyed => p.1 ∈ kA.toList) (kA.zip its.toArray).toList := fun p hm => by
        rw [Array.toList_zip] at hm
        exact (List.of_mem_zip hm).1
      refine wpAny_bind (wpAny_mono (wpS_sortO (st0 := SortSt.mk' κ (kA.zip its.toArray) #[] 7 none)
        (Q := fun _ st' => Srtd (lt2 fun v u => ltK (rkOf H' v) (rkOf H' u)) (arrOf st').toList ∧ Stb (lt2 fun v u => ltK (rkOf H' v) (rkOf H' u)) (arrOf st').toList (kA.zip its.toArray).toList ∧ failedOf st' = none) (swo2 (swo_by (rkOf H'))) hT rfl hall rfl rfl fun st' a1 a2 a3 => ⟨a1, a2, a3⟩) ?_ fun _ _ e => e)
      rintro ⟨⟨⟩, st'⟩ s'' ⟨rfl, hp1, hp2, hf⟩
      try dsimp only
      exact fin st' hp1 hp2 hf
end
end MP
end
section
set_option maxHeartbeats 2000000
/-! MpLa: a lambda without captured names, made and called. -/
namespace MP
open PySem PySem.Spec PyProof.Rows L2 LamX NdefX
/-- its words, its code object -/
structure LF where
  qual : Str
  params : Arguments
  body : Expr
  scope : Scope
  c : Addr
def LF.nf (F : LF) : NF := ⟨"<lambda>", F.qual, F.params, [], F.scope, [], F.c⟩
def LamO (f : Addr) (F : LF) : HO := .ext fun h => ∃ (od : Option Addr) (sl : Array (Option Value)) (pm ctv : Value), h.get? f = some (⟨.type "function", od, .func (PySem.W.kla_fn "<lambda>" F.qual F.params F.body F.scope [] pm (.ref F.c) ctv), sl⟩ : PySem.Obj)
theorem lamO_at {P : Program} {w : World} {H : Hp} {h : Heap} {f : Addr} {F : LF} (hok : HOk P w H h) (e : H f = some (LamO f F)) : ∃ (od : Option Addr) (sl : Array (Option Value)) (pm ctv : Value), h.get? f = some (⟨.type "function", od, .func (PySem.W.kla_fn "<lambda>" F.qual F.params F.body F.scope [] pm (.ref F.c) ctv), sl⟩ : PySem.Obj) := by
  obtain ⟨z, _, _⟩ := hok f _ e
  exact z
theorem clo_nil {cells : List (Str × Addr)} : ∀ {names : List (Str × NameKind)}, (∀ y ∈ names, y.2 ≠ .free) → cloFrom cells names [] = []
  | [], _ => rfl
  | y :: r, h => by
    have h1 := h y List.mem_cons_self
    have h2 := clo_nil (cells := cells) (names := r) fun z hz => h z (List.mem_cons_of_mem _ hz)
    obtain ⟨n, k⟩ := y
    cases k <;> first | exact absurd rfl h1 | exact h2
section
variable {X : L2.Cx} {pins : List (Addr × PySem.Obj)} {σ : L2.St} {H : Hp} {s : Shared}
theorem inv_lam {F : LF} {o : PySem.Obj} {t' : Nat} {pm ctv : Value} (I : Inv X pins σ H s) (ho : o = { cls := .type "function", data := .func (PySem.W.kla_fn "<lambda>" F.qual F.params F.body F.scope [] pm (.ref F.c) ctv) }) :
    Inv X pins σ (upd H s.heap.objs.size (LamO s.heap.objs.size F)) { s with heap := s.heap.push o, toks := t' } := by
  subst ho
  refine I.laid (a := s.heap.objs.size) (fun b u e => Heap.get?_push_of_some _ e) (Nat.le_refl _) ?_
  have e : (s.heap.push ({ cls := .type "function", data := .func (PySem.W.kla_fn "<lambda>" F.qual F.params F.body F.scope [] pm (.ref F.c) ctv) } : PySem.Obj)).get? s.heap.objs.size = some ({ cls := .type "function", data := .func (PySem.W.kla_fn "<lambda>" F.qual F.params F.body F.scope [] pm (.ref F.c) ctv) } : PySem.Obj) := Heap.get?_push_size _ rfl
  exact ⟨⟨_, _, pm, ctv, e⟩, ⟨_, e⟩, fun h1 h2 ⟨od, sl, p, t, z⟩ st => ⟨od, sl, p, t, st _ z⟩⟩
/-- the lambda is made -/
theorem lam_make3 {T : List (Addr × Str)} {c P : Addr} {params : Arguments} {body : Expr} {scope : Scope} {pos : Pos} {E : Value → Shared → Prop} {Q : Value → Shared → Prop} (I : Inv X pins σ H s) (TB : TabB X.base X.mg c P) (hcode : X.env.code = .ref c)
    (hm : (P, X.env.qual ++ "<lambda>") ∈ T) (hu : ∀ p ∈ T, p.1 = P → p.2 = X.env.qual ++ "<lambda>") (hT : Tabs T H) (hdef : defaultsOf params X.env = ([], [])) (hfree : ∀ y ∈ scope.names, y.2 ≠ .free)
    (h : ∀ (f c' : Addr) (H1 : Hp) (s' : Shared), Inv X pins σ H1 s' → ExtN H H1 → Tabs T H1 → H1 f = some (LamO f ⟨X.env.qual ++ "<lambda>", params, body, scope, c'⟩) → H1 c' = some (CodeO c' (X.env.qual ++ "<lambda>")) → Q (.ref f) s') :
    wpAny (model X.prog X.w) X.A (eval (.Lambda params body scope pos) X.env) Q E s := by
  obtain ⟨ps, hP, ht, ha⟩ := hT _ hm
  refine PySem.W.kla_eval hdef ?_
  have bP : s.heap.BuiltinsAt X.mg P := TB.bm.keeps I.bk
  have hP' : s.heap.get? P = some { cls := .none, data := .fields ps } := I.hok P _ hP
  have hfr : ∀ y ∈ scope.names, y.2 = .free → ∃ c, X.env.cells.lookup y.1 = some c := fun y hy e => absurd e (hfree y hy)
  have hcl : cloFrom X.env.cells scope.names [] = [] := clo_nil hfree
  cases hc : codeAmong pos ps.toList with
  | none =>
    refine PySem.W.kla_makeFunction (mg := X.mg) (c := c) (P := P) (ps := ps) (closure_ok hfr) I.ok.glob (I.mod.glob.keeps I.bk) hcode (TB.code.keeps I.bk) hP' ht hc TB.gP bP fun c' ctv h' tk hx hge hlt hrec htb => ?_
    obtain ⟨c2, oc, vs, t, e2, hoc, hd, hv⟩ := hrec
    cases e2
    have nC : H c' = none := I.hok.fresh hge
    have I1 := inv_table (t' := tk) (more := #[rawInt pos.line, rawInt pos.col, .ref c']) (h' := h') I hP (fun b o hb e => hx b o hb e) htb hge ⟨oc, vs, t, hoc, hd, hv⟩
    have hE : ExtN H (upd (upd H P (.tbl (ps ++ #[rawInt pos.line, rawInt pos.col, .ref c']))) c' (CodeO c' (X.env.qual ++ "<lambda>"))) := fun b o e n => by
      rw [upd_ne (ne_of_none e nC), upd_ne (fun z => n ps (Option.some.inj (e.symm.trans (by rw [z]; exact hP))))]
      exact e
    have eL : (ps ++ #[rawInt pos.line, rawInt pos.col, .ref c']).toList = ps.toList ++ [rawInt pos.line, rawInt pos.col, .ref c'] := by simp
    have T1 : Tabs T (upd (upd H P (.tbl (ps ++ #[rawInt pos.line, rawInt pos.col, .ref c']))) c' (CodeO c' (X.env.qual ++ "<lambda>"))) := fun p hp => by
      by_cases hb : p.1 = P
      · rw [hu p hp hb, hb]
        refine ⟨_, by rw [upd_ne (ne_of_none hP nC), upd_same], by rw [eL]; exact PySem.TriplesOk_snoc _ _ _ _ ht, fun p' cv hcv => ?_⟩
        rw [eL] at hcv
        rcases among_app _ ht hcv with z | z
        · obtain ⟨c0, e1, e2⟩ := ha p' cv z
          exact ⟨c0, e1, hE _ _ e2 codeO_ne⟩
        · exact ⟨c', z, upd_same⟩
      · obtain ⟨ps', a1, a2, a3⟩ := hT p hp
        refine ⟨ps', by rw [upd_ne (ne_of_none a1 nC), upd_ne hb]; exact a1, a2, fun p' cv hcv => ?_⟩
        obtain ⟨c0, e1, e2⟩ := a3 p' cv hcv
        exact ⟨c0, e1, hE _ _ e2 codeO_ne⟩
    have nF := I1.hok.fresh (Nat.le_refl _)
    have I2 := inv_lam (F := ⟨X.env.qual ++ "<lambda>", params, body, scope, c'⟩) (t' := tk) (pm := (X.mg "__name__").getD .none) (ctv := ctv) I1 (o := PySem.W.kla_obj "<lambda>" (X.env.qual ++ "<lambda>") params body scope (cloFrom X.env.cells scope.names []) ((X.mg "__name__").getD .none) c' ctv) (by rw [hcl])
    refine h h'.objs.size c' _ _ I2 (fun b o e n => ?_) (T1.ext fun b o e => ?_) upd_same ?_
    · have e1 := hE b o e n
      exact (upd_ne (ne_of_none e1 nF)).trans e1
    · exact (upd_ne (ne_of_none e nF)).trans e
    · exact (upd_ne (Nat.ne_of_lt hlt)).trans upd_same
  | some cv =>
    obtain ⟨c', e, hco⟩ := ha pos cv hc
    subst e
    refine PySem.W.kla_makeFunctionHit (mg := X.mg) (c := c) (P := P) (ps := ps) (closure_ok hfr) I.ok.glob (I.mod.glob.keeps I.bk) hcode (TB.code.keeps I.bk) hP' ht hc bP fun ctv h' tk hx hsz => ?_
    have I1 : Inv X pins σ H { s with heap := h', toks := tk } := I.kept hx
    have nF : H h'.objs.size = none := I1.hok.fresh (Nat.le_refl _)
    have I2 := inv_lam (F := ⟨X.env.qual ++ "<lambda>", params, body, scope, c'⟩) (t' := tk) (pm := (X.mg "__name__").getD .none) (ctv := ctv) I1 (o := PySem.W.kla_obj "<lambda>" (X.env.qual ++ "<lambda>") params body scope (cloFrom X.env.cells scope.names []) ((X.mg "__name__").getD .none) c' ctv) (by rw [hcl])
    refine h h'.objs.size c' _ _ I2 (fun b o e n => ?_) (hT.ext fun b o e => ?_) upd_same ?_
    · exact (upd_ne (ne_of_none e nF)).trans e
    · exact (upd_ne (ne_of_none e nF)).trans e
    · exact (upd_ne (ne_of_none hco nF)).trans hco
end
/-- room for one more frame of such a level -/
def RoomD (k : Nat) (A : Around) : Prop := A.handled = none ∧ A.depth + 1 + 3 * k + 5 < recursionLimit ∧ A.units + 3 + 16 * k + 200 < cLine
theorem RoomD.deeper {k : Nat} {A : Around} (r : RoomD k A) (env : Env) : Room k (A.deeper env) := ⟨r.1, r.2.1, r.2.2⟩
theorem RoomD.of {k : Nat} {A : Around} (r : Room (k + 1) A) : RoomD k A.in1.in1 :=
  ⟨r.hd, by have := r.dp; show A.depth + 1 + 3 * k + 5 < _; omega, by have := r.un; show A.units + 1 + 1 + 3 + 16 * k + 200 < _; omega⟩
theorem Room.in2 {k : Nat} {A : Around} (r : Room (k + 1) A) : Room k A.in1.in1 :=
  ⟨r.hd, by have := r.dp; show A.depth + 3 * k + 5 < _; omega, by have := r.un; show A.units + 1 + 1 + 16 * k + 200 < _; omega⟩
/-- the promise of a lambda's body -/
structure LOk (P : Program) (w : World) (K : PySem.W.Frag) (mg : Str → Option Value) (base : Heap) (CX : CXT) (k : Nat) (f : Addr) (F : LF) (ps : List Str) (sp : Sp) : Prop where
  run : ∀ (A : Around) (outer : List Env) (s : Shared) (H : Hp) (us : List Value) (vs : List V) (Q : VK) (E : XK), RoomD k A → Env0 P w K mg base A outer s H → H f = some (LamO f F) → H F.c = some (CodeO F.c F.qual) →
    Vals vs us → sp vs H Q E → codeAny (model P w) A (.call (.ref f) ⟨us, []⟩) (CR CX outer P w H s Q E) s
section
variable {CX : CXT} {P : Program} {w : World} {K : PySem.W.Frag} {mg : Str → Option Value} {base : Heap} {N ps : List Str} {F : LF} {f : Addr} {k : Nat} {sp : Sp}
theorem lok_of (S : NScope N ps [] F.scope) (hb : ∀ (pm ctv : Value) (us : List Value), us.length = ps.length → bindArgs (PySem.W.kla_fn "<lambda>" F.qual F.params F.body F.scope [] pm (.ref F.c) ctv) ⟨us, []⟩ = pure (ps.zip us)) (len : ∀ vs H Q E, sp vs H Q E → vs.length = ps.length)
    (hbody : ∀ (A : Around) (outer : List Env) (s : Shared) (H : Hp) (vs : List V) (Q : VK) (E : XK), Room k (A.deeper (envF F.nf f s.heap.objs.size)) → sp vs H Q E →
      ∃ t, PE (ncx CX P w K mg base N F.nf f A outer s H E) F.body t ∧ t (startF N vs []) H Q) :
    LOk P w K mg base CX k f F ps sp := by
  refine ⟨fun A outer s H us vs Q E hr e0 hf hc r hsp => ?_⟩
  have hl := len _ _ _ _ hsp
  have lim : s.heap.NoLimit := e0.mod.nolimit.keeps fun b o e => (e0.bs b o e).1
  obtain ⟨od, sl, pm, ctv, ho⟩ := lamO_at e0.hok hf
  refine PySem.W.kla_callFunE (body := F.body) (by have := hr.2.1; omega) ho rfl S.co S.gen rfl (codeO_at e0.hok hc) ?_
  rw [hb pm ctv us (by rw [← r.length]; exact hl)]
  refine wpAny_pure (wpAny_newFunctionEnv S.nocell (fun ⟨n, _⟩ hy => S.par n (List.of_mem_zip hy).1) (fun h₁ hns hsb => ⟨lim.fresh _ hsb, ?_⟩) S.kind)
  show codeAny _ _ (.expr F.body (envF F.nf f s.heap.objs.size)) _ _
  refine PySem.W.kla_codeExpr ?_
  have kp : ∀ b o, s.heap.get? b = some o → h₁.get? b = some o := fun b o e => hsb.extBut b o (Nat.ne_of_lt (Heap.lt_size e)) (Heap.get?_push_of_some _ e)
  obtain ⟨t, ht, hq⟩ := hbody A outer s H vs Q E (hr.deeper _) hsp
  have I : Inv (ncx CX P w K mg base N F.nf f A outer s H E) [] (startF N vs []) H { s with heap := h₁, toks := s.toks + (ps.zip us).length } := inv_startN (F := F.nf) S hr.1 e0 hl r ⟨rfl, (fun y c e => nomatch (show (none : Option Addr) = some c from e)), (fun x y c e _ => nomatch (show (none : Option Addr) = some c from e)), (fun i y e => nomatch (show (none : Option Str) = some y from by simpa using e))⟩ hns kp
  refine wpAny_mono (ht.run [] _ (startF N vs []) H _ I hq) (fun u s' hs => ?_) fun e s' hs => hs
  obtain ⟨v, H', J, rv, q⟩ := hs
  exact ⟨v, H', J.os, J.bare, J.base, J.hok, rv, q⟩
end
end MP
namespace MP
open PySem PySem.Spec PyProof.Rows L2 LamX NdefX
theorem cx_false {prog : Program} {w : World} {outer : List Env} {H : Hp} {s : Shared} {e : Value} {s' : Shared} (h : L2.CX prog w outer H s (fun _ _ _ => False) e s') : False := by
  obtain ⟨a, B, H', cls, d, _, _, _, _, _, _, _, z⟩ := h
  exact z
section
variable {X : L2.Cx}
/-- sorted(xs, key=f) as a rule -/
theorem cr_sortedK {key : Addr → V → Hp → VK → Prop} (hkey : ∀ (f : Addr) (pins : List (Addr × PySem.Obj)) (σ : L2.St) (H : Hp) (s : Shared) (x : V) (u : Value) (Q : VK), Inv X pins σ H s → RelV x u → key f x H Q → wpAny (model X.prog X.w) X.A.in1.in1 (call (.ref f) [u]) (EP X pins σ Q) (fun _ _ => False) s) :
    CallRK X (.builtin "sorted") [Str.ofString "key"] (fun vs zs H Q => ∃ (a f : Addr) (xs : List V), vs = [.ref a] ∧ zs = [.ref f] ∧ SqL X.K H a xs ∧ kgoL (key f) (fun ks H' => KOkL H' ks ∧ ∀ p, H' p = none → Q (.ref p) (upd H' p (.lst (ksortL H' ks xs)))) xs [] H) := by
  intro pins s σ H vs zs us ws Q I r rz h
  obtain ⟨a, f, xs, rfl, rfl, hs, q⟩ := h
  obtain ⟨u, rfl, ru⟩ := vals1 r
  obtain rfl : u = Value.ref a := ru
  obtain ⟨w, rfl, rw'⟩ := vals1 rz
  obtain rfl : w = Value.ref f := rw'
  exact sortedK (hkey f) I hs q
/-- a lambda's key -/
def lamSp (Γ : Gam) (T : Tb) (K : Frag) (m : E) : Sp := fun vs H Q _ => ∃ (v : V) (u : Val) (h : VH), vs = [v] ∧ RV T K H u v ∧ RH T K h H ∧ wpE Γ m [some u] h (dn T K H Q) (fun _ _ => False)
def lamKey (Γ : Gam) (T : Tb) (K : Frag) (m : E) (mk : Addr → LF) : Addr → V → Hp → VK → Prop := fun f x H Q => ∃ c', H f = some (LamO f (mk c')) ∧ H (mk c').c = some (CodeO (mk c').c (mk c').qual) ∧ lamSp Γ T K m [x] H Q fun _ _ _ => False
theorem lamKey_ok {Γ : Gam} {T : Tb} {m : E} {mk : Addr → LF} {k : Nat} {ps : List Str} (hr : RoomD k X.A.in1.in1) (hl : ∀ f c', LOk X.prog X.w X.K X.mg X.base (L2.CX X.prog X.w) k f (mk c') ps (lamSp Γ T X.K m)) (f : Addr) (pins : List (Addr × PySem.Obj)) (σ : L2.St) (H : Hp) (s : Shared) (x : V) (u : Value) (Q : VK) (I : Inv X pins σ H s) (r : RelV x u) (q : lamKey Γ T X.K m mk f x H Q) :
    wpAny (model X.prog X.w) X.A.in1.in1 (call (.ref f) [u]) (EP X pins σ Q) (fun _ _ => False) s := by
  obtain ⟨c', h1, h2, h3⟩ := q
  refine wpAny_call (codeAny_mono ((hl f c').run X.A.in1.in1 X.stack s H [u] [x] Q (fun _ _ _ => False) hr I.env0.in1.in1 h1 h2 (.cons r .nil) h3) fun r s' hq => ?_)
  cases r with
  | error e => exact cx_false hq
  | ok fl =>
    cases fl with
    | ret u => exact I.after hq
    | next => exact False.elim hq
    | brk => exact False.elim hq
    | cont => exact False.elim hq
/-- a def as a key -/
def fnKey (Γ : Gam) (T : Tb) (K : Frag) (l : String) : Addr → V → Hp → VK → Prop := fun f x H Q => f = T.fn l ∧ ∃ (u : Val) (h : VH), RV T K H u x ∧ RH T K h H ∧ Γ.call l [u] h (dn T K H Q) (fun _ _ => False)
theorem fnKey_ok {Γ : Gam} {T : Tb} {l : String} (L : Le Γ Γ) {k : Nat} {fd : FuncData} {ps : List Str} (F : FnOk X.prog X.w X.K X.mg X.base (L2.CX X.prog X.w) k (T.fn l) fd ps (spc Γ T X.K l ps.length)) (hr : Room k X.A.in1.in1) (hb : Binds X.K fd ps []) (hlen : ∀ vals h Q E, Γ.call l vals h Q E → vals.length = ps.length)
    (f : Addr) (pins : List (Addr × PySem.Obj)) (σ : L2.St) (H : Hp) (s : Shared) (x : V) (u : Value) (Q : VK) (I : Inv X pins σ H s) (r : RelV x u) (q : fnKey Γ T X.K l f x H Q) :
    wpAny (model X.prog X.w) X.A.in1.in1 (call (.ref f) [u]) (EP X pins σ Q) (fun _ _ => False) s := by
  obtain ⟨rfl, v, h, rv, rh, w⟩ := q
  have hl : (([u] : List Value) ++ []).length = ps.length := hlen _ _ _ _ w
  have b2 := hb s [u] I.kIn hl
  rw [List.append_nil] at b2
  refine wpAny_call (codeAny_mono (F.run X.A.in1.in1 X.stack s H ⟨[u], []⟩ [u] [x] Q (fun _ _ _ => False) hr I.env0.in1.in1 b2 (.cons r .nil) ⟨hl, [v], h, .cons rv .nil, rh, L.call _ _ _ _ _ _ _ (fun _ _ z => z) (fun _ _ z => z.elim) w⟩) fun r s' hq => ?_)
  cases r with
  | error e => exact cx_false hq
  | ok fl =>
    cases fl with
    | ret u => exact I.after hq
    | next => exact False.elim hq
    | brk => exact False.elim hq
    | cont => exact False.elim hq
end
/-! ### own keys, the layer's keys -/
theorem keyOk_rv {T : Tb} {K : Frag} {H : Hp} {ks : List Val} {kv : List V} (ok : KeyOk ks) (r : RVs T K H ks kv) : KOkL H kv ∧ ∀ k ∈ ks, ∀ y, RV T K H k y → kOf H y = keyL k := by
  have p : Paired (fun k y => k ∈ ks ∧ RV T K H k y) ks kv := rvs_paired r fun k hk y ry => ⟨hk, ry⟩
  rcases ok with ok | ⟨shape, ok⟩
  · refine ⟨.inl fun y hy => ?_, fun k hk y ry => ?_⟩
    · obtain ⟨k, _, hk, ry⟩ := paired_right p y hy
      obtain ⟨i, rfl⟩ := ok k hk
      exact ⟨i, rv_int.mp ry⟩
    · obtain ⟨i, rfl⟩ := ok k hk
      rw [rv_int.mp ry]
      rfl
  · refine ⟨.inr ⟨shape, fun y hy => ?_⟩, fun k hk y ry => (flat_rv (ok k hk) ry).1⟩
    obtain ⟨k, _, hk, ry⟩ := paired_right p y hy
    obtain ⟨_, ⟨t, e1, e2⟩, e3, e4⟩ := flat_rv (ok k hk) ry
    exact ⟨t, e1, e2, e3, e4⟩
theorem ksort_rv {T : Tb} {K : Frag} {H : Hp} {ks xs : List Val} {kv xv : List V} (ok : KeyOk ks) (r : RVs T K H ks kv) (rx : RVs T K H xs xv) : RVs T K H (ksort ks xs) (ksortL H kv xv) := by
  have h2 := (keyOk_rv ok r).2
  have p1 : Paired (fun k y => kOf H y = keyL k) ks kv := rvs_paired r h2
  have p2 : Paired (fun k y => RV T K H k y) xs xv := rvs_paired rx fun _ _ _ h => h
  have p := isort_paired (lt := fun p q : Val × Val => ltV p.1 q.1) (lt2 := ltP H) (fun a b c d h1 h2 => by
    show PyProof.Rows.lexLt itemOrd (keyL a.1) (keyL c.1) = ltK (kOf H b.1) (kOf H d.1)
    rw [h1.1, h2.1]) (paired_zip p1 p2)
  exact paired_rvs (paired_map2 (S := fun k y => RV T K H k y) (fun a b h => h.2) p) fun _ _ h => h
theorem kgo_down {T : Tb} {K : Frag} {keyO : Val → VH → KV → Prop} {keyV : V → Hp → VK → Prop} {H0 : Hp} {finO : List Val → VH → Prop} {finV : List V → Hp → Prop} {G : Hp → Prop} (hG : ∀ H H', HLe H H' → G H → G H')
    (hk : ∀ v h (Q : KV) x H (Q' : VK), HLe H0 H → G H → RV T K H v x → RH T K h H → keyO v h Q → (∀ k h', Q k h' → dn T K H Q' k h') → keyV x H Q') (hf : ∀ ks h kv H, HLe H0 H → G H → RVs T K H ks kv → RH T K h H → finO ks h → finV kv H) :
    ∀ (r ks : List Val) (h : VH) (rv kv : List V) (H : Hp), HLe H0 H → G H → RVs T K H r rv → RVs T K H ks kv → RH T K h H → kgo keyO finO r ks h → kgoL keyV finV rv kv H
  | [], ks, h, rv, kv, H, l, g, r1, r2, rh, z => by rw [r1.of_nil]; exact hf ks h kv H l g r2 rh z
  | v :: r, ks, h, rv, kv, H, l, g, r1, r2, rh, z => by
    obtain ⟨x, t, rfl, rx, rt⟩ := r1.of_cons
    exact hk v h _ x H _ l g rx rh z fun k h' q y H' l' rh' ry => kgo_down hG hk hf r (ks ++ [k]) h' t (kv ++ [y]) H' (l.trans l') (hG _ _ l' g) (rt.le l') ((r2.le l').append (.cons ry .nil)) rh' q
theorem srt_fin {T : Tb} {K : Frag} {H0 H : Hp} {Q : VK} {xs : List Val} {xv : List V} {ks : List Val} {h : VH} {kv : List V} (l : HLe H0 H) (rx : RVs T K H xs xv) (r : RVs T K H ks kv) (rh : RH T K h H) (z : srtK (dn T K H0 Q) xs ks h) : KOkL H kv ∧ ∀ p, H p = none → Q (.ref p) (upd H p (.lst (ksortL H kv xv))) :=
  ⟨(keyOk_rv z.1 r).1, fun p hp => dn.newL (fun p hp => dn.sh l (z.2.2 p hp)) rh (ksort_rv z.1 r rx) p hp⟩
theorem sqL_extN {K : Frag} {H H' : Hp} {a : Addr} {ys : List V} (e : ExtN H H') (h : SqL K H a ys) : SqL K H' a ys := by
  rcases h with (h | ⟨o, h⟩) | h
  · exact .inl (.inl (e _ _ h fun _ z => nomatch z))
  · exact .inl (.inr ⟨o, e _ _ h fun _ z => nomatch z⟩)
  · exact .inr h
section
variable {X : Ctx} {Γ : Gam} {T : Tb} {W : WX} {a : Expr} {ma mb : E} {p kp lp pos : Pos} {params : Arguments} {body : Expr} {scope : Scope} {x : Str}
theorem takesF : Takes X W0 := fun u s' ⟨a, B, sI, pins, σ, H, cls, d, e, I, nb, up, sky, na, os, ag, w⟩ => w.elim
/-- the lambda as an expression -/
theorem pe_lam {c P : Addr} (TB : TabB X.base X.mg c P) (hcode : X.env.code = .ref c) (hm : (P, X.env.qual ++ "<lambda>") ∈ T.tabs) (hu : ∀ p ∈ T.tabs, p.1 = P → p.2 = X.env.qual ++ "<lambda>") (hdef : defaultsOf params X.env = ([], [])) (hfree : ∀ y ∈ scope.names, y.2 ≠ .free) :
    PE X (.Lambda params body scope lp) (fun _ H Q => Tabs T.tabs H ∧ ∀ (f c' : Addr) (H1 : Hp), ExtN H H1 → Tabs T.tabs H1 → H1 f = some (LamO f ⟨X.env.qual ++ "<lambda>", params, body, scope, c'⟩) → H1 c' = some (CodeO c' (X.env.qual ++ "<lambda>")) → Q (.ref f) H1) :=
  ⟨fun pins s σ H Q I ⟨hT, q⟩ => lam_make3 I TB hcode hm hu hT hdef hfree fun f c' H1 s' I1 e t h1 h2 => ⟨.ref f, H1, I1, rfl, q f c' H1 e t h1 h2⟩⟩
theorem s_srtk (L : Le Γ Γ) {c P : Addr} {k : Nat} {ps : List Str} (hg : Gl X "sorted") (hgm : X.mg "sorted" = none) (ha : PE X a (tE Γ T X.K W ma)) (he : backTo pos (starEach [a] X.env) = (false, eval a X.env) :: backTo pos (starEach [] X.env)) (hpl : (backTo pos (starEach [a] X.env)).any (·.1) = false)
    (TB : TabB X.base X.mg c P) (hcode : X.env.code = .ref c) (hm : (P, X.env.qual ++ "<lambda>") ∈ T.tabs) (hu : ∀ p ∈ T.tabs, p.1 = P → p.2 = X.env.qual ++ "<lambda>") (hdef : defaultsOf params X.env = ([], [])) (hfree : ∀ y ∈ scope.names, y.2 ≠ .free)
    (hr : RoomD k X.A.in1.in1) (hl : ∀ f c', LOk X.prog X.w X.K X.mg X.base (L2.CX X.prog X.w) k f ⟨X.env.qual ++ "<lambda>", params, body, scope, c'⟩ ps (lamSp Γ T X.K mb))
    (hs : starEach [a] X.env = (false, eval a X.env) :: starEach [] X.env) :
    PE X (.Call (.Name "sorted" p) [a] [⟨some (Str.ofString "key"), .Lambda params body scope lp, kp⟩] pos) (tE Γ T X.K W (.srtk ma 1 mb)) :=
  (pe_callBK (cr_sortedK (lamKey_ok hr hl)) hg hgm (by decide +kernel) (pa_cons ha pa_nil hs) (pk_cons (pe_lam TB hcode hm hu hdef hfree) pk_nil) (by decide +kernel) (by decide +kernel) he hpl).imp fun σ H Q ⟨σv, h, rs, rh, w⟩ => by
    simp only [wpE] at w
    refine tE.of L .refl rs rh w fun u h1 w1 xv H1 l1 rh1 rx => ?_
    cases q : lstV u h1 with
    | none => rw [q] at w1; exact w1.elim
    | some xs =>
      rw [q] at w1
      dsimp only at w1
      obtain ⟨a0, ys, rfl, sp, rys⟩ := lstR_of rh1 rx q
      refine ⟨rh1.tabs, fun f c' H2 e2 t2 hf hc' => ⟨a0, f, ys, rfl, rfl, sqL_extN e2 sp, ?_⟩⟩
      have l2 : HLe H1 H2 := .extN e2
      exact kgo_down (T := T) (K := X.K) (H0 := H) (keyV := lamKey Γ T X.K mb (fun c' => ⟨X.env.qual ++ "<lambda>", params, body, scope, c'⟩) f) (G := fun H => H f = some (LamO f ⟨X.env.qual ++ "<lambda>", params, body, scope, c'⟩) ∧ H c' = some (CodeO c' (X.env.qual ++ "<lambda>")) ∧ RVs T X.K H xs ys)
        (fun H H' l g => ⟨l.ext _ _ g.1, l.ext _ _ g.2.1, g.2.2.le l⟩) (fun v h Q x H Q' l g rv rh z k => ⟨c', g.1, g.2.1, x, v, h, rfl, rv, rh, wpE_mono L mb _ h _ _ _ _ k (fun _ _ z => z) z⟩)
        (fun ks h kv H l g r rh z => srt_fin l g.2.2 r rh z) xs [] h1 ys [] H2 (l1.trans l2) ⟨hf, hc', rys.le l2⟩ (rys.le l2) .nil (rh1.more e2 t2) w1
theorem s_srtf (L : Le Γ Γ) {l : String} {fx : Str} {fp : Pos} {k : Nat} {fd : FuncData} {ps : List Str} (hg : Gl X "sorted") (hgm : X.mg "sorted" = none) (ha : PE X a (tE Γ T X.K W ma)) (he : backTo pos (starEach [a] X.env) = (false, eval a X.env) :: backTo pos (starEach [] X.env)) (hpl : (backTo pos (starEach [a] X.env)).any (·.1) = false)
    (hf : PE X (.Name fx fp) (tC (.ref (T.fn l)))) (F : FnOk X.prog X.w X.K X.mg X.base (L2.CX X.prog X.w) k (T.fn l) fd ps (spc Γ T X.K l ps.length)) (hr : Room k X.A.in1.in1) (hb : Binds X.K fd ps []) (hlen : ∀ vals h Q E, Γ.call l vals h Q E → vals.length = ps.length)
    (hs : starEach [a] X.env = (false, eval a X.env) :: starEach [] X.env) :
    PE X (.Call (.Name "sorted" p) [a] [⟨some (Str.ofString "key"), .Name fx fp, kp⟩] pos) (tE Γ T X.K W (.srtf ma l)) :=
  (pe_callBK (cr_sortedK (fnKey_ok L F hr hb hlen)) hg hgm (by decide +kernel) (pa_cons ha pa_nil hs) (pk_cons hf pk_nil) (by decide +kernel) (by decide +kernel) he hpl).imp fun σ H Q ⟨σv, h, rs, rh, w⟩ => by
    simp only [wpE] at w
    refine tE.of L .refl rs rh w fun u h1 w1 xv H1 l1 rh1 rx => ?_
    cases q : lstV u h1 with
    | none => rw [q] at w1; exact w1.elim
    | some xs =>
      rw [q] at w1
      dsimp only at w1
      obtain ⟨a0, ys, rfl, sp, rys⟩ := lstR_of rh1 rx q
      refine ⟨a0, T.fn l, ys, rfl, rfl, sp, ?_⟩
      exact kgo_down (T := T) (K := X.K) (H0 := H) (keyV := fnKey Γ T X.K l (T.fn l)) (G := fun H => RVs T X.K H xs ys)
        (fun H H' l g => g.le l) (fun v h Q x H Q' l g rv rh z k => ⟨rfl, v, h, rv, rh, L.call _ _ _ _ _ _ _ k (fun _ _ z => z) z⟩)
        (fun ks h kv H l g r rh z => srt_fin l g r rh z) xs [] h1 ys [] H1 l1 rys rys .nil rh1 w1
end
end MP
end
section
set_option maxHeartbeats 2000000
/-! MpSk: lists turned round; the keys of a dict sorted; a text's count, a list cleared. -/
namespace MP
open PySem PySem.Spec PyProof.Rows L2
section
variable {prog : Program} {w : World} {A : Around} {E : Value → Shared → Prop} {s : Shared} {d : Addr} {es : Array DictEntry} {ep : Nat}
theorem sorted_src {T : String} {r : Addr} {P : Nat → Value → Prop} {OK : Heap → Prop} (K : PySem.W.KdlSrc prog w T r d es.size P OK) (hP : ∀ i v, P i v → ∃ en : DictEntry, es[i]? = some en ∧ v = en.key) {vs : List Value} {ltv : Value → Value → Bool} {Q : Value → Shared → Prop} (O : SrtO.Swo ltv) (hh : A.handled = none) (hm : OK s.heap) (ev : vs = es.toList.map fun en => en.key) (hz : vs.length ≤ sizeLine)
    (hS : 2 ≤ vs.length → ∀ (h₁ : Heap) (tk : Nat) (a : Addr), h₁.get? a = some (seqObj "list" vs.toArray 0) → (∀ b o, s.heap.get? b = some o → b ≠ a ∧ h₁.get? b = some o) → SrtO.SortableO prog w A.in1.in1 { s with heap := h₁, toks := tk } a vs ltv)
    (h : ∀ (h' : Heap) (tk : Nat) (D : Addr) (out : List Value), SrtO.Srtd ltv out → SrtO.Stb ltv out vs → (∀ b o, s.heap.get? b = some o → h'.get? b = some o) → s.heap.objs.size ≤ D → (∃ n, h'.get? D = some (seqObj "list" out.toArray n)) → Q (.ref D) { s with heap := h', toks := tk }) :
    wpAny (model prog w) A (call (.builtin "sorted") [.ref r]) Q E s := by
  refine Calls.call_function_entry kind_sorted plain_sorted entry_sorted (args_sorted1 _) ?_
  unfold Builtin.«sorted»
  refine wpAny_bind (m := checkCount "sorted" 1 1 _) (wpAny_pure ?_)
  refine wpAny_bind (collect2 (A := A.in1) K hh hm (by rw [ev, List.length_map, Array.length_toList] at hz; exact hz) fun h1 tk acc hk hgr hacc => ?_)
  have ea : acc.toList = vs := by
    refine List.ext_getElem? fun i => ?_
    rw [ev, List.getElem?_map, Array.getElem?_toList, Array.getElem?_toList]
    cases e : acc[i]? with
    | none =>
      have : es.size ≤ i := by
        have := Array.getElem?_eq_none_iff.mp e
        rw [hacc.1] at this
        exact this
      rw [Array.getElem?_eq_none this]
      rfl
    | some v =>
      obtain ⟨en, e1, rfl⟩ := hP i v (hacc.2 i v e)
      rw [e1]
      rfl
  rw [ea]
  refine wpAny_bind (wpAny_newList ?_ hz)
  have hoL : (h1.push (seqObj "list" vs.toArray 0)).get? h1.objs.size = some (seqObj "list" vs.toArray 0) := Heap.get?_push_size _ rfl
  have keep : ∀ b o, s.heap.get? b = some o → b ≠ h1.objs.size ∧ (h1.push (seqObj "list" vs.toArray 0)).get? b = some o := fun b o q => ⟨Nat.ne_of_lt (Heap.lt_size (hk b o q)), Heap.get?_push_of_some _ (hk b o q)⟩
  show wpAny _ _ _ _ _ { s with heap := h1.push (seqObj "list" vs.toArray 0), toks := tk }
  refine wpAny_bind (wpAny_holding (wpAny_call_entry slot_list_sort ⟨_, hoL, rfl⟩ entry_list_sort (SrtO.list_sort_ord O hoL hz (fun h2 => hS h2 _ tk _ hoL keep) fun out hs hb => ⟨_, rfl, ?_⟩) (args_list_sort _)))
  refine wpAny_pure ⟨_, rfl, h _ tk _ out hs hb (fun b o q => ?_) ?_ (sortedHeap_at hoL)⟩
  · rw [sortedHeap_old (keep b o q).1 (Heap.lt_size (keep b o q).2)]
    exact (keep b o q).2
  · exact hgr
theorem meetsKeys (hd : (d == sysModules) = false) :
    MeetsIn prog w (Builtin.«dict.keys» ⟨[.ref d], []⟩) (fun _ R s => DT.Raw s.heap d es ep ∧
      R (.ok (.ret (.ref s.heap.objs.size))) { s with heap := s.heap.push { cls := .type "dict_keys", data := .fields #[.ref d] } }) :=
  .of_wp fun A R s ⟨hm, h⟩ => by
    refine wpAny_bind ?_
    unfold Builtin.Dict.noArgs
    refine wpAny_bind (wpAny_notOrdered_dict hm.typeIs ?_)
    show wpAny _ _ (pure d) _ _ s
    refine wpAny_pure ?_
    show wpAny _ _ (Builtin.Dict.showsAll d >>= _) _ _ s
    unfold Builtin.Dict.showsAll
    rw [if_neg (by rw [hd]; exact Bool.false_ne_true)]
    refine wpAny_bind (wpAny_pure ?_)
    exact wpAny_bind (wpAny_newObj_type (wpAny_pure ⟨_, rfl, h⟩))
end
/-- a view of a dict's keys -/
def KeysO (r d : Addr) : HO := .ext fun h => PySem.W.KdlKeysView h r d
def rSortedTK : List V → Hp → VK → Prop := fun vs H Q => ∃ (r d : Addr) (kvs : List (List Key × V)) (shape : Nat → Bool), vs = [V.ref r] ∧ H r = some (KeysO r d) ∧ H d = some (.dT kvs) ∧
  (∀ p ∈ kvs, ∀ y t, y = V.ref t → H t = some (.tup (p.1.map kV)) → H t = some (.tup ((kOf H y).map lfV)) ∧ kOf H y ≠ [] ∧ ∀ j z, (kOf H y)[j]? = some z → shape j = isR z) ∧
  ∀ qs : List V, Paired (fun p q => ∃ t, q = V.ref t ∧ H t = some (.tup (p.1.map kV))) kvs qs → ∀ p, H p = none → Q (.ref p) (upd H p (.lst (isort (fun x y => ltK (kOf H x) (kOf H y)) qs)))
section
variable {X : L2.Cx}
theorem cr_sortedTK (hc : X.calm = true) : CallR X (.builtin "sorted") rSortedTK := by
  intro pins s σ H vs us Q I r h
  obtain ⟨rv, d, kvs, shape, rfl, hrv, hd, hk, q⟩ := h
  obtain ⟨u, rfl, ru⟩ := vals1 r
  obtain rfl : u = Value.ref rv := ru
  obtain ⟨hz, lo, xs, pr, o, es, ep, ho, hx, hdt, he, hrest⟩ := I.hok d _ hd
  have raw : s.heap.DictRaw d es ep := ⟨o, ho, hx, hdt⟩
  have hvw : PySem.W.KdlKeysView s.heap rv d := (I.hok rv _ hrv).1
  have ekeys : (es.toList.map fun en => en.key) = xs.map fun x => Value.ref x.2.1 := by
    rw [he, List.map_map]
    rfl
  have hlen : kvs.length = xs.length := Paired.length pr
  have P : Paired (fun (p : List Key × V) (q : V) => ∃ t, q = V.ref t ∧ H t = some (.tup (p.1.map kV))) kvs (xs.map fun x => V.ref x.2.1) := by
    clear hk q hrest he ekeys hlen hz hd
    induction pr with
    | nil => exact .nil
    | cons h t ih => exact .cons ⟨_, rfl, h.2.1⟩ ih
  have eV : (xs.map fun x => V.ref x.2.1) = (xs.map fun x => Value.ref x.2.1).map backV := by
    rw [List.map_map]
    rfl
  have hvs : ∀ v ∈ (xs.map fun x => Value.ref x.2.1), ∃ a, v = Value.ref a := fun v hv => by
    obtain ⟨x, _, rfl⟩ := List.mem_map.mp hv
    exact ⟨_, rfl⟩
  have hkk : ∀ v ∈ (xs.map fun x => Value.ref x.2.1), IsK s.heap shape v (kOf H (backV v)) ∧ kOf H (backV v) ≠ [] := fun v hv => by
    have hm : backV v ∈ xs.map fun x => V.ref x.2.1 := by rw [eV]; exact List.mem_map.mpr ⟨v, hv, rfl⟩
    obtain ⟨p, hp, t, e1, e2⟩ := paired_right P _ hm
    obtain ⟨e3, hne, hsh⟩ := hk p hp _ t e1 e2
    obtain ⟨a, rfl⟩ := hvs v hv
    cases e1
    obtain ⟨_, its2, r2, o, ho, hc, n, hd⟩ := I.hok _ _ e3
    exact ⟨⟨_, o, _, n, rfl, ho, hc, hd, titems_of r2 fun j y hy => by rw [Nat.zero_add]; exact hsh j y hy⟩, hne⟩
  have hzs : (xs.map fun x => Value.ref x.2.1).length ≤ sizeLine := by rw [List.length_map, ← hlen]; exact hz
  refine sorted_src (ltv := fun v u => ltK (kOf H (backV v)) (kOf H (backV u))) (KdlSrc.rawKeys (es := es) (ep := ep) (r := rv) (d := d)) (fun i v hv => ?_) (swo_by fun v => kOf H (backV v)) (I.ok.hd hc) ⟨hvw, raw⟩ ekeys.symm hzs (fun h2 h₁ tk a' ha kk => ?_) fun h' tk D out h1 h2 hke hge hD => ?_
  · obtain ⟨hi, rfl⟩ := hv
    exact ⟨_, Array.getElem?_eq_getElem hi, rfl⟩
  · refine sortable (s := { s with heap := h₁, toks := tk }) (k := fun v => kOf H (backV v)) (shape := shape) (by omega) (fun v hm => ⟨(hkk v hm).1.keeps fun b o e _ => (kk b o e).2, (hkk v hm).2⟩) fun o e => ?_
    have e' := e.symm.trans ha
    cases e'
    intro c
    exact absurd (Value.type.inj c) (by decide)
  · have h3 : ∀ u ∈ out, ∃ a, u = Value.ref a := fun u hu => hvs u (h2.perm.mem_iff.mp hu)
    have hb : SrtO.Stb (fun x y => ltK (kOf H x) (kOf H y)) (out.map backV) (xs.map fun x => V.ref x.2.1) := by
      rw [eV]
      exact SrtO.Stb.map (swo_by (kOf H)) backV h2
    obtain ⟨n, hn⟩ := hD
    have ei := isort_uniq (swo_by (kOf H)) (SrtO.srtd_map h1) hb
    refine ⟨.ref D, upd H _ (.lst (out.map backV)), I.laid (t' := tk) hke hge ⟨?_, out, n, vals_back h3, hn⟩, rfl, ?_⟩
    · rw [hb.len, List.length_map, ← hlen]
      exact hz
    · rw [ei]
      exact q _ P _ (I.hok.fresh hge)
end
section
variable {X : Ctx} {Γ : Gam} {T : Tb} {W : WX} {a e : Expr} {ma : E} {td : TE} {apos cpos : Pos}
/-- d.keys() as a value -/
def tKeysV (X : Ctx) (td : TE) : TE := fun σ H Q => td σ H fun x H1 => ∃ d kvs, x = .ref d ∧ H1 d = some (.dT kvs) ∧ ∀ r, H1 r = none → Q (.ref r) (upd H1 r (KeysO r d))
theorem pe_keysV (he : PE X e td) (hbase : attributeBase e "keys" X.env (eval e X.env) = eval e X.env) (hline : (apos.endLine == cpos.line) = true) : PE X (.Call (.Attribute e "keys" apos) [] [] cpos) (tKeysV X td) := by
  refine ⟨fun pins s σ H Q I h => ?_⟩
  refine wpAny_Call_method (T := "dict") (id := "dict.keys") hbase rfl hline F.plainAttrs_dict F.slot_dict_keys F.type_dict_keys (thn (he.run pins s σ H _ I h) fun u s1 ⟨x, H1, I1, rx, d, kvs, ex, hd0, q⟩ => ?_)
  subst ex
  obtain rfl : u = Value.ref d := rx
  obtain ⟨hz, hs, xs, pr, o, es, ep, hgd, hx, hdt, hrest⟩ := I1.hok d _ hd0
  have raw : DT.Raw s1.heap d es ep := ⟨o, hgd, hx, hdt⟩
  refine ⟨raw.typeIs, fun a' e' => ⟨o, by cases e'; exact hgd, hx.2.1⟩, ?_⟩
  have gp : (s1.heap.push { cls := .type "dict_keys", data := .fields #[.ref d] }).get? s1.heap.objs.size = some { cls := .type "dict_keys", data := .fields #[.ref d] } := Heap.get?_push_size _ rfl
  have I2 : Inv X pins σ (upd H1 s1.heap.objs.size (KeysO s1.heap.objs.size d)) { s1 with heap := s1.heap.push { cls := .type "dict_keys", data := .fields #[.ref d] } } := by
    refine I1.laid (t' := s1.toks) (a := s1.heap.objs.size) (fun b ob q => Heap.get?_push_of_some _ q) (Nat.le_refl _) ?_
    exact ⟨⟨_, gp, rfl, rfl⟩, ⟨_, gp⟩, fun h1 h2 ⟨ob, z, c1, c2⟩ st => ⟨ob, st _ z, c1, c2⟩⟩
  show wpAny _ _ (callWith cpos (.builtin "dict.keys") [.ref d] [] []) _ X.xe s1
  exact method_meetsIn F.slot_dict_keys F.entry_dict_keys rfl (PySem.evalArgs_none ⟨rfl, raw.typeIs, F.args_dict_keys_1 _, _, meetsKeys hs, raw, V.ref s1.heap.objs.size, _, I2, rfl, q _ (I1.hok.fresh (Nat.le_refl _))⟩)
theorem RVs.reverse {K : Frag} {H : Hp} : ∀ {xs : List Val} {ys : List V}, RVs T K H xs ys → RVs T K H xs.reverse ys.reverse
  | [], _, r => by rw [r.of_nil]; exact .nil
  | x :: xs, ys, r => by
    obtain ⟨v, t, rfl, rx, rt⟩ := r.of_cons
    rw [List.reverse_cons, List.reverse_cons]
    exact (RVs.reverse rt).append (.cons rx .nil)
theorem s_revl (L : Le Γ Γ) {k : Nat} {p1 p2 p3 pos : Pos} (ha : PE X a (tE Γ T X.K W ma)) : PE X (.Subscript a (.Slice none none (some (.UnaryOp .USub (.Constant (.int 1) k p1) p2)) p3) pos) (tE Γ T X.K W (.revl ma)) :=
  (pe_revL ha).imp fun σ H Q ⟨σv, h, rs, rh, w⟩ => by
    simp only [wpE] at w
    refine tE.of L .refl rs rh w fun u h1 w1 xv H1 l1 rh1 rx => ?_
    unfold revR at w1
    cases q : lstV u h1 with
    | none => rw [q] at w1; exact w1.elim
    | some xs =>
      rw [q] at w1
      obtain ⟨a0, ys, rfl, sp, rys⟩ := lstR_of rh1 rx q
      exact ⟨a0, ys, rfl, sp, dn.newL (fun p hp => dn.sh l1 (w1.2 p hp)) rh1 rys.reverse⟩
theorem s_srtd (L : Le Γ Γ) {p pos : Pos} (hc : X.calm = true) (hg : Gl X "sorted") (hgm : X.mg "sorted" = none) (ha : PE X a (tE Γ T X.K W ma)) (hbase : attributeBase a "keys" X.env (eval a X.env) = eval a X.env) (hline : (apos.endLine == cpos.line) = true) :
    PE X (.Call (.Name "sorted" p) [.Call (.Attribute a "keys" apos) [] [] cpos] [] pos) (tE Γ T X.K W (.srtd ma)) :=
  (pe_callB (cr_sortedTK hc) hg hgm (by decide +kernel) (pa_cons (pe_keysV ha hbase hline) pa_nil rfl) (by decide +kernel) rfl rfl).imp fun σ H Q ⟨σv, h, rs, rh, w⟩ => by
    simp only [wpE] at w
    refine tE.of L .refl rs rh w fun u h1 w1 xv H1 l1 rh1 rx => ?_
    unfold srtdR at w1
    split at w1
    · rename_i d0
      obtain rfl := rv_ref.mp rx
      split at w1
      · rename_i kvs e
        obtain ⟨u0, e0, ks0, rfl, rd0⟩ := rh1.obj _ _ e
        refine ⟨d0, ks0, rfl, e0, fun r hr => ?_⟩
        have rh2 := rh1.side (o := KeysO r d0) hr
        have w := w1
        have l2 := l1.trans (.new hr : HLe H1 (upd H1 r (KeysO r d0)))
        clear w1
        generalize hH2 : upd H1 r (KeysO r d0) = H2 at rh2 l2
        have hr2 : H2 r = some (KeysO r d0) := by rw [← hH2]; exact upd_same
        obtain ⟨u, e1, ks, rfl, rd⟩ := rh2.obj _ _ e
        obtain ⟨ok, w⟩ := w
        obtain ⟨shape, hs⟩ := id ok
        have key : ∀ p ∈ ks, ∀ y t, y = V.ref t → H2 t = some (.tup (p.1.map kV)) → ∃ k ∈ kvs.map (·.1), RV T X.K H2 k y := by
          intro p hp y t ey et
          obtain ⟨i, hi⟩ := List.mem_iff_getElem?.mp hp
          have : ∃ z, kvs[i]? = some z := ⟨_, List.getElem?_eq_getElem (by rw [rd.len]; exact (List.getElem?_eq_some_iff.mp hi).1)⟩
          obtain ⟨⟨k, v⟩, hz⟩ := this
          obtain ⟨j, yv, e3, rfl, okj, _⟩ := rd.get2 hz
          rw [hi] at e3
          cases e3
          exact ⟨_, List.mem_map.mpr ⟨_, List.mem_of_getElem? hz, rfl⟩, rv_tup.mpr ⟨t, _, ey, et, rvs_keys okj⟩⟩
        refine ⟨r, d0, ks, shape, rfl, hr2, e1, fun p hp y t ey et => ?_, fun qs P q hq => ?_⟩
        · obtain ⟨k, hk, rk⟩ := key p hp y t ey et
          obtain ⟨_, ⟨t', e2, e3⟩, e4, e5⟩ := flat_rv (hs k hk) rk
          rw [ey] at e2
          cases e2
          exact ⟨e3, e4, e5⟩
        · have rv : RVs T X.K H2 (kvs.map (·.1)) qs := by
            clear w ok hs e e1 key rh2 hr2 hH2 rd0 e0
            induction kvs generalizing ks qs with
            | nil => cases rd; cases P; exact .nil
            | cons z kvs ih =>
              obtain ⟨k, v⟩ := z
              obtain ⟨j, y, s', e0, rfl, h2, h3, h4⟩ := rd
              subst e0
              cases P with
              | cons h t =>
                obtain ⟨a, rfl, ha⟩ := h
                exact .cons (rv_tup.mpr ⟨a, _, rfl, ha, rvs_keys h2⟩) (ih _ h4 _ t)
          exact dn.newL (fun p hp => dn.sh l2 (w p hp)) rh2 (rvs_isort ok rv) q hq
      · exact w1.elim
    · exact w1.elim
theorem m_count (u : Val) (vs : List Val) (x : V) (xs : List V) (h : VH) (H : Hp) (Q : VK) (rx : RV T X.K H u x) (rxs : RVs T X.K H vs xs) (rh : RH T X.K h H) (w : (bmtR .count u vs h).wp h (dn T X.K H Q)) : ∃ a b, x = .str a ∧ xs = [.str b] ∧ Q (.int (Txt.count a b)) H := by
  unfold bmtR at w
  dsimp only at w
  split at w
  · rename_i a c
    obtain ⟨y, s, rfl, r1, r2⟩ := rxs.of_cons
    obtain rfl := r2.of_nil
    obtain ⟨rfl, _⟩ := rv_str.mp rx
    obtain ⟨rfl, _⟩ := rv_str.mp r1
    exact ⟨_, _, rfl, rfl, dn.at w rh (rv_int.mpr rfl)⟩
  · exact w.elim
theorem m_clear (u : Val) (vs : List Val) (x : V) (xs : List V) (h : VH) (H : Hp) (Q : VK) (rx : RV T X.K H u x) (rxs : RVs T X.K H vs xs) (rh : RH T X.K h H) (w : (bmtR .clear u vs h).wp h (dn T X.K H Q)) : rClear x xs H Q := by
  unfold bmtR at w
  dsimp only at w
  split at w
  · obtain rfl := rxs.of_nil
    obtain ⟨a, zs, ys, rfl, e, e1, q, w⟩ := lstA_ok rx rh w
    exact ⟨a, ys, rfl, rfl, e1, dn.putL (xs := zs) w.2 rh e1 .nil (rv_non.mpr rfl)⟩
  · exact w.elim
end
end MP
end
section
set_option maxHeartbeats 2000000
/-! MpZi: exceptions with an own __init__ that hands on to its own base's and sets fields. -/
namespace MP
open PySem PySem.Spec PyProof.Rows L2
/-- the base, without __init__ of its own -/
structure BaseI (K : Frag) (M : Addr) : Prop where
  ty : PySem.W.typeIn K (.ref M) = some (.type "type")
  op : PySem.W.nsIn K cStatics "thirdparty.any" = some none
  find : PySem.W.findCls K (.ref M) (.type "type") "__init__" = some (.val (.builtin "ValueError.__init__"))
section
open PySem.W PySem.Calls
theorem method_cls {prog : Program} {w : World} {A : Around} {E : Value → Shared → Prop} {s : Shared} {K : PySem.W.Frag} {M : Addr} {name : Str} {v : Value} {pl : Sem Bool} {Q : Value × List Value → Shared → Prop} (X : K.In s.heap) (ht : typeIn K (.ref M) = some (.type "type")) (hs : nsIn K cStatics "thirdparty.any" = some none)
    (e : findCls K (.ref M) (.type "type") name = some (.val v)) (hh : handedIn v = true) (h : Q (v, []) { s with toks := s.toks + 1 }) : wpAny (model prog w) A (getMethod (.ref M) name pl) Q E s := by
  have L0 : Looks (model prog w) s.heap (typeOf (.ref M)) (.type "type") := looks_typeIn X ht
  have hg : findIn K (.type "type") "__getattribute__" = some (some (.builtin "type.__getattribute__")) := type_tga
  unfold getMethod specialOf
  refine wpAny_bind (wpAny_bind (L0.here ((looks_findIn X hg).here ?_)))
  dsimp only
  rw [if_pos canon_tga]
  refine wpAny_bind (wpAny_mono (Q := fun v => Q (v, [])) (E := E) ?_ (fun _ _ z => wpAny_pure z) fun _ _ z => z)
  have LO : Looks (model prog w) s.heap (opaqueClassAbove (.ref M)) none := looks_opaque X hs
  refine cls_open X LO L0 hg (looks_hook X (r := none) (by rfl)) (by show subIn K _ _ = _; rfl) e
    (wpAny_pure (by show wpAny _ _ (handedOut v) _ _ _; rw [handedOut_of hh]; exact wpAny_pure h))
end
section
variable {X : Cx} {o e : Expr} {es : List Expr} {ta : TA} {p1 p2 pos : Pos} {M : Addr} {mn : Str}
theorem pe_minit {pl : Sem Bool} (hg : Gl X mn) (hm : X.mg mn = some (.ref M)) (B : BaseI X.K M) (hdb : (mn == ("__debug__" : Str)) = false) (ha : PA X (e :: es) ta)
    (hc : eval (.Call (.Attribute (.Name mn p1) "__init__" p2) (e :: es) [] pos) X.env = (do
      let ov ← eval (.Name mn p1) X.env
      standAt p2.atName
      let (f, first) ← holding [ov] (getMethod ov "__init__" pl)
      callWith pos f first (backTo pos (starEach (e :: es) X.env)) (backToKw pos (keywordEach [] X.env))))
    (he : starEach (e :: es) X.env = (false, eval e X.env) :: starEach es X.env) (hpl : (backTo pos (starEach es X.env)).any (·.1) = false) :
    PE X (.Call (.Attribute (.Name mn p1) "__init__" p2) (e :: es) [] pos) (tVeI X.K ta) := by
  refine ⟨fun pins s σ H Q I h => ?_⟩
  refine PySem.W.methodCall_KW (ld_glob I hg hm ?_ hdb) hc
  refine method_cls I.kIn B.ty B.op B.find (by decide +kernel) ?_
  show wpAny _ _ (callWith pos (Value.builtin "ValueError.__init__") [] (backTo pos (starEach (e :: es) X.env)) []) _ _ _
  refine PyProof.Rows.callWith_method1 (thn (ha.run pos pins _ σ H _ (I.tok _) h) fun us s1 ⟨vs, H1, I1, r1, a, C, ws, ev, hl, T, ea, q⟩ => ?_) he hpl
  subst ev
  cases r1 with
  | @cons _ u0 _ ur ra rw' =>
    obtain rfl : u0 = Value.ref a := ra
    have hlen : ur.length ≤ sizeLine := by
      rw [← Paired.length rw', sizeLine_eq]
      omega
    exact oinit_ok T I1 ea hlen fun s' J => ⟨.non, H1, J, rfl, q⟩
end
/-! ### what such an __init__ promises -/
def inF (ns : List String) (ws : List V) : List (Str × V) := ((ns.map Str.ofString).zip ws).reverse
def initSp (C : Addr) (ns : List String) : Sp := fun vs H Q _ => ∃ a ws, vs = .ref a :: ws ∧ ws.length = ns.length ∧ H a = some (exo a C none) ∧
  ∀ dx H', H dx = none → dx ≠ a → (∀ b, b ≠ a → b ≠ dx → H' b = H b) → H' a = some (exo a C (some dx)) → H' dx = some (exd dx (inF ns ws)) → Q .non H'
structure ExcI (X : Ctx) (C : Addr) (ns : List String) : Prop where
  oex : OexC X.K C
  run : ∃ (k : Nat) (fd : FuncData) (ps : List Str) (fI : Addr), PySem.W.findIn X.K (.ref C) "__init__" = some (some (.ref fI)) ∧ PySem.W.typeIn X.K (.ref fI) = some (.type "function") ∧
    FnOk X.prog X.w X.K X.mg X.base (L2.CX X.prog X.w) k fI fd ps (initSp C ns) ∧ Room (k + 1) X.A ∧ Binds X.K fd ps [] ∧ L2H.FnH X.prog X.w X.K X.mg X.base (L2.CX X.prog X.w) k fI fd ps (initSp C ns)
theorem RF.app {T : Tb} {K : Frag} {H : Hp} : ∀ {fs fs' : List (String × Val)} {gs gs' : List (Str × V)}, RF T K H fs gs → RF T K H fs' gs' → RF T K H (fs ++ fs') (gs ++ gs')
  | [], _, _, _, h, h' => by rw [show _ = [] from h]; exact h'
  | (f, x) :: fs, _, _, _, h, h' => by
    obtain ⟨v, r, rfl, h2, h3⟩ := h
    exact ⟨v, r ++ _, rfl, h2, RF.app h3 h'⟩
theorem RF.zipR {T : Tb} {K : Frag} {H : Hp} : ∀ {ns : List String} {vs : List Val} {ws : List V}, RVs T K H vs ws → RF T K H (ns.zip vs).reverse (inF ns ws)
  | [], vs, ws, h => by show RF T K H [] _; unfold inF; rfl
  | n :: ns, [], ws, h => by rw [h.of_nil]; unfold inF; rw [List.zip_nil_right, List.zip_nil_right]; rfl
  | n :: ns, v :: vs, ws, h => by
    obtain ⟨w, r, rfl, h2, h3⟩ := h.of_cons
    unfold inF
    rw [List.map_cons, List.zip_cons_cons, List.zip_cons_cons, List.reverse_cons, List.reverse_cons]
    exact RF.app (RF.zipR h3) ⟨w, [], rfl, h2, rfl⟩
section
variable {X : Ctx} {Γ : Gam} {T : Tb} {W : WX} {pos : Pos}
theorem s_raiI (L : Le Γ Γ) (hc : X.calm = true) (tk : Takes X W) {x : Str} {p p' : Pos} {c n : String} {ns : List String} (he : Γ.exc c = some (n :: ns)) (hs : ns.length ≤ 5) (E0 : ExcI X (T.cls c) (n :: ns)) (gC : X.mg x = some (.ref (T.cls c))) (hg : Gl X x) (hdb : (x == ("__debug__" : Str)) = false) {e : Expr} {es : List Expr} {ms : Es}
    (ha : PA X (e :: es) (tA Γ T X.K W ms)) (hst : starEach (e :: es) X.env = (false, eval e X.env) :: starEach es X.env) (hpl : (backTo p' (starEach es X.env)).any (·.1) = false) :
    PS X (.Raise (some (.Call (.Name x p) (e :: es) [] p')) none pos) (tS Γ T X.K W (.rai c ms)) := by
  obtain ⟨k, fd, ps, fI, iC, tI, F1, hr, hb, _⟩ := E0.run
  refine (ps_raise hc tk (pmk_oex E0.oex iC tI F1 hr hb (ds := []) (dvs := []) .nil passL hg gC ha hdb hst hpl)).imp fun D σ H ⟨σv, h, rs, rh, w⟩ => ?_
  simp only [wpS] at w
  refine ⟨σv, h, rs, rh, wpEs_mono L ms σv h _ _ _ _ (fun vs h1 z => ?_) (fun _ _ z => ex_of rs z) w.2⟩
  rw [he] at z
  obtain ⟨z1, z2⟩ := z
  intro xs H' l rh' rxs
  have hl : xs.length = (n :: ns).length := by rw [← rxs.length]; exact z1.symm
  refine ⟨by rw [hl, List.length_cons]; omega, fun a ha => ⟨a, xs, by rw [List.append_nil], hl, upd_same, fun dx H2 hdx hne hoth hA hD => ⟨rfl, dx, _, hA, hD, ?_, ?_⟩⟩⟩
  · rwa [upd_ne hne] at hdx
  · have hdx' : H' dx = none := by rwa [upd_ne hne] at hdx
    have eq : upd (L2.del H2 a) dx (.xd (inF (n :: ns) xs)) = upd H' dx (.xd (inF (n :: ns) xs)) := by
      funext b
      by_cases hb : b = dx
      · rw [hb, upd_same, upd_same]
      · rw [upd_ne hb, upd_ne hb]
        by_cases hba : b = a
        · rw [hba, del_same, ha]
        · rw [del_ne hba, hoth b hba hb, upd_ne hba]
    rw [eq]
    have l2 : HLe H' (upd H' dx (.xd (inF (n :: ns) xs))) := .new hdx'
    exact z2 dx (rh'.fresh hdx') (.ref (T.cls c)) (some dx) σ _ (l.trans l2) (rs.le (l.trans l2)) (rh'.new (x := .xd ((n :: ns).zip vs).reverse) hdx' ⟨_, rfl, RF.zipR (rxs.le l2)⟩) ⟨rfl, rfl⟩
end
end MP
end
section
set_option maxHeartbeats 2000000
/-! MpNx: exceptions without a context; try .. except c: raise d(x) .. else. -/
namespace MP
open PySem PySem.Spec PyProof.Rows L2
theorem skyN {B : Heap} {l : List Env} {a : Addr} {cls : Value} {d : Option Addr} {L : Addr} {h : Heap} (x : Sky B l a (L2N.Zn cls d) L h) : Sky B l a (Zc cls d) L h := by
  rcases x with ⟨h1, h2, h3, oe, vs, e1, e2, e3⟩ | x | x
  · exact .inl ⟨h1, h2, h3, oe, vs, e1, e2.zc, e3⟩
  · exact .inr (.inl (L2H.flyingZ_imp (fun _ z => z.zc) x))
  · exact .inr (.inr ⟨x.1, x.2.1, x.2.2.1, L2H.tracedZ_imp (fun _ z => z.zc) x.2.2.2⟩)
theorem toN {X : Ctx} {W : WX} (tk : L2.Takes X W) : L2N.Takes X W := fun u s' ⟨a, B, sI, pins, σ, H, cls, d, e, I, nb, up, sky, r⟩ => tk u s' ⟨a, B, sI, pins, σ, H, cls, d, e, I, nb, up, skyN sky, r⟩
theorem cxN {P : Program} {w : World} {outer : List Env} {H : Hp} {s : Shared} {E : XK} {u : Value} {s' : Shared} (c : L2N.CX P w outer H s E u s') : L2.CX P w outer H s E u s' := by
  obtain ⟨a, B, H', cls, d, e, fl, r⟩ := c
  exact ⟨a, B, H', cls, d, e, L2H.flyingZ_imp (fun _ z => z.zc) fl, r⟩
theorem fnN {P : Program} {w : World} {K : PySem.W.Frag} {mg : Str → Option Value} {base : Heap} {k : Nat} {f : Addr} {fd : FuncData} {ps : List Str} {sp : Sp} (F : FnOk P w K mg base (L2N.CX P w) k f fd ps sp) : FnOk P w K mg base (L2.CX P w) k f fd ps sp :=
  ⟨F.len, fun A outer s H args us vs Q E a b c d e => codeAny_mono (F.run A outer s H args us vs Q E a b c d e) fun r s' z => by
    cases r with
    | error er => exact cxN z
    | ok fl => cases fl <;> exact z⟩
theorem raiseN0 {X : Ctx} {W : WX} {C : Addr} {x : Str} {p p' pos : Pos} (hc : X.calm = true) (tk : L2N.Takes X W) (E0 : Exc0 X.K C) (gC : X.mg x = some (.ref C)) (hg : Gl X x) (hdb : (x == ("__debug__" : Str)) = false) :
    PS X (.Raise (some (.Call (.Name x p) [] [] p')) none pos) (fun _ σ H => W (.ref C) none σ H) :=
  (L2N.ps_raise hc tk (t := fun _ H Q => Q (.ref C) none H) fun pins s σ H Q I h => by
    refine wpAny_Call_Name_kw (ld_glob I hg gC ?_ hdb)
    refine PySem.W.callWith_K0 I.kIn E0.keep ?_
    obtain ⟨bm, N, nm, qn, bs, hdct, sn, sub, ab, col, dd, k0, k1, k2, k3, k5, mN, hC, hN, hni, OT⟩ := exc_obj I.kIn E0.own
    exact wpAny_call_exc_subT F.excBase_ValueError OT hC hN hni (fun h' e hm => L2N.mk_of I hm (raises_own E0.sub E0.ty) h (I.hok.gone hm.new)) (by show 0 ≤ sizeLine; omega)).imp fun _ _ _ z => z
section
variable {X : Ctx} {Γ : Gam} {T : Tb} {W : WX} {pos : Pos}
theorem s_rai0N (hc : X.calm = true) (tk : L2N.Takes X W) {x : Str} {p p' : Pos} {c : String} (he : Γ.exc c = some []) (E0 : Exc0 X.K (T.cls c)) (gC : X.mg x = some (.ref (T.cls c))) (hg : Gl X x) (hdb : (x == ("__debug__" : Str)) = false) :
    PS X (.Raise (some (.Call (.Name x p) [] [] p')) none pos) (tS Γ T X.K W (.rai c .nil)) :=
  (raiseN0 hc tk E0 gC hg hdb).imp fun D σ H ⟨σv, h, rs, rh, w⟩ => by
    simp only [wpS, wpEs] at w
    exact rai_end rfl he rs rh w.2
end
/-! ### try .. except c: raise .. else -/
section
variable {X : Cx} {x : Str} {c : Value} {body suite orelse : List Stmt} {b₀ : Stmt} {np pos pos' : Pos} {tb : WX → TS} {te : TS} {ts : Addr → Value → Option Addr → TS} {Wout : WX}
theorem ps_tryR (hs : X.stack = X.env :: X.outer) (hf : X.env.frame = some X.env.locals) (hc : Names X x c) (hpa : ∀ hd : Option Value, PassesOwnAt (model X.prog X.w) (X.A.mark hd) X.A X.env X.xe) (tk : L2.Takes X Wout)
    (hb : ∀ (W : WX) (pn : List (Addr × PySem.Obj)) (xe : Value → Shared → Prop), L2N.Takes (X.tr pn xe) W → PassesOwn (model X.prog X.w) X.A X.env xe → PSs (X.tr pn xe) body (tb W))
    (hsu : ∀ (a : Addr) (oe : PySem.Obj) (cls : Value) (d : Option Addr) (pn : List (Addr × PySem.Obj)), L2.Takes (L2H.suiteX X a ((a, oe) :: pn)) Wout → L2H.HotC (L2H.suiteX X a ((a, oe) :: pn)) → PSs (L2H.suiteX X a ((a, oe) :: pn)) (b₀ :: suite) (ts a cls d))
    (he : PSs X orelse te) :
    PS X (.Try body [.ExceptHandler (some (.Name x np)) none (b₀ :: suite) pos'] orelse [] pos) (fun D σ H => tb (wOnly X.K c ts Wout D) { D with nx := fun σ H => te D σ H } σ H) := by
  refine ⟨fun pins s σ H D I h => wpAny_Try_except ?_⟩
  have ok := I.ok
  have hfr : X.A.frames = some (X.env :: X.outer) := ok.frames.trans (congrArg some hs)
  let Y : Cx := X.tr (X.pn ++ pins) (fun e s₁ => wpAny (model X.prog X.w) X.A (noteFrame e X.env) (fun _ s₂ => wpAny (model X.prog X.w) X.A (setFlight e none)
    (fun _ s₃ => wpAny (model X.prog X.w) X.A (handleBy e X.env [.ExceptHandler (some (.Name x np)) none (b₀ :: suite) pos']) (SP X pins D) X.xe s₃) X.xe s₂) X.xe s₁)
  have tkY : L2N.Takes Y (wOnly X.K c ts Wout D) := fun u s' xx => by
    obtain ⟨a, B, sI, pins', σ', H', cls, d, rfl, J', nb, up, sky, na, os, ag, b, hb1, hyes, hno⟩ := xx
    have J : Inv X pins σ' H' sI := J'.ofTry ok
    have sky' : Sky B (X.env :: X.outer) a (L2N.Zn cls d) X.env.locals s'.heap := hs ▸ sky
    show wpAny (model X.prog X.w) X.A (noteFrame (.ref a) X.env) _ _ _
    refine L2N.Sky.land L2N.Zn.steady hfr hf sky' fun g3 fl3 up3 => ?_
    have land : ∀ g, s'.heap.UpToSlots g → HandSPX.FlyingZ B (X.env :: X.outer) a (L2N.Zn cls d) g → ∃ oe vs, g.get? a = some oe ∧ L2N.Zn cls d oe ∧ oe.data = .fields vs ∧ Inv X pins σ' H' { s' with heap := g } ∧ Inv (X.suite a ((a, oe) :: (X.pn ++ pins))) [] σ' H' { s' with heap := g } := fun g upg fl => by
      have Jg : Inv X pins σ' H' { s' with heap := g } := J.landed nb fl.1 (up.trans upg) os ag
      obtain ⟨oe, vs, e1, e2, e3⟩ := fl.there
      have nfr : a ∉ frs (X.env :: X.outer) := fun hm => by
        obtain ⟨_, o2, e4, e5⟩ := fl.2.2.1.mem hm
        cases e1.symm.trans e4
        exact e5 _ e3
      refine ⟨oe, vs, e1, e2, e3, Jg, Jg.suite e1 e3 na (fun z => nfr (List.mem_filterMap.mpr ⟨X.env, List.mem_cons_self, by rw [hf, z]⟩)) fun hm => ?_⟩
      obtain ⟨en, h1, h2⟩ := List.mem_filterMap.mp hm
      exact nfr (List.mem_filterMap.mpr ⟨en, List.mem_cons_of_mem _ h1, h2⟩)
    obtain ⟨oe3, vs3, he3, hz3, hd3, J3, S3⟩ := land g3 up3 fl3
    refine wpAny_handleBy_cons (codeAny_handlers_test ?_) (fun q => by cases q)
    have LM := PySem.W.exm_one (M := model X.prog X.w) (J3.kIn) (fun A Q E s k q => wpAny_typeOf_ref (k _ _ he3) (hz3.1.symm ▸ q)) hb1
    have nam : ∀ {Q E : Value → Shared → Prop}, Q c { s' with heap := g3 } → wpAny (model X.prog X.w) (X.A.mark (some (.ref a))) (eval (.Name x np) X.env) Q E { s' with heap := g3 } := fun {Q E} q => by
      obtain ⟨n1, n2, n3 | ⟨n3, n4, n5⟩⟩ := hc
      · exact ld_glob (X := X.suite a ((a, oe3) :: (X.pn ++ pins))) S3 n1 n3 q n2
      · exact ld_blt (X := X.suite a ((a, oe3) :: (X.pn ++ pins))) S3 n1 n3 n4 q n5 n2
    refine nam (LM.here ?_)
    cases b with
    | true =>
      refine codeAny_handlers_suite (HandSPX.lands_againZ fl3 fun g4 fl4 up4 => ?_)
      obtain ⟨oe4, vs4, he4, hz4, hd4, J4, S4⟩ := land g4 (up3.trans up4) fl4
      have tkS : L2.Takes (L2H.suiteX X a ((a, oe4) :: (X.pn ++ pins))) Wout := fun u2 s2 ⟨a2, B2, sJ, q2, σ2, H2, cls2, d2, e2, I2, r2⟩ => tk u2 s2 ⟨a2, B2, sJ, pins, σ2, H2, cls2, d2, e2, L2H.unsuiteX I2 ok, r2⟩
      refine wpAny_mono ((hsu a oe4 cls d (X.pn ++ pins) tkS ⟨(a, oe4), ⟨rfl, vs4, hd4, hz4.2.2 vs4 hd4⟩, List.mem_cons_self⟩).run [] _ _ H' _ (L2H.suiteX_of S4) (hyes rfl a na)) (fun f s6 hsp => ?_) (fun e6 s6 z => hpa (some (.ref a)) e6 s6 z)
      cases f <;> first
        | (obtain ⟨v6, σ6, H6, S6, r6, q6⟩ := hsp; exact ⟨_, _, _, L2H.unsuiteX S6 ok, r6, q6⟩)
        | (obtain ⟨σ6, H6, S6, q6⟩ := hsp; exact ⟨_, _, L2H.unsuiteX S6 ok, q6⟩)
    | false =>
      show wpAny _ X.A (handleBy (.ref a) X.env []) _ _ _
      refine wpAny_handleBy_nil ?_
      have flz := L2H.flyingZ_imp (Z' := Zc cls d) (fun _ z => z.zc) fl3
      obtain ⟨k1, k2, k3, oe, vs, TT, oT, ts', e1, e2, e3, e4, _⟩ := id flz
      unfold PySem.passOn
      refine wpAny_bind (wpAny_field e1 e3 e4 ?_)
      rw [if_neg (show ¬ ((Value.ref TT == Value.none) = true) from by simp)]
      have fin : wpAny (model X.prog X.w) X.A (setFlight (.ref a) X.env.frame) (fun _ s4 => wpAny (model X.prog X.w) X.A (throw (.ref a) : Sem Flow) (SP X pins D) X.xe s4) X.xe { s' with heap := g3 } := by
        rw [hf]
        exact HandSPX.setFlight_upZ flz fun g5 hh up5 => wpAny_throw (tk _ _ ⟨a, B, sI, pins, σ', H', cls, d, rfl, J, nb, (up.trans up3).trans up5, .inr (.inr (hs.symm ▸ hh)), na, os, ag, hno rfl⟩)
      first
        | exact wpAny_bind (wpAny_pure (wpAny_bind fin))
        | exact wpAny_bind fin
  refine wpAny_mono ((hb (wOnly X.K c ts Wout D) (X.pn ++ pins) _ tkY PassesOwn.looking).run [] s σ H { D with nx := fun σ H => te D σ H } (I.toTry _) h) (fun f s1 hsp => ?_) fun e s1 z => z
  cases f with
  | next =>
    obtain ⟨σ', H', J', q⟩ := hsp
    exact he.run pins s1 σ' H' D (J'.ofTry ok) q
  | ret u =>
    obtain ⟨v, σ', H', J', r, q⟩ := hsp
    exact ⟨v, σ', H', J'.ofTry ok, r, q⟩
  | _ =>
    obtain ⟨σ', H', J', q⟩ := hsp
    exact ⟨σ', H', J'.ofTry ok, q⟩
end
section
variable {X : Ctx} {Γ : Gam} {T : Tb} {W : WX} {pos : Pos}
theorem s_tryR (L : Le Γ Γ) (hs : X.stack = X.env :: X.outer) (hf : X.env.frame = some X.env.locals) (hpa : ∀ hd : Option Value, PassesOwnAt (model X.prog X.w) (X.A.mark hd) X.A X.env X.xe) {x x2 y : Str} {np p p' p3 p4 p5 : Pos} {c c2 : String} {j : Nat} (hc : Names X x (cv T c)) (tk : Takes X W)
    (hsub : ∀ e b, Γ.sub e c = some b → PySem.W.exmOne X.K (.ref (T.cls e)) (cv T c) = some b) (E0 : ∀ n ns, Γ.exc c2 = some (n :: ns) → ExcI X (T.cls c2) (n :: ns)) (gC : X.mg x2 = some (.ref (T.cls c2))) (hg : Gl X x2) (hdb : (x2 == ("__debug__" : Str)) = false)
    (hj : X.N[j]? = some y) (hv : Vis X.env.scope y) (hn1 : (y == ("__debug__" : Str)) = false) (hn2 : (y == ("__classdict__" : Str)) = false) {body orelse : List Stmt} {mb ms : Ss} (hx0 : ∃ n ns, Γ.exc c2 = some (n :: ns))
    (hb : ∀ (W' : WX) (pn : List (Addr × PySem.Obj)) (xe : Value → Shared → Prop), L2N.Takes (X.tr pn xe) W' → PassesOwn (model X.prog X.w) X.A X.env xe → PSs (X.tr pn xe) body (tSs Γ T X.K W' mb))
    (ho : PSs X orelse (tSs Γ T X.K W ms)) :
    PS X (.Try body [.ExceptHandler (some (.Name x np)) none [.Raise (some (.Call (.Name x2 p) [.Name y p3] [] p')) none p4] p5] orelse [] pos) (tS Γ T X.K W (.tryR mb c c2 j ms)) := by
  obtain ⟨n, ns, hx⟩ := hx0
  obtain ⟨T1, k, fd, ps, fI, iC, tI, F1, hr, hbd, FH⟩ := E0 n ns hx
  refine (ps_tryR (Wout := W) (ts := fun a cls d D σ H => tMkO (T.cls c2) (initSp (T.cls c2) (n :: ns)) [] (tCons (tVar j) tNil) σ H fun cls d H' => W cls d σ H') (tb := fun W' => tSs Γ T X.K W' mb) (te := tSs Γ T X.K W ms) hs hf hc hpa tk hb
    (fun a oe cls d pn tkS hot => (pss_cons (L2H.ps_raiseH hot tkS (L2H.pmk5_oexH (X := L2H.suiteX X a ((a, oe) :: pn)) T1 iC tI FH (L2H.roomH_mark hr _) hot hbd passL hg gC (pa_cons (pe_var (X := L2H.suiteX X a ((a, oe) :: pn)) hj hv hn1 hn2) pa_nil rfl) hdb rfl rfl).pmk) pss_nil).imp fun D σ H z => z) ho).imp fun D σ H ⟨σv, h, rs, rh, w⟩ => ?_
  simp only [wpS] at w
  refine ⟨σv, h, rs, rh, wpSs_mono L mb σv h { nx := fun σ h => wpSs Γ ms σ h (dD T X.K W H D), rt := (dD T X.K W H D).rt, ex := fun e σ h => rkK (Γ.sub e.cls c) (sget σ j) (Γ.exc c2) c2 (fun e2 h2 => (dD T X.K W H D).ex e2 σ h2) ((dD T X.K W H D).ex e σ) h } _ ⟨fun σ1 h1 z σ' H' l rs' rh' => ⟨σ1, h1, rs', rh', wpSs_mono L ms σ1 h1 _ _ (dD.sh l) z⟩, fun _ _ z => z, fun e σ1 h1 z cls d σ' H' l rs' rh' rx => ?_⟩ w.2⟩
  obtain ⟨e1, e2⟩ := rx
  subst e1
  dsimp only at z
  unfold rkK at z
  cases q : Γ.sub e.cls c with
  | none => rw [q] at z; exact z.elim
  | some b =>
    rw [q] at z
    refine ⟨b, hsub _ _ q, fun hb' a ha => ?_, fun hb' => ?_⟩
    · subst hb'
      dsimp only at z
      cases qj : sget σ1 j with
      | none => rw [qj] at z; exact z.elim
      | some v =>
        rw [qj, hx] at z
        obtain ⟨z1, z2⟩ := z
        obtain ⟨u, hu, ru⟩ := rs'.2 j v qj
        refine ⟨u, hu, ?_⟩
        have hl : ns = [] := by
          have : (n :: ns).length = 1 := z1
          simpa using this
        subst hl
        refine ⟨by show 1 ≤ 1000; omega, fun a ha => ⟨a, [u], rfl, rfl, upd_same, fun dx H2 hdx hne hoth hA hD => ⟨rfl, dx, _, hA, hD, ?_, ?_⟩⟩⟩
        · rwa [upd_ne hne] at hdx
        · have hdx' : H' dx = none := by rwa [upd_ne hne] at hdx
          have eq : upd (L2.del H2 a) dx (.xd (inF [n] [u])) = upd H' dx (.xd (inF [n] [u])) := by
            funext b
            by_cases hb : b = dx
            · rw [hb, upd_same, upd_same]
            · rw [upd_ne hb, upd_ne hb]
              by_cases hba : b = a
              · rw [hba, del_same, ha]
              · rw [del_ne hba, hoth b hba hb, upd_ne hba]
          rw [eq]
          have l2 : HLe H' (upd H' dx (.xd (inF [n] [u]))) := .new hdx'
          exact z2 dx (rh'.fresh hdx') (.ref (T.cls c2)) (some dx) σ' _ (l.trans l2) (rs'.le l2) (rh'.new (x := .xd (([n]).zip [v]).reverse) hdx' ⟨_, rfl, RF.zipR (RVs.le l2 (.cons ru .nil))⟩) ⟨rfl, rfl⟩
    · subst hb'
      exact z (.ref (T.cls e.cls)) d σ' H' l rs' rh' ⟨rfl, e2⟩
end
end MP
end
section
set_option maxHeartbeats 1000000
/-! MpO: what a checker of written code leans on. -/
namespace MP
open PySem PySem.Spec PyProof.Rows L2
/-! ### what names stand for -/
inductive GK where
  | blt | fn (l : String) | con (y : String) | cls (c : String) | no | key (l : String) | fnd (l : String) (v : Int)
structure CP where
  N : List Str
  sc : Scope
  raw : Option Scope
  gl : List (Str × GK)
  hot : Bool
  cur : Option Nat
  lam : Nat
  nx : Bool
  nxl : List String
  nxm : List String
  top : Bool
def sq (a b : Str) : Bool := decide (a.cps.toList = b.cps.toList)
theorem sq_ok {a b : Str} (h : sq a b = true) : a = b := by
  obtain ⟨⟨a⟩⟩ := a
  obtain ⟨⟨b⟩⟩ := b
  have : a = b := of_decide_eq_true h
  rw [this]
def glk : List (Str × GK) → Str → Option GK
  | [], _ => none
  | (y, g) :: r, x => if sq x y = true then some g else glk r x
/-- a function stands where the table says, and keeps its promise -/
def FOk1 (X : Ctx) (Γ : Gam) (T : Tb) (l : String) : Prop := ∃ (k : Nat) (fd : FuncData) (ps : List Str), FnOk X.prog X.w X.K X.mg X.base (L2.CX X.prog X.w) k (T.fn l) fd ps (spc Γ T X.K l ps.length) ∧ Room k X.A ∧ Binds X.K fd ps [] ∧
  ∀ vals h Q E, Γ.call l vals h Q E → vals.length = ps.length
/-- a class, by its __init__ -/
def FOk2 (X : Ctx) (Γ : Gam) (T : Tb) (l : String) : Prop := ∃ (k : Nat) (fd : FuncData) (ps : List Str) (f : Addr) (c : String) (sp : Sp), Mk X.K (T.fn l) f ∧ FnOk X.prog X.w X.K X.mg X.base (L2.CX X.prog X.w) k f fd ps sp ∧ Room (k + 1) X.A ∧ Binds X.K fd ps [] ∧
  ∀ (vals : List Val) (vs : List V) (h : VH) (H : Hp) (Q : VK) (E : XK), RVs T X.K H vals vs → RH T X.K h H → Γ.call l vals h (dn T X.K H Q) (dx T X.K H E) → ∀ x dx, H x = none → H dx = none → dx ≠ x →
    sp (.ref x :: vs) (upd (upd H dx (.own x)) x (.ins (T.fn l) dx [])) (fun v H2 => v = .non ∧ Q (.ref x) H2) E
/-- the same for one whose exceptions have no context -/
def FOk1N (X : Ctx) (Γ : Gam) (T : Tb) (l : String) : Prop := ∃ (k : Nat) (fd : FuncData) (ps : List Str), FnOk X.prog X.w X.K X.mg X.base (L2N.CX X.prog X.w) k (T.fn l) fd ps (spc Γ T X.K l ps.length) ∧ Room k X.A ∧ Binds X.K fd ps [] ∧
  ∀ vals h Q E, Γ.call l vals h Q E → vals.length = ps.length
def FOk2N (X : Ctx) (Γ : Gam) (T : Tb) (l : String) : Prop := ∃ (k : Nat) (fd : FuncData) (ps : List Str) (f : Addr) (c : String) (sp : Sp), Mk X.K (T.fn l) f ∧ FnOk X.prog X.w X.K X.mg X.base (L2N.CX X.prog X.w) k f fd ps sp ∧ Room (k + 1) X.A ∧ Binds X.K fd ps [] ∧
  ∀ (vals : List Val) (vs : List V) (h : VH) (H : Hp) (Q : VK) (E : XK), RVs T X.K H vals vs → RH T X.K h H → Γ.call l vals h (dn T X.K H Q) (dx T X.K H E) → ∀ x dx, H x = none → H dx = none → dx ≠ x →
    sp (.ref x :: vs) (upd (upd H dx (.own x)) x (.ins (T.fn l) dx [])) (fun v H2 => v = .non ∧ Q (.ref x) H2) E
def FOkN (X : Ctx) (Γ : Gam) (T : Tb) (l : String) : Prop := FOk1N X Γ T l ∨ FOk2N X Γ T l
def FOk (X : Ctx) (Γ : Gam) (T : Tb) (l : String) : Prop := (FOk1 X Γ T l ∨ FOk2 X Γ T l) ∧ PySem.W.keepIn X.K (.ref (T.fn l)) = true
/-- a function whose last argument may be left out -/
def FOkD (X : Ctx) (Γ : Gam) (T : Tb) (l : String) (v : Int) : Prop := ∃ (k : Nat) (fd : FuncData) (ps : List Str) (t : Tok), FnOk X.prog X.w X.K X.mg X.base (L2.CX X.prog X.w) k (T.fn l) fd ps (spc Γ T X.K l ps.length) ∧ Room k X.A ∧ Binds X.K fd ps [.int v t] ∧
  ∀ vals h Q E, Γ.call l vals h Q E → vals.length = ps.length
def GlOk (X : Ctx) (Γ : Gam) (T : Tb) (x : Str) : GK → Prop
  | .blt => X.mg x = none
  | .fn l => X.mg x = some (.ref (T.fn l)) ∧ FOk X Γ T l
  | .con y => ∃ v u val, X.mg x = some u ∧ RelV v u ∧ Γ.con y = some val ∧ ∀ H, RV T X.K H val v
  | .cls c => X.mg x = some (.ref (T.cls c)) ∧ bltTy c = false
  | .no => True
  | .key l => X.mg x = some (.ref (T.fn l)) ∧ FOk1 X Γ T l ∧ PySem.W.keepIn X.K (.ref (T.fn l)) = true
  | .fnd l v => X.mg x = some (.ref (T.fn l)) ∧ FOk X Γ T l ∧ FOkD X Γ T l v
/-- what is called from a lower frame -/
structure LowOk (X : Ctx) (Γ : Gam) (T : Tb) (gl : List (Str × GK)) : Prop where
  gl : ∀ x g, glk gl x = some g → GlOk X Γ T x g
  mth : ∀ c m l, Γ.mth c m = some l → Meth X.K (T.cls c) (Str.ofString m) (T.fn l) ∧ FOk X Γ T l
  exc : ∀ c, (Γ.exc c = some [] → Exc0 X.K (T.cls c)) ∧ ∀ n ns, Γ.exc c = some (n :: ns) → ExcI X (T.cls c) (n :: ns)
/-- the table of the function's lambdas -/
def LamTab (X : Ctx) (T : Tb) : Prop := ∃ c P : Addr, X.env.code = .ref c ∧ LamX.TabB X.base X.mg c P ∧ (P, X.env.qual ++ "<lambda>") ∈ T.tabs ∧ ∀ p ∈ T.tabs, p.1 = P → p.2 = X.env.qual ++ "<lambda>"
def LamOk (X : Ctx) (Γ : Gam) (T : Tb) (gl : List (Str × GK)) (lam : Nat) : Prop := (∃ r, Room (r + 1) X.A ∧ ∀ X' : Ctx, X'.prog = X.prog → X'.w = X.w → X'.K = X.K → X'.mg = X.mg → X'.base = X.base → Room r X'.A → LowOk X' Γ T gl) ∧ (lam = 2 → LamTab X T)
structure Fit (X : Ctx) (W : WX) (Γ : Gam) (T : Tb) (cp : CP) : Prop where
  L : Le Γ Γ
  N : X.N = cp.N
  nd : X.N.Nodup
  sc : X.env.scope = cp.sc
  calm : cp.hot = false → X.calm = true
  hu : X.A.units + 65 < cLine
  pas : PassesOwn (model X.prog X.w) X.A X.env X.xe
  fn : ∀ x, (match cp.raw with | none => true | some sc => sc.names.lookup x == some .cell) = true → X.fn x = true
  tk : cp.nx = false → Takes X W
  tkn : L2N.Takes X W
  nxo : ∀ l ∈ cp.nxl, FOkN X Γ T l
  nxq : ∀ m ∈ cp.nxm, ∀ c l, Γ.mth c m = some l → FOkN X Γ T l
  pax : cp.top = true → ∀ hd : Option Value, PassesOwnAt (model X.prog X.w) (X.A.mark hd) X.A X.env X.xe
  gl : ∀ x g, glk cp.gl x = some g → GlOk X Γ T x g
  mth : cp.hot = false → ∀ c m l, Γ.mth c m = some l → Meth X.K (T.cls c) (Str.ofString m) (T.fn l) ∧ FOk X Γ T l
  isi : IsiOk Γ T X.K
  fld : ∀ c f, Γ.fld c f = true → NoAttr X.K (T.cls c) (Str.ofString f)
  stk : cp.raw = none → X.stack = X.env :: X.outer ∧ X.env.frame = some X.env.locals
  cold : cp.hot = false → Γ.cur = none
  cur : ∀ i a e, Γ.cur = some (i, a, e) → cp.cur = some i ∧ ∃ (X0 : Ctx) (oe : PySem.Obj) (pn : List (Addr × PySem.Obj)), X = X0.suite a ((a, oe) :: pn) ∧ Zc (.ref (T.cls e.cls)) e.d oe ∧ ∃ vs, oe.data = .fields vs
  exc : cp.hot = false → ∀ c, (Γ.exc c = some [] → Exc0 X.K (T.cls c)) ∧ ∀ n ns, Γ.exc c = some (n :: ns) → ExcI X (T.cls c) (n :: ns)
  xff : ∀ c ns, Γ.exc c = some ns → ∀ f ∈ ns, XfC X.K (T.cls c) ∧ PySem.W.findIn X.K (.ref (T.cls c)) (Str.ofString f) = some none
  sub : ∀ e c b, Γ.sub e c = some b → PySem.W.exmOne X.K (.ref (T.cls e)) (cv T c) = some b ∧ PySem.W.kitOne X.K (.ref (T.cls e)) (cv T c) = some b ∧ ExcC X.K (T.cls e)
  lam : cp.raw = none → cp.hot = false → 1 ≤ cp.lam → LamOk X Γ T cp.gl cp.lam
theorem hotF {cp : CP} (h : (!cp.hot) = true) : cp.hot = false := by simpa using h
theorem ExcI.same {X X' : Ctx} {C : Addr} {ns : List String} (f : ExcI X C ns) (h1 : X'.prog = X.prog) (h2 : X'.w = X.w) (h3 : X'.K = X.K) (h4 : X'.mg = X.mg) (h5 : X'.base = X.base) (h6 : X'.A = X.A) : ExcI X' C ns := by
  obtain ⟨f1, f2⟩ := f
  refine ⟨by rw [h3]; exact f1, ?_⟩
  rw [h1, h2, h3, h4, h5, h6]
  exact f2
def relS (sc scope : Scope) : Scope := { scope with names := scope.names.map fun (n, k) => if (k == .free && sc.kind == .function && sc.names.lookup n == some .cell) then (n, .cell) else (n, k) }
def CP.sub (cp : CP) (scope : Scope) : CP := { cp with sc := relS cp.sc scope, raw := some scope, top := false }
theorem takes0 {X : Ctx} : Takes X W0 := fun u s' ⟨a, B, sI, pins, σ, H, cls, d, e, I, nb, up, sky, na, os, ag, w⟩ => w.elim
section
variable {X : Ctx} {Γ : Gam} {T : Tb} {W : WX} {cp : CP}
theorem FOk.same {X' : Ctx} {l : String} (f : FOk X Γ T l) (h1 : X'.prog = X.prog) (h2 : X'.w = X.w) (h3 : X'.K = X.K) (h4 : X'.mg = X.mg) (h5 : X'.base = X.base) (h6 : X'.A = X.A) : FOk X' Γ T l := by
  unfold FOk FOk1 FOk2
  rw [h1, h2, h3, h4, h5, h6]
  exact f
theorem FOkN.same {X' : Ctx} {l : String} (f : FOkN X Γ T l) (h1 : X'.prog = X.prog) (h2 : X'.w = X.w) (h3 : X'.K = X.K) (h4 : X'.mg = X.mg) (h5 : X'.base = X.base) (h6 : X'.A = X.A) : FOkN X' Γ T l := by
  unfold FOkN FOk1N FOk2N
  rw [h1, h2, h3, h4, h5, h6]
  exact f
theorem GlOk.same {X' : Ctx} {x : Str} {g : GK} (f : GlOk X Γ T x g) (h1 : X'.prog = X.prog) (h2 : X'.w = X.w) (h3 : X'.K = X.K) (h4 : X'.mg = X.mg) (h5 : X'.base = X.base) (h6 : X'.A = X.A) : GlOk X' Γ T x g := by
  cases g with
  | blt => show X'.mg x = none; rw [h4]; exact f
  | fn l => exact ⟨by rw [h4]; exact f.1, f.2.same h1 h2 h3 h4 h5 h6⟩
  | con y =>
    obtain ⟨v, u, val, a, b, c, d⟩ := f
    exact ⟨v, u, val, by rw [h4]; exact a, b, c, by rw [h3]; exact d⟩
  | cls c => exact ⟨by rw [h4]; exact f.1, f.2⟩
  | no => trivial
  | key l =>
    refine ⟨by rw [h4]; exact f.1, ?_, by rw [h3]; exact f.2.2⟩
    have q := f.2.1
    unfold FOk1 at q ⊢
    rw [h1, h2, h3, h4, h5, h6]
    exact q
  | fnd l v =>
    refine ⟨by rw [h4]; exact f.1, f.2.1.same h1 h2 h3 h4 h5 h6, ?_⟩
    have q := f.2.2
    unfold FOkD at q ⊢
    rw [h1, h2, h3, h4, h5, h6]
    exact q
/-- what may be named in an except suite -/
def GK.demote : GK → GK
  | .fn _ => .no
  | .key _ => .no
  | .fnd _ _ => .no
  | g => g
def demo (l : List (Str × GK)) : List (Str × GK) := l.map fun p => (p.1, p.2.demote)
theorem glk_demo {x : Str} : ∀ {l : List (Str × GK)} {g : GK}, glk (demo l) x = some g → ∃ g0, glk l x = some g0 ∧ g = g0.demote
  | [], _, h => by cases h
  | (y, k) :: r, g, h => by
    have h : (if sq x y = true then some k.demote else glk (demo r) x) = some g := h
    unfold glk
    by_cases e : sq x y = true
    · rw [if_pos e] at h ⊢
      cases h
      exact ⟨k, rfl, rfl⟩
    · rw [if_neg e] at h ⊢
      exact glk_demo h
def CP.suite (cp : CP) (i : Nat) : CP := { cp with gl := demo cp.gl, hot := true, cur := some i, nx := false, nxl := [], nxm := [], top := false }
def CP.inn (cp : CP) : CP := { cp with top := false }
def CP.inN (cp : CP) : CP := { cp with nx := true, top := false }
theorem Fit.blk (F : Fit X W Γ T cp) (hh : cp.hot = false) (scope : Scope) (s : Shared) (H : Hp) (C : Addr) (cl : List (Str × Addr)) (fp : List Addr) : Fit (X.blk s H scope (compEnvC scope cl C X.env) fp) W0 Γ T (cp.sub scope) where
  L := F.L
  N := F.N
  nd := F.nd
  sc := by
    show relabel scope X.env = relS cp.sc scope
    rw [← F.sc]
    rfl
  calm := F.calm
  hu := F.hu
  pas := PassesOwn.never
  fn := fun x h => h
  tk := fun _ => takes0
  tkn := toN takes0
  nxo := fun l hl => (F.nxo l hl).same rfl rfl rfl rfl rfl rfl
  nxq := fun m hm c l q => (F.nxq m hm c l q).same rfl rfl rfl rfl rfl rfl
  pax := fun z => by cases z
  gl := fun x g h => (F.gl x g h).same rfl rfl rfl rfl rfl rfl
  mth := fun hh c m l h => ⟨(F.mth hh c m l h).1, (F.mth hh c m l h).2.same rfl rfl rfl rfl rfl rfl⟩
  isi := F.isi
  fld := F.fld
  stk := fun z => by cases z
  cold := F.cold
  cur := fun i a e z => by rw [F.cold hh] at z; cases z
  exc := fun hh c => ⟨(F.exc hh c).1, fun n ns e => ((F.exc hh c).2 n ns e).same rfl rfl rfl rfl rfl rfl⟩
  xff := F.xff
  sub := F.sub
  lam := fun z => by cases z
theorem Fit.nox (F : Fit X W Γ T cp) (hh : cp.hot = false) : Fit X.nox W0 Γ T cp where
  L := F.L
  N := F.N
  nd := F.nd
  sc := F.sc
  calm := F.calm
  hu := F.hu
  pas := PassesOwn.never
  fn := F.fn
  tk := fun _ => takes0
  tkn := toN takes0
  nxo := fun l hl => (F.nxo l hl).same rfl rfl rfl rfl rfl rfl
  nxq := fun m hm c l q => (F.nxq m hm c l q).same rfl rfl rfl rfl rfl rfl
  pax := fun _ _ => PassesOwnAt.never
  gl := fun x g h => (F.gl x g h).same rfl rfl rfl rfl rfl rfl
  mth := fun hh c m l h => ⟨(F.mth hh c m l h).1, (F.mth hh c m l h).2.same rfl rfl rfl rfl rfl rfl⟩
  isi := F.isi
  fld := F.fld
  stk := F.stk
  cold := F.cold
  cur := fun i a e z => by rw [F.cold hh] at z; cases z
  exc := fun hh c => ⟨(F.exc hh c).1, fun n ns e => ((F.exc hh c).2 n ns e).same rfl rfl rfl rfl rfl rfl⟩
  xff := F.xff
  sub := F.sub
  lam := F.lam
theorem Fit.tr (F : Fit X W Γ T cp) (hh : cp.hot = false) {W' : WX} (pn : List (Addr × PySem.Obj)) (xe : Value → Shared → Prop) (tk : Takes (X.tr pn xe) W') (hp : PassesOwn (model X.prog X.w) X.A X.env xe) : Fit (X.tr pn xe) W' Γ T cp.inn where
  L := F.L
  N := F.N
  nd := F.nd
  sc := F.sc
  calm := F.calm
  hu := F.hu
  pas := hp
  fn := F.fn
  tk := fun _ => tk
  tkn := toN tk
  nxo := fun l hl => (F.nxo l hl).same rfl rfl rfl rfl rfl rfl
  nxq := fun m hm c l q => (F.nxq m hm c l q).same rfl rfl rfl rfl rfl rfl
  pax := fun z => nomatch (show false = true from z)
  gl := fun x g h => (F.gl x g h).same rfl rfl rfl rfl rfl rfl
  mth := fun hh c m l h => ⟨(F.mth hh c m l h).1, (F.mth hh c m l h).2.same rfl rfl rfl rfl rfl rfl⟩
  isi := F.isi
  fld := F.fld
  stk := F.stk
  cold := F.cold
  cur := fun i a e z => by rw [F.cold hh] at z; cases z
  exc := fun hh c => ⟨(F.exc hh c).1, fun n ns e => ((F.exc hh c).2 n ns e).same rfl rfl rfl rfl rfl rfl⟩
  xff := F.xff
  sub := F.sub
  lam := F.lam
theorem Fit.trN (F : Fit X W Γ T cp) (hh : cp.hot = false) {W' : WX} (pn : List (Addr × PySem.Obj)) (xe : Value → Shared → Prop) (tk : L2N.Takes (X.tr pn xe) W') (hp : PassesOwn (model X.prog X.w) X.A X.env xe) : Fit (X.tr pn xe) W' Γ T cp.inN where
  L := F.L
  N := F.N
  nd := F.nd
  sc := F.sc
  calm := F.calm
  hu := F.hu
  pas := hp
  fn := F.fn
  tk := fun z => nomatch (show true = false from z)
  tkn := tk
  nxo := fun l hl => (F.nxo l hl).same rfl rfl rfl rfl rfl rfl
  nxq := fun m hm c l q => (F.nxq m hm c l q).same rfl rfl rfl rfl rfl rfl
  pax := fun z => nomatch (show false = true from z)
  gl := fun x g h => (F.gl x g h).same rfl rfl rfl rfl rfl rfl
  mth := fun hh c m l h => ⟨(F.mth hh c m l h).1, (F.mth hh c m l h).2.same rfl rfl rfl rfl rfl rfl⟩
  isi := F.isi
  fld := F.fld
  stk := F.stk
  cold := F.cold
  cur := fun i a e z => by rw [F.cold hh] at z; cases z
  exc := fun hh c => ⟨(F.exc hh c).1, fun n ns e => ((F.exc hh c).2 n ns e).same rfl rfl rfl rfl rfl rfl⟩
  xff := F.xff
  sub := F.sub
  lam := F.lam
theorem FOk1.callV {l : String} (f : FOk1 X Γ T l) (tk : Takes X W) : CallV X W Γ T (.ref (T.fn l)) l := by
  intro pins s σ H xs us vals h Q I r rv rh w
  obtain ⟨k, fd, ps, F, hr, hb, hl⟩ := f
  have hn := hl _ _ _ _ w
  exact run_fnS (E := WE W) F hr hb (passAt tk σ) I r ⟨by rw [← hn, rv.length], vals, h, rv, rh, w⟩
theorem FOk1N.callV {l : String} (f : FOk1N X Γ T l) (tk : L2N.Takes X W) : CallV X W Γ T (.ref (T.fn l)) l := by
  intro pins s σ H xs us vals h Q I r rv rh w
  obtain ⟨k, fd, ps, F, hr, hb, hl⟩ := f
  have hn := hl _ _ _ _ w
  exact run_fnS (E := WE W) F hr hb (L2N.passAt tk σ) I r ⟨by rw [← hn, rv.length], vals, h, rv, rh, w⟩
theorem run_makeS {CX : CXT} {k : Nat} {C f : Addr} {fd : FuncData} {ps : List Str} {sp : Sp} {E : XK} {pins : List (Addr × PySem.Obj)} {σ : L2.St} {H : Hp} {s : Shared} {Q : VK} {us : List Value} {vs : List V} (M : Mk X.K C f) (F : FnOk X.prog X.w X.K X.mg X.base CX k f fd ps sp) (hr : Room (k + 1) X.A) (hb : Binds X.K fd ps [])
    (hx : PassesAt CX X σ E) (I : Inv X pins σ H s) (r : Vals vs us)
    (h : ∀ x dx, H x = none → H dx = none → dx ≠ x → sp (.ref x :: vs) (upd (upd H dx (.own x)) x (.ins C dx [])) (fun v H2 => v = .non ∧ Q (.ref x) H2) E) :
    wpAny (model X.prog X.w) X.A (call (.ref C) us) (EP X pins σ Q) X.xe s := by
  have hq := h (s.heap.objs.size + 1) s.heap.objs.size (I.hok.fresh (Nat.le_succ _)) (I.hok.fresh (Nat.le_refl _)) (Nat.ne_of_lt (Nat.lt_succ_self _))
  have I2 := Inv.made (C := C) I
  have r2 : Vals (V.ref (s.heap.objs.size + 1) :: vs) (Value.ref (s.heap.objs.size + 1) :: us) := .cons rfl r
  have hl : (Value.ref (s.heap.objs.size + 1) :: us).length = ps.length := by
    have e := r2.length
    rw [F.len _ _ _ _ hq] at e
    exact e.symm
  have b := hb _ (Value.ref (s.heap.objs.size + 1) :: us) I2.kIn (by rw [List.append_nil]; exact hl)
  rw [List.append_nil] at b
  refine wpAny_call (make_map (f := f) I.kIn M.makes M.init (beq_iff_eq.mp M.fn) (codeAny_mono (F.run _ X.stack _ _ ⟨Value.ref (s.heap.objs.size + 1) :: us, []⟩ (Value.ref (s.heap.objs.size + 1) :: us) _ _ E (hr.make C us [])
    (I2.env0.make C us []) b r2 hq) fun r s' hq' => ?_))
  cases r with
  | error e => exact hx pins _ _ e s' I2 hq'
  | ok fl =>
    cases fl with
    | ret u =>
      obtain ⟨v, H', I3, rv, ev, q3⟩ := I2.after hq'
      subst ev
      exact ⟨rv, ⟨V.ref (s.heap.objs.size + 1), H', I3, rfl, q3⟩⟩
    | next => exact False.elim hq'
    | brk => exact False.elim hq'
    | cont => exact False.elim hq'
theorem FOk2.callV {l : String} (f : FOk2 X Γ T l) (tk : Takes X W) : CallV X W Γ T (.ref (T.fn l)) l := by
  intro pins s σ H xs us vals h Q I r rv rh w
  obtain ⟨k, fd, ps, f, c, sp, M, F, hr, hb, hs⟩ := f
  exact run_makeS (E := WE W σ) M F hr hb (passAt tk σ) I r (hs vals xs h H Q _ rv rh w)
theorem FOk2N.callV {l : String} (f : FOk2N X Γ T l) (tk : L2N.Takes X W) : CallV X W Γ T (.ref (T.fn l)) l := by
  intro pins s σ H xs us vals h Q I r rv rh w
  obtain ⟨k, fd, ps, f, c, sp, M, F, hr, hb, hs⟩ := f
  exact run_makeS (E := WE W σ) M F hr hb (L2N.passAt tk σ) I r (hs vals xs h H Q _ rv rh w)
theorem FOk.callV {l : String} (f : FOk X Γ T l) (tk : Takes X W) : CallV X W Γ T (.ref (T.fn l)) l := f.1.elim (fun f => f.callV tk) fun f => f.callV tk
def okF (cp : CP) (l : String) : Bool := !cp.nx || decide (l ∈ cp.nxl)
def okM (cp : CP) (m : String) : Bool := !cp.nx || decide (m ∈ cp.nxm)
theorem nx_or {a b : Bool} (h : (!a || b) = true) : a = false ∨ b = true := by
  cases a with
  | false => exact .inl rfl
  | true => exact .inr h
theorem Fit.callV (F : Fit X W Γ T cp) {l : String} (f : FOk X Γ T l) (h : okF cp l = true) : CallV X W Γ T (.ref (T.fn l)) l := by
  rcases nx_or h with q | q
  · exact f.callV (F.tk q)
  · exact (F.nxo l (of_decide_eq_true q)).elim (fun f => f.callV F.tkn) fun f => f.callV F.tkn
theorem Fit.callM (F : Fit X W Γ T cp) {m c l : String} (hm : Γ.mth c m = some l) (f : FOk X Γ T l) (h : okM cp m = true) : CallV X W Γ T (.ref (T.fn l)) l := by
  rcases nx_or h with q | q
  · exact f.callV (F.tk q)
  · exact (F.nxq m (of_decide_eq_true q) c l hm).elim (fun f => f.callV F.tkn) fun f => f.callV F.tkn
def CallD (X : Ctx) (W : WX) (Γ : Gam) (T : Tb) (u : Value) (f : String) (v : Int) : Prop :=
  ∀ (pins : List (Addr × PySem.Obj)) (s : Shared) (σ : L2.St) (H : Hp) (xs : List V) (us : List Value) (vals : List Val) (h : VH) (Q : VK), Inv X pins σ H s → Vals xs us → RVs T X.K H vals xs → RH T X.K h H →
    Γ.call f (vals ++ [.int v]) h (dn T X.K H Q) (dx T X.K H fun c d H' => W c d σ H') → wpAny (model X.prog X.w) X.A (call u us) (EP X pins σ Q) X.xe s
theorem FOkD.callD {l : String} {v : Int} (f : FOkD X Γ T l v) (tk : Takes X W) : CallD X W Γ T (.ref (T.fn l)) l v := by
  intro pins s σ H xs us vals h Q I r rv rh w
  obtain ⟨k, fd, ps, t, F, hr, hb, hl⟩ := f
  have hn := hl _ _ _ _ w
  have rv2 : RVs T X.K H (vals ++ [.int v]) (xs ++ [V.int v]) := rv.append (.cons (rv_int.mpr rfl) .nil)
  exact run_fnSD (E := WE W) F hr hb (dvs := [V.int v]) (.cons ⟨t, rfl⟩ .nil) (passAt tk σ) I r ⟨by rw [← hn, rv2.length], vals ++ [.int v], h, rv2, rh, w⟩
theorem Fit.suite (F : Fit X W Γ T cp) (hr : cp.raw = none) (a : Addr) (oe : PySem.Obj) (e : Exc) (pn : List (Addr × PySem.Obj)) (i : Nat) (hz : Zc (.ref (T.cls e.cls)) e.d oe) (hv : ∃ vs, oe.data = .fields vs) :
    Fit (X.suite a ((a, oe) :: pn)) W0 { Γ with cur := some (i, a, e) } T (cp.suite i) where
  L := ⟨rfl, rfl, rfl, rfl, rfl, rfl, rfl, F.L.call⟩
  N := F.N
  nd := F.nd
  sc := F.sc
  calm := fun z => by cases z
  hu := F.hu
  pas := PassesOwn.never
  fn := F.fn
  tk := fun _ => takes0
  tkn := toN takes0
  nxo := fun l hl => by cases hl
  nxq := fun m hm => by cases hm
  pax := fun z => by cases z
  gl := fun x g h => by
    obtain ⟨g0, h1, rfl⟩ := glk_demo h
    have q := F.gl x g0 h1
    cases g0 with
    | blt => exact q
    | fn l => trivial
    | con y => exact q
    | cls c => exact q
    | no => trivial
    | key l => trivial
    | fnd l v => trivial
  mth := fun z => by cases z
  isi := ⟨F.isi.one, F.isi.many, F.isi.own⟩
  fld := F.fld
  stk := fun z => F.stk z
  cold := fun z => by cases z
  cur := fun j b x z => by
    have z : some (i, a, e) = some (j, b, x) := z
    cases z
    exact ⟨rfl, X, oe, pn, rfl, hz, hv⟩
  exc := fun z => by cases z
  xff := F.xff
  sub := F.sub
  lam := fun _ z => by cases z
/-! ### small checks -/
def visB (sc : Scope) (x : Str) : Bool := match sc.names.lookup x with
  | some .local => true
  | some .cell => true
  | some .free => true
  | _ => false
theorem visB_ok {sc : Scope} {x : Str} (h : visB sc x = true) : Vis sc x := by
  unfold visB at h
  split at h <;> first | (rename_i e; exact .inl e) | (rename_i e; exact .inr (.inl e)) | (rename_i e; exact .inr (.inr e)) | cases h
def ixB (N : List Str) (i : Nat) (x : Str) : Bool := match N[i]? with
  | some y => sq y x
  | none => false
theorem ixB_ok {N : List Str} {i : Nat} {x : Str} (h : ixB N i x = true) : N[i]? = some x := by
  unfold ixB at h
  split at h
  · rename_i y e; rw [e, sq_ok h]
  · cases h
def nmB (x : Str) : Bool := !(x == ("__debug__" : Str)) && !(x == ("__classdict__" : Str))
theorem nmB_ok {x : Str} (h : nmB x = true) : (x == ("__debug__" : Str)) = false ∧ (x == ("__classdict__" : Str)) = false := by
  unfold nmB at h
  rw [Bool.and_eq_true, Bool.not_eq_true', Bool.not_eq_true'] at h
  exact h
def varB (cp : CP) (i : Nat) (x : Str) : Bool := ixB cp.N i x && visB cp.sc x && nmB x
theorem varB_ok (F : Fit X W Γ T cp) {i : Nat} {x : Str} {pos : Pos} (h : varB cp i x = true) : PE X (.Name x pos) (tE Γ T X.K W (.var i)) := by
  unfold varB at h
  simp only [Bool.and_eq_true] at h
  obtain ⟨⟨h1, h2⟩, h3⟩ := h
  exact s_var (by rw [F.N]; exact ixB_ok h1) (by rw [F.sc]; exact visB_ok h2) (nmB_ok h3).1 (nmB_ok h3).2
/-- a global name -/
def glB (cp : CP) (x : Str) : Bool := decide (cp.sc.names.lookup x = some .globalImplicit) && nmB x
theorem glB_ok (F : Fit X W Γ T cp) {x : Str} (h : glB cp x = true) : Gl X x ∧ (x == ("__debug__" : Str)) = false := by
  unfold glB at h
  rw [Bool.and_eq_true] at h
  exact ⟨by show X.env.scope.names.lookup x = _; rw [F.sc]; exact of_decide_eq_true h.1, (nmB_ok h.2).1⟩
def bltB (cp : CP) (x : Str) : Bool := glB cp x && (match glk cp.gl x with
  | some .blt => true
  | _ => false)
theorem bltB_ok (F : Fit X W Γ T cp) {x : Str} (h : bltB cp x = true) : Gl X x ∧ X.mg x = none ∧ (x == ("__debug__" : Str)) = false := by
  unfold bltB at h
  rw [Bool.and_eq_true] at h
  obtain ⟨h1, h2⟩ := h
  split at h2
  · rename_i e
    exact ⟨(glB_ok F h1).1, F.gl _ _ e, (glB_ok F h1).2⟩
  · cases h2
/-- the stores to a name -/
def locB (cp : CP) (i : Nat) (x : Str) : Bool := ixB cp.N i x && (match cp.sc.names.lookup x with
  | some .local => true
  | some .cell => (match cp.raw with
    | none => true
    | some sc => sc.names.lookup x == some .cell)
  | _ => false)
theorem locB_ok (F : Fit X W Γ T cp) {i : Nat} {x : Str} (h : locB cp i x = true) : X.N[i]? = some x ∧ Loc X.env.scope x ∧ (X.fn x = true ∨ X.env.scope.names.lookup x = some .local) := by
  unfold locB at h
  rw [Bool.and_eq_true] at h
  obtain ⟨h1, h2⟩ := h
  refine ⟨by rw [F.N]; exact ixB_ok h1, ?_⟩
  rw [F.sc]
  split at h2
  · rename_i e; exact ⟨.inl e, .inr e⟩
  · rename_i e
    refine ⟨.inr e, .inl (F.fn x ?_)⟩
    exact h2
  · cases h2
def nmsB (cp : CP) : List Nat → List Expr → Bool
  | [], [] => true
  | i :: is, .Name x _ :: es => locB cp i x && nmsB cp is es
  | _, _ => false
theorem nmsB_ok (F : Fit X W Γ T cp) : ∀ {is : List Nat} {es : List Expr}, nmsB cp is es = true → Nms X es is
  | [], es, h => by
    cases es with
    | nil => exact .nil
    | cons e es => cases h
  | i :: is, es, h => by
    cases es with
    | nil => cases h
    | cons e es =>
      cases e with
      | Name x p =>
        obtain ⟨h, h'⟩ := Bool.and_eq_true_iff.mp (show (locB cp i x && nmsB cp is es) = true from h)
        obtain ⟨h1, h2, h3⟩ := locB_ok F h
        exact .cons h1 h2 h3 (nmsB_ok F h')
      | _ => cases h
def gB (cp : CP) : G → Expr → Bool
  | .nm i, .Name x _ => locB cp i x
  | .tp is, .Tuple es _ _ => !cp.hot && nmsB cp is es
  | _, _ => false
theorem gB_ok (F : Fit X W Γ T cp) {g : G} {e : Expr} (h : gB cp g e = true) : PG X e (tG T X.K g) ∧ PG X e (gRaw X.K g) := by
  unfold gB at h
  split at h
  · obtain ⟨h1, h2, h3⟩ := locB_ok F h
    exact ⟨s_gnm F.nd h1 h2 h3, s_gRaw1 F.nd h1 h2 h3⟩
  · obtain ⟨h1, h2⟩ := Bool.and_eq_true_iff.mp h
    have hc := F.calm (hotF h1)
    exact ⟨s_gtp hc F.nd (nmsB_ok F h2), s_gRaw2 hc F.nd (nmsB_ok F h2)⟩
  · cases h
def opB : Bop → Operator → Bool
  | .add, .Add => true | .sub, .Sub => true | .mul, .Mult => true | .fdiv, .FloorDiv => true | .mod, .Mod => true | .shl, .LShift => true | .shr, .RShift => true
  | .band, .BitAnd => true | .bor, .BitOr => true | .bxor, .BitXor => true | .pow, .Pow => true | _, _ => false
theorem opB_ok {o : Bop} {p : Operator} (h : opB o p = true) : p = opOf o := by cases o <;> cases p <;> first | rfl | cases h
def cmpB : Cop → CmpOp → Bool
  | .eq, .Eq => true | .ne, .NotEq => true | .lt, .Lt => true | .le, .LtE => true | .gt, .Gt => true | .ge, .GtE => true | .mem, .In => true | .nmem, .NotIn => true | _, _ => false
theorem cmpB_ok {o : Cop} {p : CmpOp} (h : cmpB o p = true) : p = cmpOf o := by cases o <;> cases p <;> first | rfl | cases h
/-- no set, no star, no slice -/
def plE : Expr → Bool
  | .Set .. => false
  | .Starred .. => false
  | .Slice .. => false
  | _ => true
theorem pl_marks {o : CmpOp} {e : Expr} (h : plE e = true) : behindInMarks o e = false := by cases e <;> first | rfl | cases h
theorem pl_star {e : Expr} (h : plE e = true) (es : List Expr) (env : Env) : starEach (e :: es) env = (false, eval e env) :: starEach es env := by cases e <;> first | rfl | cases h
theorem pl_ix {e : Expr} (h : plE e = true) : PlainIx e := fun o i => by cases e <;> first | rfl | cases h
theorem pl_fold {e : Expr} (h : plE e = true) (env : Env) (x : Value) : foldedSetIterable e env x = pure x := by cases e <;> first | rfl | cases h
def pls (es : List Expr) : Bool := es.all plE
theorem pls_any {es : List Expr} (h : pls es = true) (pos : Pos) (env : Env) : (backTo pos (starEach es env)).any (·.1) = false := by
  induction es with
  | nil => rfl
  | cons e es ih =>
    unfold pls at h
    rw [List.all_cons, Bool.and_eq_true] at h
    rw [pl_star h.1]
    exact ih h.2
theorem star_length (env : Env) : ∀ es : List Expr, (starEach es env).length = es.length
  | [] => rfl
  | e :: es => by
    cases e <;> exact congrArg Nat.succ (star_length env es)
theorem pls_all {es : List Expr} (h : pls es = true) (pos : Pos) (env : Env) : (backTo pos (starEach es env)).all (fun x => !x.1) = true := by
  induction es with
  | nil => rfl
  | cons e es ih =>
    unfold pls at h
    rw [List.all_cons, Bool.and_eq_true] at h
    rw [pl_star h.1]
    exact ih h.2
/-- an object of a method, an attribute: no call without arguments of a name -/
def abB : Expr → Bool
  | .Call (.Name x _) [] [] _ => !(sq x "super")
  | _ => true
theorem abB_ok {o : Expr} (h : abB o = true) (f : Str) (env : Env) (w : Sem Value) : attributeBase o f env w = w := by
  unfold attributeBase
  split
  · rename_i id p pos
    have : id ≠ ("super" : Str) := by
      intro e
      subst e
      have : sq ("super" : Str) ("super" : Str) = true := by unfold sq; exact decide_eq_true rfl
      unfold abB at h
      dsimp only at h
      rw [this] at h
      cases h
    have e : (id != ("super" : Str)) = true := by rw [bne_iff_ne]; exact this
    rw [e]
    simp
  · rfl
/-! ### blocks of comprehensions -/
def blkB (N : List Str) (sc scope : Scope) (own : List (Str × Nat)) : Bool :=
  decide (scope.kind = .function) && scope.names.all (fun y => decide (scope.names.lookup y.1 = some y.2)) && own.all (fun p => ixB N p.2 p.1)
    && scope.names.all (fun y => !(decide (y.2 = .free)) || (decide (sc.names.lookup y.1 = some .cell) || decide (sc.names.lookup y.1 = some .free)))
    && scope.names.all (fun y => !(decide (y.2 = .local) || decide (y.2 = .cell)) || (own.any (fun p => sq p.1 y.1) || !(N.any fun z => decide (z = y.1))))
theorem blkB_ok {N : List Str} {sc scope : Scope} {own : List (Str × Nat)} (h : blkB N sc scope own = true) : BlkOk N sc scope own := by
  unfold blkB at h
  simp only [Bool.and_eq_true, List.all_eq_true, decide_eq_true_eq] at h
  obtain ⟨⟨⟨⟨h1, h2⟩, h3⟩, h4⟩, h5⟩ := h
  refine ⟨h1, h2, fun p hp => ixB_ok (h3 p hp), fun y hy e => ?_, fun y hy e => ?_⟩
  · have := h4 y hy
    simp only [Bool.or_eq_true, Bool.not_eq_true', decide_eq_false_iff_not, decide_eq_true_eq] at this
    rcases this with z | z
    · exact (z e).elim
    · exact z
  · have := h5 y hy
    simp only [Bool.or_eq_true, Bool.not_eq_true', Bool.or_eq_false_iff, decide_eq_false_iff_not, List.any_eq_true, List.any_eq_false, decide_eq_true_eq] at this
    rcases this with z | z | z
    · rcases e with e | e
      · exact (z.1 e).elim
      · exact (z.2 e).elim
    · obtain ⟨p, hp, e2⟩ := z
      exact .inl (List.mem_map.mpr ⟨p, hp, sq_ok e2⟩)
    · exact .inr fun hm => z _ hm rfl
end
/-! ### lambdas of one parameter -/
def lamP (p : Arguments) : Option Str := match p with
  | ⟨[], [a], none, [], [], none, []⟩ => some a.arg
  | _ => none
def noFree (sc : Scope) : Bool := sc.names.all fun y => !decide (y.2 = .free)
theorem noFree_ok {sc : Scope} (h : noFree sc = true) : ∀ y ∈ sc.names, y.2 ≠ .free := fun y hy e => by
  have := List.all_eq_true.mp h y hy
  rw [e] at this
  cases this
theorem lamP_ok {p : Arguments} {x : Str} (h : lamP p = some x) : (∀ env, defaultsOf p env = ([], [])) ∧ ∀ (q : Str) (b : Expr) (sc : Scope) (pm cdv ctv : Value) (us : List Value), us.length = [x].length → bindArgs (PySem.W.kla_fn "<lambda>" q p b sc [] pm cdv ctv) ⟨us, []⟩ = pure ([x].zip us) := by
  unfold lamP at h
  split at h
  · rename_i a
    cases h
    refine ⟨fun env => rfl, fun q b sc pm cdv ctv us hl => ?_⟩
    match us, hl with
    | [u], _ =>
      unfold bindArgs
      simp [seqItems?, notAStandIn]
  · cases h
def CP.lmb (cp : CP) (x : Str) (sc : Scope) : CP := ⟨[x], sc, some sc, cp.gl, false, none, 0, false, [], [], false⟩
section
variable {X : Ctx} {Γ : Gam} {T : Tb} {W : WX} {cp : CP}
theorem Fit.lmb (F : Fit X W Γ T cp) (hh : cp.hot = false) {x : Str} {G : LF} (S : NdefX.NScope [x] [x] [] G.scope) (f : Addr) {A : Around} {outer : List Env} {s : Shared} {H : Hp} {E : XK} {r : Nat} (hr : Room r (A.deeper (NdefX.envF G.nf f s.heap.objs.size)))
    (lo : LowOk (NdefX.ncx (L2.CX X.prog X.w) X.prog X.w X.K X.mg X.base [x] G.nf f A outer s H E) Γ T cp.gl) : Fit (NdefX.ncx (L2.CX X.prog X.w) X.prog X.w X.K X.mg X.base [x] G.nf f A outer s H E) W0 Γ T (cp.lmb x G.scope) where
  L := F.L
  N := rfl
  nd := S.nd
  sc := rfl
  calm := fun _ => rfl
  hu := by have := hr.un; show (A.deeper (NdefX.envF G.nf f s.heap.objs.size)).units + 65 < cLine; omega
  pas := passes_of rfl
  fn := fun y h => by
    exfalso
    have h : (G.scope.names.lookup y == some NameKind.cell) = true := h
    cases e : G.scope.names.lookup y with
    | none => rw [e] at h; cases h
    | some k =>
      rw [e] at h
      have hk : k = .cell := by cases k <;> first | rfl | cases h
      exact S.nocell _ (PySem.mem_of_lookup e) hk
  tk := fun _ => takes0
  tkn := toN takes0
  nxo := fun l hl => by cases hl
  nxq := fun m hm => by cases hm
  pax := fun z => by cases z
  gl := lo.gl
  mth := fun _ => lo.mth
  isi := F.isi
  fld := F.fld
  stk := fun z => by cases z
  cold := fun _ => F.cold hh
  cur := fun i a e z => by rw [F.cold hh] at z; cases z
  exc := fun _ => lo.exc
  xff := F.xff
  sub := F.sub
  lam := fun z => by cases z
end
end MP
end
section
set_option maxHeartbeats 4000000
/-! MpP: the checker of written expressions, and that it is right. -/
namespace MP
open PySem PySem.Spec PyProof.Rows L2
def ownOf (N : List Str) (vs : List Nat) : List (Str × Nat) := vs.map fun i => (N.getD i Str.empty, i)
theorem ownOf_map (N : List Str) (vs : List Nat) : (ownOf N vs).map (·.2) = vs := by
  unfold ownOf
  rw [List.map_map]
  exact List.map_id vs
def okB (cp : CP) (m : Bmt) : Bool := !cp.nx || (match m with
  | .index => false
  | _ => true)
def fnB (cp : CP) (f : String) (x : Str) : Bool := glB cp x && (match glk cp.gl x with
  | some (.fn l) => decide (l = f) && okF cp f
  | some (.fnd l _) => decide (l = f) && okF cp f
  | _ => false)
def fndB (cp : CP) (f : String) (ds : List Val) (x : Str) : Bool := glB cp x && (match glk cp.gl x with
  | some (.fnd l v) => decide (l = f) && !cp.nx && (match ds with
    | [.int u] => decide (u = v)
    | _ => false)
  | _ => false)
def kfnB (cp : CP) (f : String) (x : Str) : Bool := glB cp x && (match glk cp.gl x with
  | some (.key l) => decide (l = f)
  | _ => false)
def conB (cp : CP) (y : String) (x : Str) : Bool := glB cp x && (match glk cp.gl x with
  | some (.con z) => decide (z = y)
  | some (.fn z) => false
  | _ => false)
def bifN : Bif → String
  | .len => "len" | .min => "min" | .max => "max" | .abs => "abs" | .all => "all" | .any => "any" | .sum => "sum" | .str => "str" | .int => "int" | .list => "list" | .tuple => "tuple" | .dict => "dict" | .sorted => "sorted"
def bifS : Bif → Bool
  | .dict => false | _ => true
def bifB (cp : CP) (f : Bif) (x : Str) : Bool := !cp.hot && (bifS f && sq x (Str.ofString (bifN f)) && bltB cp x)
def clsB (cp : CP) (c : String) : Expr → Bool
  | .Name x _ => if bltTy c = true then sq x (Str.ofString c) && bltB cp x && (c == "bool" || c == "int" || c == "str" || c == "tuple" || c == "list" || c == "dict" || c == "ValueError") else glB cp x && (match glk cp.gl x with
    | some (.cls d) => decide (d = c)
    | _ => false)
  | _ => false
def clssB (cp : CP) : List String → List Expr → Bool
  | [], [] => true
  | c :: cs, e :: es => plE e && clsB cp c e && clssB cp cs es
  | _, _ => false
/-- the methods of built-in types with an argument -/
def bmtB (m : Bmt) (ty : String) (x : Str) : Bool := match m with
  | .append => decide (ty = "list") && sq x "append"
  | .extend => decide (ty = "list") && sq x "extend"
  | .split => decide (ty = "str") && sq x "split"
  | .join => decide (ty = "str") && sq x "join"
  | .find => decide (ty = "str") && sq x "find"
  | .index => decide (ty = "str") && sq x "index"
  | .get => decide (ty = "dict") && sq x "get"
  | .setdefault => decide (ty = "dict") && sq x "setdefault"
  | .startswith => decide (ty = "str") && sq x "startswith"
  | .count => decide (ty = "str") && sq x "count"
  | _ => false
/-- those without -/
def bmtB0 (m : Bmt) (ty : String) (x : Str) : Bool := match m with
  | .pop => decide (ty = "list") && sq x "pop"
  | .bitlen => decide (ty = "int") && sq x "bit_length"
  | .clear => decide (ty = "list") && sq x "clear"
  | _ => false
def tupB : Expr → Bool
  | .Tuple .. => true
  | _ => false
/-- an expression whose value may be known as a value from then on -/
def frzB : Expr → Bool
  | .Name .. => true
  | .List .. => true
  | .ListComp .. => true
  | .Subscript .. => true
  | .BinOp .. => true
  | .Call .. => true
  | _ => false
theorem frzB_ok {e : Expr} (h : frzB e = true) (env : Env) (whole : PySem.Sem Value) : isTrue e env whole = (do let v ← whole; standAt e.pos; holding [v] (truthy v)) := by
  cases e <;> first | rfl | cases h
def noneB : Expr → Bool
  | .Constant .none _ _ => true
  | _ => false
/-- e.items() walked by pairs -/
def itemsB (cp : CP) (tg iter : Expr) (k : Expr → Bool) : Bool := (match tg with
  | .Tuple .. => true
  | _ => false) && (match iter with
  | .Call (.Attribute v name apos) [] [] pos => sq name "items" && abB v && decide (apos.endLine = pos.line) && k v
  | _ => false)
mutual
def chkE (cp : CP) : E → Expr → Bool
  | .non, e => noneB e
  | .bl b, e => (match e with
    | .Constant (.bool c) _ _ => b == c
    | _ => false)
  | .int i, e => (match e with
    | .Constant (.int j) _ _ => decide (i = j)
    | _ => false)
  | .str x, e => (match e with
    | .Constant (.str z) _ _ => decide (z.cps.toList = x) && decide (x.length ≤ SZ)
    | _ => false)
  | .var i, e => (match e with
    | .Name x _ => varB cp i x
    | _ => false)
  | .glb y, e => (match e with
    | .Name x _ => conB cp y x
    | _ => false)
  | .bop o a b, e => (match e with
    | .BinOp l p r _ => opB o p && chkE cp a l && chkE cp b r
    | _ => false)
  | .neg a, e => (match e with
    | .UnaryOp .USub x _ => chkE cp a x
    | _ => false)
  | .inv a, e => (match e with
    | .UnaryOp .Invert x _ => chkE cp a x
    | _ => false)
  | .not a, e => (match e with
    | .UnaryOp .Not x _ => chkE cp a x
    | _ => false)
  | .lg o es, e => (match e with
    | .BoolOp .And (v :: vs) _ => o && chkEs cp es (v :: vs)
    | .BoolOp .Or (v :: vs) _ => !o && chkEs cp es (v :: vs)
    | _ => false)
  | .cmp o a b, e => (match e with
    | .Compare l [p] [r] _ => cmpB o p && plE r && chkE cp a l && chkE cp b r
    | _ => false)
  | .chn o p a b c, e => (match e with
    | .Compare l [o', p'] [r, t] _ => cmpB o o' && cmpB p p' && plE t && chkE cp a l && chkE cp b r && chkE cp c t
    | _ => false)
  | .isn a, e => (match e with
    | .Compare l [.Is] [r] _ => noneB r && chkE cp a l
    | _ => false)
  | .ntn a, e => (match e with
    | .Compare l [.IsNot] [r] _ => noneB r && chkE cp a l
    | _ => false)
  | .ife c a b, e => (match e with
    | .IfExp t x y _ => chkE cp c t && chkE cp a x && chkE cp b y
    | _ => false)
  | .call f es, e => (match e with
    | .Call (.Name x _) vs [] _ => fnB cp f x && pls vs && chkEs cp es vs
    | _ => false)
  | .bif f es, e => (match e with
    | .Call (.Name x _) (v :: vs) [] _ => bifB cp f x && pls (v :: vs) && chkEs cp es (v :: vs)
    | _ => false)
  | .isi a cs, e => (match e with
    | .Call (.Name x _) [v, w] [] _ => (match cs with
      | [c] => sq x "isinstance" && bltB cp x && plE v && plE w && clsB cp c w && chkE cp a v
      | _ => false)
    | _ => false)
  | .lrng a, e => (match e with
    | .Call (.Name x _) [.Call (.Name y _) [v] [] _] [] _ => sq x "list" && bltB cp x && sq y "range" && bltB cp y && plE v && chkE cp a v && !cp.hot
    | _ => false)
  | .bmt m ty o es, e => (match e with
    | .Call (.Attribute oe name apos) vs [] pos => (if vs.isEmpty then bmtB0 m ty name else bmtB m ty name) && abB oe && decide (apos.endLine = pos.line) && pls vs && decide (vs.length < 20) && chkE cp o oe && chkEs cp es vs && (!cp.hot && okB cp m)
    | _ => false)
  | .idx a i, e => (match e with
    | .Subscript v s _ => plE s && chkE cp a v && chkE cp i s
    | _ => false)
  | .slc a lo hi, e => (match e with
    | .Subscript v (.Slice l u none _) _ => chkE cp a v && chkO cp lo l && chkO cp hi u
    | _ => false)
  | .lst es, e => (match e with
    | .List vs _ => pls vs && chkEs cp es vs
    | _ => false)
  | .tup es, e => (match e with
    | .Tuple vs _ _ => pls vs && chkEs cp es vs
    | _ => false)
  | .cmpr el t it c vs, e => (match e with
    | .ListComp elt gens scope _ => (match gens with
      | [⟨tg, iter, ifs, as_⟩] => decide (as_ = 0) && blkB cp.N cp.sc scope (ownOf cp.N vs) && (match t with
          | .nm i => decide (i ∈ vs)
          | .tp is => is.all fun i => decide (i ∈ vs)) && gB (cp.sub scope) t tg && plE iter && chkIt cp it tg iter && chkIf (cp.sub scope) c ifs && chkE (cp.sub scope) el elt && !cp.hot
      | _ => false)
    | _ => false)
  | .mth o m es, e => (match e with
    | .Call (.Attribute oe name apos) vs [] pos => sq name (Str.ofString m) && abB oe && decide (apos.endLine = pos.line) && pls vs && decide (vs.length < 20) && chkE cp o oe && chkEs cp es vs && (!cp.hot && okM cp m)
    | _ => false)
  | .fld o f, e => (match e with
    | .Attribute v name _ => sq name (Str.ofString f) && abB v && chkE cp o v
    | _ => false)
  | .dct es, e => (match e with
    | .Dict ks vs _ => chkPs cp es ks vs && decide (ks.length ≤ 15)
    | _ => false)
  | .dctT, e => (match e with
    | .Dict [] [] _ => true
    | _ => false)
  | .xfld f, e => (match e with
    | .Attribute (.Name x p) name _ => sq name (Str.ofString f) && (match cp.cur with
      | some i => varB cp i x
      | none => false)
    | _ => false)
  | .xisi cs, e => (match e with
    | .Call (.Name y _) [.Name x p, w] [] _ => sq y "isinstance" && bltB cp y && plE w && (match cp.cur with
        | some i => varB cp i x
        | none => false) && (match cs with
      | [c] => clsB cp c w
      | _ => (match w with
        | .Tuple ws _ _ => clssB cp cs ws && decide (2 ≤ cs.length) && decide (cs.length < 20)
        | _ => false))
    | _ => false)
  | .revl a, e => (match e with
    | .Subscript v (.Slice none none (some (.UnaryOp .USub (.Constant (.int i) _ _) _)) _) _ => decide (i = 1) && chkE cp a v
    | _ => false)
  | .srtd a, e => (match e with
    | .Call (.Name y _) [.Call (.Attribute v name apos) [] [] cpos] [] _ => sq y "sorted" && bltB cp y && sq name "keys" && abB v && decide (apos.endLine = cpos.line) && chkE cp a v && !cp.hot
    | _ => false)
  | .srtk a n m, e => (match e with
    | .Call (.Name y _) [v] [⟨some k, .Lambda ps b sc _, _⟩] _ => sq y "sorted" && bltB cp y && sq k "key" && plE v && chkE cp a v && decide (n = 1) && decide (cp.lam = 2) && cp.raw.isNone && !cp.hot && noFree sc && (match lamP ps with
      | some x => NdefX.nscB [x] [x] [] sc && chkE (cp.lmb x sc) m b
      | none => false)
    | _ => false)
  | .srtf a f, e => (match e with
    | .Call (.Name y _) [v] [⟨some k, .Name x _, _⟩] _ => sq y "sorted" && bltB cp y && sq k "key" && plE v && chkE cp a v && decide (1 ≤ cp.lam) && cp.raw.isNone && !cp.hot && kfnB cp f x
    | _ => false)
  | .cmprD el t m c vs, e => (match e with
    | .ListComp elt gens scope _ => (match gens with
      | [⟨tg, iter, ifs, as_⟩] => decide (as_ = 0) && blkB cp.N cp.sc scope (ownOf cp.N vs) && (match t with
          | .nm i => decide (i ∈ vs)
          | .tp is => is.all fun i => decide (i ∈ vs)) && gB (cp.sub scope) t tg && plE iter && itemsB cp tg iter (fun v => chkE cp m v) && chkIf (cp.sub scope) c ifs && chkE (cp.sub scope) el elt && !cp.hot
      | _ => false)
    | _ => false)
  | .calld f es ds, e => (match e with
    | .Call (.Name x _) (v :: vs) [] _ => fndB cp f ds x && pls (v :: vs) && chkEs cp es (v :: vs)
    | _ => false)
  | .frz m, e => frzB e && chkE cp m e
def chkEs (cp : CP) : Es → List Expr → Bool
  | .nil, [] => true
  | .cons m ms, e :: es => plE e && chkE cp m e && chkEs cp ms es
  | .nil, _ :: _ => false
  | .cons _ _, [] => false
def chkPs (cp : CP) : Es → List (Option Expr) → List Expr → Bool
  | .nil, [], [] => true
  | .cons k (.cons v r), some ke :: ks, ve :: vs => chkE cp k ke && chkE cp v ve && chkPs cp r ks vs
  | .nil, _ :: _, _ => false
  | .nil, [], _ :: _ => false
  | .cons _ .nil, _, _ => false
  | .cons _ (.cons _ _), [], _ => false
  | .cons _ (.cons _ _), none :: _, _ => false
  | .cons _ (.cons _ _), some _ :: _, [] => false
def chkO (cp : CP) : O → Option Expr → Bool
  | .no, none => true
  | .some m, some e => chkE cp m e
  | .no, some _ => false
  | .some _, none => false
def chkIf (cp : CP) : O → List Expr → Bool
  | .no, [] => true
  | .some m, [e] => chkE cp m e
  | .no, _ :: _ => false
  | .some _, [] => false
  | .some _, _ :: _ :: _ => false
def chkIt (cp : CP) : It → Expr → Expr → Bool
  | .pl m, _, e => chkE cp m e
  | .r1 a, _, e => (match e with
    | .Call (.Name x _) [v] [] _ => sq x "range" && bltB cp x && plE v && chkE cp a v
    | _ => false)
  | .r2 a b, _, e => (match e with
    | .Call (.Name x _) [v, w] [] _ => sq x "range" && bltB cp x && plE v && plE w && chkE cp a v && chkE cp b w
    | _ => false)
  | .en a, tg, e => (match e with
    | .Call (.Name x _) [v] [] _ => tupB tg && sq x "enumerate" && bltB cp x && plE v && chkE cp a v
    | _ => false)
  | .rv a, _, e => (match e with
    | .Call (.Name x _) [.Call (.Name y _) [v] [] _] [] _ => sq x "reversed" && bltB cp x && sq y "range" && bltB cp y && plE v && chkE cp a v
    | _ => false)
  | .r3 a b c, _, e => (match e with
    | .Call (.Name x _) [v, w, u] [] _ => sq x "range" && bltB cp x && plE v && plE w && plE u && chkE cp a v && chkE cp b w && chkE cp c u
    | _ => false)
  | .zp a b, tg, e => (match e with
    | .Call (.Name x _) [v, w] [] _ => tupB tg && sq x "zip" && bltB cp x && plE v && plE w && chkE cp a v && chkE cp b w
    | _ => false)
  | .items _, _, _ => false
end
section
variable {Γ : Gam} {T : Tb}
/-- a written expression does what the own one says, as a value and as a test -/
def OkE (X : Ctx) (W : WX) (Γ : Gam) (T : Tb) (m : E) (e : Expr) : Prop := PE X e (tE Γ T X.K W m) ∧ PT X e (tT Γ T X.K W m)
theorem OkE.pl {X : Ctx} {W : WX} {m : E} {e : Expr} (L : Le Γ Γ) (h : PE X e (tE Γ T X.K W m)) (he : ∀ whole, isTrue e X.env whole = (do let v ← whole; standAt e.pos; holding [v] (truthy v))) : OkE X W Γ T m e := ⟨h, s_plain L h he⟩
/-- what holds of an argument list, of the operands of and, or -/
structure OkEs (X : Ctx) (W : WX) (Γ : Gam) (T : Tb) (ms : Es) (es : List Expr) : Prop where
  pa : PA X es (tA Γ T X.K W ms)
  an : es ≠ [] → ∀ pos, PE X (.BoolOp .And es pos) (tL Γ T X.K W true ms) ∧ PW X (.BoolOp .And es pos) (tLT Γ T X.K W true ms)
  or : es ≠ [] → ∀ pos, PE X (.BoolOp .Or es pos) (tL Γ T X.K W false ms) ∧ PW X (.BoolOp .Or es pos) (tLT Γ T X.K W false ms)
theorem okEs_nil {X : Ctx} {W : WX} : OkEs X W Γ T .nil [] := ⟨s_nil, fun h => (h rfl).elim, fun h => (h rfl).elim⟩
theorem okEs_cons {X : Ctx} {W : WX} (L : Le Γ Γ) {m : E} {ms : Es} {e : Expr} {es : List Expr} (hl : es = [] ↔ ms = .nil) (hp : plE e = true) (h : OkE X W Γ T m e) (r : OkEs X W Γ T ms es) : OkEs X W Γ T (.cons m ms) (e :: es) := by
  refine ⟨s_cons L h.1 r.pa (pl_star hp _ _), fun _ pos => ?_, fun _ pos => ?_⟩
  · cases es with
    | nil =>
      rw [hl.mp rfl]
      exact ⟨s_lg1 L h.1, s_lgT1 (o := true) L h.2⟩
    | cons f fs =>
      cases ms with
      | nil => exact nomatch (hl.mpr rfl)
      | cons m' ms' =>
        obtain ⟨q1, q2⟩ := r.an (List.cons_ne_nil _ _) pos
        exact ⟨s_lgA L h.1 q1, s_lgTA L h.2 q2⟩
  · cases es with
    | nil =>
      rw [hl.mp rfl]
      exact ⟨s_lg1 L h.1, s_lgT1 (o := false) L h.2⟩
    | cons f fs =>
      cases ms with
      | nil => exact nomatch (hl.mpr rfl)
      | cons m' ms' =>
        obtain ⟨q1, q2⟩ := r.or (List.cons_ne_nil _ _) pos
        exact ⟨s_lgO L h.1 q1, s_lgTO L h.2 q2⟩
theorem chkEs_len {cp : CP} : ∀ {ms : Es} {es : List Expr}, chkEs cp ms es = true → (es = [] ↔ ms = .nil)
  | .nil, [], _ => ⟨fun _ => rfl, fun _ => rfl⟩
  | .nil, _ :: _, h => by rw [chkEs] at h <;> first | cases h | (intros; contradiction)
  | .cons _ _, [], h => by rw [chkEs] at h <;> first | cases h | (intros; contradiction)
  | .cons _ _, _ :: _, _ => by constructor <;> (intro h; cases h)
end
section
variable {X : Ctx} {Γ : Gam} {T : Tb} {W : WX} {cp : CP}
theorem noneB_ok {e : Expr} (h : noneB e = true) : ∃ j p, e = .Constant .none j p := by
  unfold noneB at h
  split at h
  · exact ⟨_, _, rfl⟩
  · cases h
theorem tupB_ok {e : Expr} (h : tupB e = true) : ∃ l k p, e = .Tuple l k p := by
  unfold tupB at h
  split at h
  · exact ⟨_, _, _, rfl⟩
  · cases h
theorem fnB_ok (F : Fit X W Γ T cp) {f : String} {x : Str} (h : fnB cp f x = true) : Gl X x ∧ (x == ("__debug__" : Str)) = false ∧ X.mg x = some (.ref (T.fn f)) ∧ FOk X Γ T f ∧ okF cp f = true := by
  unfold fnB at h
  rw [Bool.and_eq_true] at h
  obtain ⟨h1, h2⟩ := h
  split at h2
  · rename_i l e
    rw [Bool.and_eq_true] at h2
    obtain ⟨h2, h4⟩ := h2
    obtain rfl := of_decide_eq_true h2
    have := F.gl _ _ e
    exact ⟨(glB_ok F h1).1, (glB_ok F h1).2, this.1, this.2, h4⟩
  · rename_i l v e
    rw [Bool.and_eq_true] at h2
    obtain ⟨h2, h4⟩ := h2
    obtain rfl := of_decide_eq_true h2
    have := F.gl _ _ e
    exact ⟨(glB_ok F h1).1, (glB_ok F h1).2, this.1, this.2.1, h4⟩
  · cases h2
theorem fndB_ok (F : Fit X W Γ T cp) {f : String} {ds : List Val} {x : Str} (h : fndB cp f ds x = true) : ∃ v, ds = [.int v] ∧ Gl X x ∧ (x == ("__debug__" : Str)) = false ∧ X.mg x = some (.ref (T.fn f)) ∧ FOkD X Γ T f v ∧ PySem.W.keepIn X.K (.ref (T.fn f)) = true ∧ cp.nx = false := by
  unfold fndB at h
  rw [Bool.and_eq_true] at h
  obtain ⟨h1, h2⟩ := h
  split at h2
  · rename_i l v e
    rw [Bool.and_eq_true] at h2
    obtain ⟨h2, h3⟩ := h2
    rw [Bool.and_eq_true] at h2
    obtain ⟨h2, h4⟩ := h2
    obtain rfl := of_decide_eq_true h2
    have := F.gl _ _ e
    split at h3
    · rename_i u
      obtain rfl := of_decide_eq_true h3
      exact ⟨_, rfl, (glB_ok F h1).1, (glB_ok F h1).2, this.1, this.2.2, this.2.1.2, by simpa using h4⟩
    · cases h3
  · cases h2
theorem s_calld (L : Le Γ Γ) {f : String} {v : Int} {u : Value} {x : Str} {p pos : Pos} {e : Expr} {es : List Expr} {ms : Es} (C : CallD X W Γ T u f v) (hk : PySem.W.keepIn X.K u = true) (hg : Gl X x) (hm : X.mg x = some u) (ha : PA X (e :: es) (tA Γ T X.K W ms)) (hdb : (x == ("__debug__" : Str)) = false)
    (he : starEach (e :: es) X.env = (false, eval e X.env) :: starEach es X.env) (hpl : (backTo pos (starEach es X.env)).any (·.1) = false) : PE X (.Call (.Name x p) (e :: es) [] pos) (tE Γ T X.K W (.calld f ms [.int v])) := by
  refine ⟨fun pins s σ H Q I ⟨σv, h, rs, rh, w⟩ => ?_⟩
  simp only [wpE] at w
  refine wpAny_Call_Name_kw (ld_glob I hg hm ?_ hdb)
  refine PySem.W.callWith_K (h₀ := X.base) I.ok.mod.kin hk (thn (ha.run pos pins s σ H (fun xs H1 => HLe H H1 ∧ ∃ vals h1, RVs T X.K H1 vals xs ∧ RH T X.K h1 H1 ∧ Γ.call f (vals ++ [.int v]) h1 (dn T X.K H Q) (dx T X.K H fun c d H' => W c d σ H')) I ?_) fun us s1 ⟨vs, H1, I1, r, l, vals, h1, rxs, rh1, w1⟩ => ⟨I1.kIn, ?_⟩) he hpl
  · exact tA.of L .refl rs rh w fun vs h1 w1 xs H1 l1 rh1 rxs => ⟨l1, vs, h1, rxs, rh1, w1⟩
  · exact C pins s1 σ H1 vs us vals h1 Q I1 r rxs rh1 (L.call _ _ _ _ _ _ _ (fun _ _ z => dn.sh l z) (fun _ _ z => dx.sh l z) w1)
theorem calld_ok (F : Fit X W Γ T cp) {f : String} {ds : List Val} {x : Str} {p pos : Pos} {ms : Es} {e : Expr} {es : List Expr} (h : fndB cp f ds x = true) (hp : pls (e :: es) = true) (ha : PA X (e :: es) (tA Γ T X.K W ms)) : PE X (.Call (.Name x p) (e :: es) [] pos) (tE Γ T X.K W (.calld f ms ds)) := by
  obtain ⟨v, rfl, h1, h2, h3, h4, hk, hN⟩ := fndB_ok F h
  unfold pls at hp
  rw [List.all_cons, Bool.and_eq_true] at hp
  exact s_calld F.L (h4.callD (F.tk hN)) hk h1 h3 ha h2 (pl_star hp.1 _ _) (pls_any hp.2 _ _)
theorem conB_ok (F : Fit X W Γ T cp) {y : String} {x : Str} {pos : Pos} (h : conB cp y x = true) : PE X (.Name x pos) (tE Γ T X.K W (.glb y)) := by
  unfold conB at h
  rw [Bool.and_eq_true] at h
  obtain ⟨h1, h2⟩ := h
  split at h2
  · rename_i l e
    obtain rfl := of_decide_eq_true h2
    obtain ⟨v, u, val, a, b, c, d⟩ := F.gl _ _ e
    exact s_glb (glB_ok F h1).1 a b c d (glB_ok F h1).2
  · cases h2
  · cases h2
theorem call_ok (F : Fit X W Γ T cp) {f : String} {x : Str} {p pos : Pos} {ms : Es} {es : List Expr} (h : fnB cp f x = true) (hp : pls es = true) (hl : es = [] ↔ ms = .nil) (ha : PA X es (tA Γ T X.K W ms)) : PE X (.Call (.Name x p) es [] pos) (tE Γ T X.K W (.call f ms)) := by
  obtain ⟨h1, h2, h3, h4, h5⟩ := fnB_ok F h
  have hk : PySem.W.keepIn X.K (.ref (T.fn f)) = true := h4.2
  cases es with
  | nil =>
    rw [hl.mp rfl]
    exact s_call0 F.L (F.callV h4 h5) hk h1 h3 h2
  | cons e es =>
    unfold pls at hp
    rw [List.all_cons, Bool.and_eq_true] at hp
    exact s_call F.L (F.callV h4 h5) hk h1 h3 ha h2 (pl_star hp.1 _ _) (pls_any hp.2 _ _)
theorem bif_ok (F : Fit X W Γ T cp) {f : Bif} {x : Str} {p pos : Pos} {ms : Es} {e : Expr} {es : List Expr} (h : bifB cp f x = true) (hp : pls (e :: es) = true) (ha : PA X (e :: es) (tA Γ T X.K W ms)) : PE X (.Call (.Name x p) (e :: es) [] pos) (tE Γ T X.K W (.bif f ms)) := by
  unfold bifB at h
  simp only [Bool.and_eq_true] at h
  obtain ⟨hh, ⟨h1, h2⟩, h3⟩ := h
  have hcalm := F.calm (hotF hh)
  obtain ⟨g1, g2, g3⟩ := bltB_ok F h3
  unfold pls at hp
  rw [List.all_cons, Bool.and_eq_true] at hp
  obtain rfl := sq_ok h2
  have s1 := pl_star hp.1 es X.env
  have s2 := pls_any hp.2 pos X.env
  cases f with
  | len => exact s_bifB F.L c_len g1 g2 (by decide +kernel) ha (by decide +kernel) g3 s1 s2
  | min => exact s_bifB F.L (c_min hcalm) g1 g2 (by decide +kernel) ha (by decide +kernel) g3 s1 s2
  | max => exact s_bifB F.L (c_max hcalm) g1 g2 (by decide +kernel) ha (by decide +kernel) g3 s1 s2
  | abs => exact s_bifB F.L c_abs g1 g2 (by decide +kernel) ha (by decide +kernel) g3 s1 s2
  | all => exact s_bifB F.L (c_all hcalm) g1 g2 (by decide +kernel) ha (by decide +kernel) g3 s1 s2
  | any => exact s_bifB F.L (c_any hcalm) g1 g2 (by decide +kernel) ha (by decide +kernel) g3 s1 s2
  | sum => exact s_bifB F.L (c_sum hcalm) g1 g2 (by decide +kernel) ha (by decide +kernel) g3 s1 s2
  | str => exact s_bifT F.L c_str g1 g2 (by decide +kernel) ha (by decide +kernel) g3 s1 s2
  | int => exact s_bifT F.L c_int g1 g2 (by decide +kernel) ha (by decide +kernel) g3 s1 s2
  | list => exact s_bifT F.L c_list g1 g2 (by decide +kernel) ha (by decide +kernel) g3 s1 s2
  | tuple => exact s_bifT F.L c_tuple g1 g2 (by decide +kernel) ha (by decide +kernel) g3 s1 s2
  | sorted => exact s_bifB F.L (c_sorted hcalm) g1 g2 (by decide +kernel) ha (by decide +kernel) g3 s1 s2
  | _ => cases h1
theorem cls_ok (F : Fit X W Γ T cp) {c : String} {e : Expr} (h : clsB cp c e = true) : PE X e (tC (cV T c)) := by
  unfold clsB at h
  split at h
  · rename_i x p
    by_cases hb : bltTy c = true
    · rw [if_pos hb] at h
      simp only [Bool.and_eq_true, Bool.or_eq_true, beq_iff_eq] at h
      obtain ⟨⟨h1, h2⟩, h3⟩ := h
      obtain ⟨g1, g2, g3⟩ := bltB_ok F h2
      obtain rfl := sq_ok h1
      unfold cV
      rw [if_pos hb]
      rcases h3 with (((((rfl | rfl) | rfl) | rfl) | rfl) | rfl) | rfl <;> exact pe_bltn g1 g2 (by decide +kernel) rfl (by decide +kernel) g3
    · rw [if_neg hb, Bool.and_eq_true] at h
      obtain ⟨h1, h2⟩ := h
      split at h2
      · rename_i d e1
        obtain rfl := of_decide_eq_true h2
        obtain ⟨g1, g2⟩ := F.gl _ _ e1
        unfold cV
        rw [if_neg hb]
        exact pe_glob (glB_ok F h1).1 g1 rfl (glB_ok F h1).2
      · cases h2
  · cases h
theorem bmt_ok (F : Fit X W Γ T cp) (hh : cp.hot = false) {m : Bmt} (hN : okB cp m = true) {ty : String} {name : Str} {o : Expr} {mo : E} {ms : Es} {es : List Expr} {apos pos : Pos} (h : (if es.isEmpty then bmtB0 m ty name else bmtB m ty name) = true) (ab : abB o = true) (hline : decide (apos.endLine = pos.line) = true) (hp : pls es = true) (hn : decide (es.length < 20) = true)
    (hl : es = [] ↔ ms = .nil) (ho : PE X o (tE Γ T X.K W mo)) (ha : PA X es (tA Γ T X.K W ms)) : PE X (.Call (.Attribute o name apos) es [] pos) (tE Γ T X.K W (.bmt m ty mo ms)) := by
  have hline : (apos.endLine == pos.line) = true := by rw [of_decide_eq_true hline, beq_self_eq_true]
  have hbase := abB_ok ab name X.env (eval o X.env)
  have hn := of_decide_eq_true hn
  cases es with
  | nil =>
    rw [hl.mp rfl]
    have h : bmtB0 m ty name = true := h
    cases m with
    | pop =>
      simp only [bmtB0, Bool.and_eq_true, decide_eq_true_eq] at h
      obtain ⟨rfl, h⟩ := h
      obtain rfl := sq_ok h
      exact s_bmt0 F.L PySem.F.plainAttrs_list PySem.F.slot_list_pop PySem.F.type_list_pop mt_pop m_pop ho hbase hline
    | clear =>
      simp only [bmtB0, Bool.and_eq_true, decide_eq_true_eq] at h
      obtain ⟨rfl, h⟩ := h
      obtain rfl := sq_ok h
      exact s_bmt0 F.L PySem.F.plainAttrs_list PySem.F.slot_list_clear PySem.F.type_list_clear mt_clear m_clear ho hbase hline
    | bitlen =>
      simp only [bmtB0, Bool.and_eq_true, decide_eq_true_eq] at h
      obtain ⟨rfl, h⟩ := h
      obtain rfl := sq_ok h
      exact s_bitlen F.L ho hbase hline
    | _ => cases h
  | cons e es =>
    have h : bmtB m ty name = true := h
    have hp' := hp
    unfold pls at hp'
    rw [List.all_cons, Bool.and_eq_true] at hp'
    have s1 := pl_star hp'.1 es X.env
    have s2 := pls_any hp'.2 pos X.env
    have hfew : ((backTo pos (starEach (e :: es) X.env)).all (fun x => !x.1) && (backToKw pos (keywordEach [] X.env)).all (fun x => x.1.isSome) && decide ((e :: es).length + ([] : List Keyword).length + (if ([] : List Keyword).isEmpty then 0 else 1) < 30)) = true := by
      rw [pls_all hp pos X.env]
      have : (e :: es).length + ([] : List Keyword).length + (if ([] : List Keyword).isEmpty = true then 0 else 1) < 30 := by
        simp at hn ⊢
        omega
      rw [decide_eq_true this]
      rfl
    cases m with
    | append =>
      simp only [bmtB, Bool.and_eq_true, decide_eq_true_eq] at h
      obtain ⟨rfl, h⟩ := h
      obtain rfl := sq_ok h
      exact s_bmt F.L PySem.F.plainAttrs_list PySem.F.slot_list_append PySem.F.type_list_append mt_append m_append ho ha hbase hfew hline s1 s2
    | extend =>
      simp only [bmtB, Bool.and_eq_true, decide_eq_true_eq] at h
      obtain ⟨rfl, h⟩ := h
      obtain rfl := sq_ok h
      exact s_bmt F.L PySem.F.plainAttrs_list PySem.F.slot_list_extend PySem.F.type_list_extend mt_extendL m_extend ho ha hbase hfew hline s1 s2
    | split =>
      simp only [bmtB, Bool.and_eq_true, decide_eq_true_eq] at h
      obtain ⟨rfl, h⟩ := h
      obtain rfl := sq_ok h
      exact s_bmt F.L PySem.F.plainAttrs_str PySem.F.slot_str_split PySem.F.type_str_split mt_split m_split ho ha hbase hfew hline s1 s2
    | join =>
      simp only [bmtB, Bool.and_eq_true, decide_eq_true_eq] at h
      obtain ⟨rfl, h⟩ := h
      obtain rfl := sq_ok h
      exact s_bmt F.L PySem.F.plainAttrs_str PySem.F.slot_str_join PySem.F.type_str_join mt_join m_join ho ha hbase hfew hline s1 s2
    | find =>
      simp only [bmtB, Bool.and_eq_true, decide_eq_true_eq] at h
      obtain ⟨rfl, h⟩ := h
      obtain rfl := sq_ok h
      exact s_bmt F.L PySem.F.plainAttrs_str PySem.F.slot_str_find PySem.F.type_str_find mt_find m_find ho ha hbase hfew hline s1 s2
    | count =>
      simp only [bmtB, Bool.and_eq_true, decide_eq_true_eq] at h
      obtain ⟨rfl, h⟩ := h
      obtain rfl := sq_ok h
      exact s_bmt F.L PySem.F.plainAttrs_str PySem.F.slot_str_count PySem.F.type_str_count mt_count m_count ho ha hbase hfew hline s1 s2
    | startswith =>
      simp only [bmtB, Bool.and_eq_true, decide_eq_true_eq] at h
      obtain ⟨rfl, h⟩ := h
      obtain rfl := sq_ok h
      exact s_bmt F.L PySem.F.plainAttrs_str PySem.F.slot_str_startswith PySem.F.type_str_startswith mt_startswith m_startswith ho ha hbase hfew hline s1 s2
    | index =>
      simp only [bmtB, Bool.and_eq_true, decide_eq_true_eq] at h
      obtain ⟨rfl, h⟩ := h
      obtain rfl := sq_ok h
      exact s_bmtS F.L PySem.F.plainAttrs_str PySem.F.slot_str_index PySem.F.type_str_index (mt_indexX (F.calm hh) (F.tk (by rcases nx_or hN with q | q; exact q; cases q))) m_index ho ha hbase hfew hline s1 s2
    | get =>
      simp only [bmtB, Bool.and_eq_true, decide_eq_true_eq] at h
      obtain ⟨rfl, h⟩ := h
      obtain rfl := sq_ok h
      exact s_bmt F.L PySem.F.plainAttrs_dict PySem.F.slot_dict_get PySem.F.type_dict_get (mt_dget (by have := F.hu; omega)) m_dget ho ha hbase hfew hline s1 s2
    | setdefault =>
      simp only [bmtB, Bool.and_eq_true, decide_eq_true_eq] at h
      obtain ⟨rfl, h⟩ := h
      obtain rfl := sq_ok h
      exact s_bmt F.L PySem.F.plainAttrs_dict PySem.F.slot_dict_setdefault PySem.F.type_dict_setdefault mt_dsetd m_dsetd ho ha hbase hfew hline s1 s2
    | _ => cases h
theorem mth_ok (F : Fit X W Γ T cp) (hh : cp.hot = false) {m : String} (hN : okM cp m = true) {o : Expr} {mo : E} {ms : Es} {es : List Expr} {apos pos : Pos} (ab : abB o = true) (hline : decide (apos.endLine = pos.line) = true) (hp : pls es = true) (hn : decide (es.length < 20) = true)
    (hl : es = [] ↔ ms = .nil) (ho : PE X o (tE Γ T X.K W mo)) (ha : PA X es (tA Γ T X.K W ms)) : PE X (.Call (.Attribute o (Str.ofString m) apos) es [] pos) (tE Γ T X.K W (.mth mo m ms)) := by
  have hline : (apos.endLine == pos.line) = true := by rw [of_decide_eq_true hline, beq_self_eq_true]
  have hbase := abB_ok ab (Str.ofString m) X.env (eval o X.env)
  have hn := of_decide_eq_true hn
  have hM : ∀ c l, Γ.mth c m = some l → Meth X.K (T.cls c) (Str.ofString m) (T.fn l) ∧ CallV X W Γ T (.ref (T.fn l)) l := fun c l q => ⟨(F.mth hh c m l q).1, F.callM q (F.mth hh c m l q).2 hN⟩
  cases es with
  | nil =>
    rw [hl.mp rfl]
    exact s_mth0 F.L hM ho (mcall_eq hbase rfl hline)
  | cons e es =>
    have hp' := hp
    unfold pls at hp'
    rw [List.all_cons, Bool.and_eq_true] at hp'
    have s1 := pl_star hp'.1 es X.env
    have s2 := pls_any hp'.2 pos X.env
    refine s_mth F.L hM ho ha s1 s2 (mcall_eq hbase ?_ hline)
    unfold methodCallForm
    rw [pls_all hp pos X.env]
    have : (e :: es).length + ([] : List Keyword).length + (if (backToKw pos (keywordEach [] X.env)).isEmpty = true then 0 else 1) < 30 := by
      have e0 : (backToKw pos (keywordEach [] X.env)) = [] := rfl
      rw [e0]
      simp at hn ⊢
      omega
    have e1 : (backToKw pos (keywordEach [] X.env)).all (fun x => x.1.isSome) = true := rfl
    rw [e1, decide_eq_true this]
    rfl
end
end MP
end
section
set_option maxHeartbeats 4000000
/-! MpQ: the checker of expressions is right. -/
namespace MP
open PySem PySem.Spec PyProof.Rows L2
variable {Γ : Gam} {T : Tb}
theorem ptE_lg {X : Ctx} {W : WX} {o : Bool} {ms : Es} {e : Expr} (h1 : PE X e (tL Γ T X.K W o ms)) (h2 : PW X e (tLT Γ T X.K W o ms)) : OkE X W Γ T (.lg o ms) e :=
  ⟨h1.imp fun σ H Q ⟨σv, h, rs, rh, w⟩ => ⟨σv, h, rs, rh, by simpa only [wpE] using w⟩, (h2.pt).imp fun σ H Q ⟨σv, h, rs, rh, w⟩ => ⟨σv, h, rs, rh, by simpa only [wpE] using w⟩⟩
theorem ba {a b : Bool} (h : (a && b) = true) : a = true ∧ b = true := Bool.and_eq_true_iff.mp h
theorem xfld_ok {X : Ctx} {W : WX} {cp : CP} (F : Fit X W Γ T cp) {i : Nat} (hi : cp.cur = some i) {x : Str} {f : String} {p pos : Pos} (hv : ∀ p, PE X (.Name x p) (tE Γ T X.K W (.var i))) : PE X (.Attribute (.Name x p) (Str.ofString f) pos) (tE Γ T X.K W (.xfld f)) := by
  cases q : Γ.cur with
  | none =>
    exact ⟨fun pins s σ H Q I ⟨σv, h, rs, rh, z⟩ => by
      simp only [wpE] at z
      obtain ⟨i', a', e', z1, _⟩ := z
      rw [q] at z1
      cases z1⟩
  | some c =>
    obtain ⟨j, a, e⟩ := c
    obtain ⟨c1, X0, oe, pn, rfl, hz, hf⟩ := F.cur _ _ _ q
    rw [hi] at c1
    cases c1
    exact s_xfld F.L q (fun ns hn hm => F.xff _ ns hn f hm) hz hf (hv p) rfl
theorem xisi_ok {X : Ctx} {W : WX} {cp : CP} (F : Fit X W Γ T cp) {i : Nat} (hi : cp.cur = some i) {x : Str} {c : String} {w : Expr} {p p' pos : Pos} (hg : Gl X "isinstance") (hm : X.mg "isinstance" = none) (hv : ∀ p, PE X (.Name x p) (tE Γ T X.K W (.var i))) (hc : PE X w (tC (cV T c)))
    (hs : starEach [.Name x p', w] X.env = (false, eval (.Name x p') X.env) :: starEach [w] X.env) (hs2 : starEach [w] X.env = (false, eval w X.env) :: starEach [] X.env) (hpl : (backTo pos (starEach [w] X.env)).any (·.1) = false) :
    PE X (.Call (.Name "isinstance" p) [.Name x p', w] [] pos) (tE Γ T X.K W (.xisi [c])) := by
  cases q : Γ.cur with
  | none =>
    exact ⟨fun pins s σ H Q I ⟨σv, h, rs, rh, z⟩ => by
      simp only [wpE] at z
      obtain ⟨i', a', e', z1, _⟩ := z
      rw [q] at z1
      cases z1⟩
  | some cc =>
    obtain ⟨j, a, e⟩ := cc
    obtain ⟨c1, X0, oe, pn, rfl, hz, hf⟩ := F.cur _ _ _ q
    rw [hi] at c1
    cases c1
    exact s_xisi F.L q (fun b hb => ⟨(F.sub _ _ _ hb).2.2, (F.sub _ _ _ hb).2.1⟩) hz hf hg hm (hv p') hc hs hs2 hpl
theorem xisiT_ok {X : Ctx} {W : WX} {cp : CP} (F : Fit X W Γ T cp) {i : Nat} (hi : cp.cur = some i) {x : Str} {c1 c2 : String} {cs : List String} {w : Expr} {p p' pos : Pos} (hg : Gl X "isinstance") (hm : X.mg "isinstance" = none) (hv : ∀ p, PE X (.Name x p) (tE Γ T X.K W (.var i))) (hl : (c1 :: c2 :: cs).length < 20) (hc : PE X w (tTup (tCs ((c1 :: c2 :: cs).map (cV T)))))
    (hs : starEach [.Name x p', w] X.env = (false, eval (.Name x p') X.env) :: starEach [w] X.env) (hs2 : starEach [w] X.env = (false, eval w X.env) :: starEach [] X.env) (hpl : (backTo pos (starEach [w] X.env)).any (·.1) = false) :
    PE X (.Call (.Name "isinstance" p) [.Name x p', w] [] pos) (tE Γ T X.K W (.xisi (c1 :: c2 :: cs))) := by
  cases q : Γ.cur with
  | none =>
    exact ⟨fun pins s σ H Q I ⟨σv, h, rs, rh, z⟩ => by
      simp only [wpE] at z
      obtain ⟨i', a', e', z1, _⟩ := z
      rw [q] at z1
      cases z1⟩
  | some cc =>
    obtain ⟨j, a, e⟩ := cc
    obtain ⟨c1, X0, oe, pn, rfl, hz, hf⟩ := F.cur _ _ _ q
    rw [hi] at c1
    cases c1
    exact s_xisiT F.L q (fun c b hb => ⟨(F.sub _ _ _ hb).2.2, (F.sub _ _ _ hb).2.1⟩) hz hf hg hm (hv p') hl hc hs hs2 hpl
theorem clss_ok {X : Ctx} {W : WX} {cp : CP} (F : Fit X W Γ T cp) : ∀ {cs : List String} {ws : List Expr}, clssB cp cs ws = true → PA X ws (tCs (cs.map (cV T)))
  | [], [], _ => pa_nil
  | c :: cs, e :: es, h => by
    unfold clssB at h
    obtain ⟨h, h3⟩ := ba h
    obtain ⟨h1, h2⟩ := ba h
    exact pa_cons (cls_ok F h2) (clss_ok F h3) (pl_star h1 _ _)
  | [], _ :: _, h => by simp [clssB] at h
  | _ :: _, [], h => by simp [clssB] at h
theorem itemsB_ok {X : Ctx} {Γ : Gam} {T : Tb} {W : WX} {m : E} {cp : CP} {tg iter : Expr} {k : Expr → Bool} (L : Le Γ Γ) (h : itemsB cp tg iter k = true) (hk : ∀ v, k v = true → PE X v (tE Γ T X.K W m)) : PI X tg iter (tID X Γ T W m) := by
  unfold itemsB at h
  obtain ⟨h1, h2⟩ := ba h
  split at h1
  · split at h2
    · obtain ⟨h2, k4⟩ := ba h2
      obtain ⟨h2, k3⟩ := ba h2
      obtain ⟨k1, k2⟩ := ba h2
      obtain rfl := sq_ok k1
      exact s_itemsI L (hk _ k4) (abB_ok k2 _ _ _) (by rw [of_decide_eq_true k3]; exact beq_self_eq_true _)
    · cases h2
  · cases h1
theorem kname_ok {X : Ctx} {Γ : Gam} {T : Tb} {W : WX} {cp : CP} {x : Str} {p : Pos} {f : Addr} (F : Fit X W Γ T cp) (h : glB cp x = true) (hm : X.mg x = some (.ref f)) : PE X (.Name x p) (tC (.ref f)) := pe_glob (glB_ok F h).1 hm rfl (glB_ok F h).2
mutual
theorem chkE_ok : ∀ (m : E) {cp : CP} {X : Ctx} {W : WX} (F : Fit X W Γ T cp) (e : Expr), chkE cp m e = true → OkE X W Γ T m e
  | .non, cp, X, W, F, e, h => by
    unfold chkE at h
    obtain ⟨j, p, rfl⟩ := noneB_ok h
    exact .pl F.L s_non fun _ => rfl
  | .bl b, cp, X, W, F, e, h => by
    unfold chkE at h
    split at h
    · obtain rfl := beq_iff_eq.mp h
      exact .pl F.L s_bl fun _ => rfl
    · cases h
  | .int i, cp, X, W, F, e, h => by
    unfold chkE at h
    split at h
    · obtain rfl := of_decide_eq_true h
      exact .pl F.L s_int fun _ => rfl
    · cases h
  | .str x, cp, X, W, F, e, h => by
    unfold chkE at h
    split at h
    · obtain ⟨h1, h2⟩ := ba h
      exact .pl F.L (s_str (of_decide_eq_true h1) (of_decide_eq_true h2)) fun _ => rfl
    · cases h
  | .var i, cp, X, W, F, e, h => by
    unfold chkE at h
    split at h
    · exact .pl F.L (varB_ok F h) fun _ => rfl
    · cases h
  | .glb y, cp, X, W, F, e, h => by
    unfold chkE at h
    split at h
    · exact .pl F.L (conB_ok F h) fun _ => rfl
    · cases h
  | .bop o a b, cp, X, W, F, e, h => by
    unfold chkE at h
    split at h
    · obtain ⟨h, h3⟩ := ba h
      obtain ⟨h1, h2⟩ := ba h
      obtain rfl := opB_ok h1
      exact .pl F.L (s_bop F.L (chkE_ok a F _ h2).1 (chkE_ok b F _ h3).1) fun _ => rfl
    · cases h
  | .neg a, cp, X, W, F, e, h => by
    unfold chkE at h
    split at h
    · exact .pl F.L (s_neg F.L (chkE_ok a F _ h).1) fun _ => rfl
    · cases h
  | .inv a, cp, X, W, F, e, h => by
    unfold chkE at h
    split at h
    · exact .pl F.L (s_inv F.L (chkE_ok a F _ h).1) fun _ => rfl
    · cases h
  | .not a, cp, X, W, F, e, h => by
    unfold chkE at h
    split at h
    · have q := chkE_ok a F _ h
      exact s_not F.L q.1 q.2
    · cases h
  | .lg o es, cp, X, W, F, e, h => by
    unfold chkE at h
    split at h
    · obtain ⟨h1, h2⟩ := ba h
      subst h1
      obtain ⟨q1, q2⟩ := (chkEs_ok es F _ h2).an (List.cons_ne_nil _ _) _
      exact ptE_lg q1 q2
    · obtain ⟨h1, h2⟩ := ba h
      obtain rfl : o = false := by cases o <;> first | rfl | cases h1
      obtain ⟨q1, q2⟩ := (chkEs_ok es F _ h2).or (List.cons_ne_nil _ _) _
      exact ptE_lg q1 q2
    · cases h
  | .cmp o a b, cp, X, W, F, e, h => by
    unfold chkE at h
    split at h
    · obtain ⟨h, h4⟩ := ba h
      obtain ⟨h, h3⟩ := ba h
      obtain ⟨h1, h2⟩ := ba h
      obtain rfl := cmpB_ok h1
      exact s_cmp F.L F.hu (chkE_ok a F _ h3).1 (chkE_ok b F _ h4).1 (pl_marks h2)
    · cases h
  | .chn o p a b c, cp, X, W, F, e, h => by
    unfold chkE at h
    split at h
    · obtain ⟨h, h6⟩ := ba h
      obtain ⟨h, h5⟩ := ba h
      obtain ⟨h, h4⟩ := ba h
      obtain ⟨h, h3⟩ := ba h
      obtain ⟨h1, h2⟩ := ba h
      obtain rfl := cmpB_ok h1
      obtain rfl := cmpB_ok h2
      exact s_chn F.L F.hu (chkE_ok a F _ h4).1 (chkE_ok b F _ h5).1 (chkE_ok c F _ h6).1 (pl_marks h3)
    · cases h
  | .isn a, cp, X, W, F, e, h => by
    unfold chkE at h
    split at h
    · obtain ⟨h1, h2⟩ := ba h
      obtain ⟨j, p, rfl⟩ := noneB_ok h1
      exact s_isn F.L (chkE_ok a F _ h2).1
    · cases h
  | .ntn a, cp, X, W, F, e, h => by
    unfold chkE at h
    split at h
    · obtain ⟨h1, h2⟩ := ba h
      obtain ⟨j, p, rfl⟩ := noneB_ok h1
      exact s_ntn F.L (chkE_ok a F _ h2).1
    · cases h
  | .ife c a b, cp, X, W, F, e, h => by
    unfold chkE at h
    split at h
    · obtain ⟨h, h3⟩ := ba h
      obtain ⟨h1, h2⟩ := ba h
      have qa := chkE_ok a F _ h2
      have qb := chkE_ok b F _ h3
      exact s_ife F.L (chkE_ok c F _ h1).2 qa.1 qb.1 qa.2 qb.2
    · cases h
  | .call f es, cp, X, W, F, e, h => by
    unfold chkE at h
    split at h
    · obtain ⟨h, h3⟩ := ba h
      obtain ⟨h1, h2⟩ := ba h
      exact .pl F.L (call_ok F h1 h2 (chkEs_len h3) (chkEs_ok es F _ h3).pa) fun _ => rfl
    · cases h
  | .bif f es, cp, X, W, F, e, h => by
    unfold chkE at h
    split at h
    · obtain ⟨h, h3⟩ := ba h
      obtain ⟨h1, h2⟩ := ba h
      exact .pl F.L (bif_ok F h1 h2 (chkEs_ok es F _ h3).pa) fun _ => rfl
    · cases h
  | .isi a cs, cp, X, W, F, e, h => by
    unfold chkE at h
    split at h
    · split at h
      · obtain ⟨h, h6⟩ := ba h
        obtain ⟨h, h5⟩ := ba h
        obtain ⟨h, h4⟩ := ba h
        obtain ⟨h, h3⟩ := ba h
        obtain ⟨h1, h2⟩ := ba h
        obtain rfl := sq_ok h1
        obtain ⟨g1, g2, g3⟩ := bltB_ok F h2
        exact .pl F.L (s_isi1 F.L F.isi g1 g2 (chkE_ok a F _ h6).1 (cls_ok F h5) (pl_star h3 _ _) (pl_star h4 _ _) (pls_any (es := [_]) (by unfold pls; rw [List.all_cons, h4]; rfl) _ _)) fun _ => rfl
      · cases h
    · cases h
  | .lrng a, cp, X, W, F, e, h => by
    unfold chkE at h
    split at h
    · obtain ⟨h, hh⟩ := ba h
      obtain ⟨h, h6⟩ := ba h
      obtain ⟨h, h5⟩ := ba h
      obtain ⟨h, h4⟩ := ba h
      obtain ⟨h, h3⟩ := ba h
      obtain ⟨h1, h2⟩ := ba h
      obtain rfl := sq_ok h1
      obtain rfl := sq_ok h3
      obtain ⟨g1, g2, g3⟩ := bltB_ok F h2
      obtain ⟨k1, k2, k3⟩ := bltB_ok F h4
      exact .pl F.L (s_lrng F.L (F.calm (hotF hh)) g1 g2 k1 k2 (chkE_ok a F _ h6).1 (pl_star h5 _ _)) fun _ => rfl
    · cases h
  | .revl a, cp, X, W, F, e, h => by
    unfold chkE at h
    split at h
    · obtain ⟨h1, h2⟩ := ba h
      obtain rfl := of_decide_eq_true h1
      exact .pl F.L (s_revl F.L (chkE_ok a F _ h2).1) fun _ => rfl
    · cases h
  | .srtd a, cp, X, W, F, e, h => by
    unfold chkE at h
    split at h
    · rename_i v name apos cpos _
      obtain ⟨h, hh⟩ := ba h
      obtain ⟨h, h6⟩ := ba h
      obtain ⟨h, h5⟩ := ba h
      obtain ⟨h, h4⟩ := ba h
      obtain ⟨h, h3⟩ := ba h
      obtain ⟨h1, h2⟩ := ba h
      obtain rfl := sq_ok h1
      obtain rfl := sq_ok h3
      obtain ⟨g1, g2, g3⟩ := bltB_ok F h2
      exact .pl F.L (s_srtd F.L (F.calm (hotF hh)) g1 g2 (chkE_ok a F _ h6).1 (abB_ok h4 _ X.env (eval v X.env)) (by rw [of_decide_eq_true h5, beq_self_eq_true])) fun _ => rfl
    · cases h
  | .bmt m ty o es, cp, X, W, F, e, h => by
    unfold chkE at h
    split at h
    · obtain ⟨h, hh⟩ := ba h
      obtain ⟨h, h7⟩ := ba h
      obtain ⟨h, h6⟩ := ba h
      obtain ⟨h, h5⟩ := ba h
      obtain ⟨h, h4⟩ := ba h
      obtain ⟨h, h3⟩ := ba h
      obtain ⟨h1, h2⟩ := ba h
      obtain ⟨hh, hN⟩ := ba hh
      exact .pl F.L (bmt_ok F (hotF hh) hN h1 h2 h3 h4 h5 (chkEs_len h7) (chkE_ok o F _ h6).1 (chkEs_ok es F _ h7).pa) fun _ => rfl
    · cases h
  | .idx a i, cp, X, W, F, e, h => by
    unfold chkE at h
    split at h
    · obtain ⟨h, h3⟩ := ba h
      obtain ⟨h1, h2⟩ := ba h
      exact .pl F.L (s_idx F.L (by have := F.hu; omega) (chkE_ok a F _ h2).1 (chkE_ok i F _ h3).1 (pl_ix h1)) fun _ => rfl
    · cases h
  | .slc a lo hi, cp, X, W, F, e, h => by
    unfold chkE at h
    split at h
    · obtain ⟨h, h3⟩ := ba h
      obtain ⟨h1, h2⟩ := ba h
      exact .pl F.L (s_slc F.L (chkE_ok a F _ h1).1 (chkO_ok lo F _ h2) (chkO_ok hi F _ h3)) fun _ => rfl
    · cases h
  | .lst es, cp, X, W, F, e, h => by
    unfold chkE at h
    split at h
    · obtain ⟨h1, h2⟩ := ba h
      exact .pl F.L (s_lst F.L (chkEs_ok es F _ h2).pa) fun _ => rfl
    · cases h
  | .tup es, cp, X, W, F, e, h => by
    unfold chkE at h
    split at h
    · obtain ⟨h1, h2⟩ := ba h
      exact .pl F.L (s_tup F.L (chkEs_ok es F _ h2).pa) fun _ => rfl
    · cases h
  | .cmpr el t it c vs, cp, X, W, F, e, h => by
    unfold chkE at h
    split at h
    · split at h
      · obtain ⟨h, hh⟩ := ba h
        have hh := hotF hh
        obtain ⟨h, h8⟩ := ba h
        obtain ⟨h, h7⟩ := ba h
        obtain ⟨h, h6⟩ := ba h
        obtain ⟨h, h5⟩ := ba h
        obtain ⟨h, h4⟩ := ba h
        obtain ⟨h, h3⟩ := ba h
        obtain ⟨h1, h2⟩ := ba h
        obtain rfl := of_decide_eq_true h1
        have hb := blkB_ok h2
        have hs : ∀ i ∈ slotsOf t, i ∈ (ownOf cp.N vs).map (·.2) := by
          rw [ownOf_map]
          cases t with
          | nm i => intro j hj; rw [List.mem_singleton.mp hj]; exact of_decide_eq_true h3
          | tp is => intro j hj; exact of_decide_eq_true (List.all_eq_true.mp h3 j hj)
        have q := s_cmpr (X := X) (W := W) (Γ := Γ) (T := T) (pos := ‹Pos›) F.L (F.calm hh) F.nd (chkIt_ok it F _ _ h6) (by rw [F.N, F.sc]; exact hb) hs (fun s H C cl fp => (gB_ok (F.blk hh _ s H C cl fp) h4).2) (fun s H C cl fp => chkIf_ok c (F.blk hh _ s H C cl fp) _ h7) (fun s H C cl fp => (chkE_ok el (F.blk hh _ s H C cl fp) _ h8).1) (fun x => pl_fold h5 _ _)
        rw [ownOf_map] at q
        exact .pl F.L q fun _ => rfl
      · cases h
    · cases h
  | .mth o m es, cp, X, W, F, e, h => by
    unfold chkE at h
    split at h
    · obtain ⟨h, hh⟩ := ba h
      obtain ⟨h, h7⟩ := ba h
      obtain ⟨h, h6⟩ := ba h
      obtain ⟨h, h5⟩ := ba h
      obtain ⟨h, h4⟩ := ba h
      obtain ⟨h, h3⟩ := ba h
      obtain ⟨h1, h2⟩ := ba h
      obtain rfl := sq_ok h1
      obtain ⟨hh, hN⟩ := ba hh
      exact OkE.pl F.L (mth_ok F (hotF hh) hN h2 h3 h4 h5 (chkEs_len h7) (chkE_ok o F _ h6).1 (chkEs_ok es F _ h7).pa) fun _ => rfl
    · cases h
  | .fld o f, cp, X, W, F, e, h => by
    unfold chkE at h
    split at h
    · obtain ⟨h, h3⟩ := ba h
      obtain ⟨h1, h2⟩ := ba h
      obtain rfl := sq_ok h1
      exact OkE.pl F.L (s_fld F.L (chkE_ok o F _ h3).1 (abB_ok h2 _ _ _)) fun _ => rfl
    · cases h
  | .dct es, cp, X, W, F, e, h => by
    unfold chkE at h
    split at h
    · rename_i ks vs pos
      obtain ⟨h1, h2⟩ := ba h
      obtain ⟨p1, p2, p3, p4, p5⟩ := chkPs_ok es F ks vs h1 pos
      cases es with
      | nil =>
        cases ks with
        | nil =>
          cases vs with
          | nil => exact .pl F.L s_dct0 fun _ => rfl
          | cons _ _ => cases p4
        | cons _ _ => exact absurd (p5 rfl) (List.cons_ne_nil _ _)
      | cons a r => exact .pl F.L (s_dct F.L p2 p1 p3 p4 (fun e => by subst e; cases r <;> simp [chkPs] at h1) (of_decide_eq_true h2)) fun _ => rfl
    · cases h
  | .dctT, cp, X, W, F, e, h => by
    unfold chkE at h
    split at h
    · exact .pl F.L s_dctT fun _ => rfl
    · cases h
  | .xfld f, cp, X, W, F, e, h => by
    unfold chkE at h
    split at h
    · obtain ⟨h1, h2⟩ := ba h
      obtain rfl := sq_ok h1
      split at h2
      · rename_i i hi
        refine .pl F.L (xfld_ok F hi (fun p => varB_ok F h2)) fun _ => rfl
      · cases h2
    · cases h
  | .xisi cs, cp, X, W, F, e, h => by
    unfold chkE at h
    split at h
    · obtain ⟨h, h5⟩ := ba h
      obtain ⟨h, h4⟩ := ba h
      obtain ⟨h, h3⟩ := ba h
      obtain ⟨h1, h2⟩ := ba h
      obtain rfl := sq_ok h1
      obtain ⟨g1, g2, g3⟩ := bltB_ok F h2
      split at h4
      · rename_i i hi
        split at h5
        · exact .pl F.L (xisi_ok F hi g1 g2 (fun p => varB_ok F h4) (cls_ok F h5) (pl_star (e := .Name _ _) rfl _ _) (pl_star h3 _ _) (pls_any (es := [_]) (by unfold pls; rw [List.all_cons, h3]; rfl) _ _)) fun _ => rfl
        · split at h5
          · obtain ⟨h5, h7⟩ := ba h5
            obtain ⟨h5, h6⟩ := ba h5
            have h6 := of_decide_eq_true h6
            have h7 := of_decide_eq_true h7
            match cs, h6, h7, h5 with
            | c1 :: c2 :: cs, _, h7, h5 => exact .pl F.L (xisiT_ok F hi g1 g2 (fun p => varB_ok F h4) h7 (pe_tup (clss_ok F h5)) (pl_star (e := .Name _ _) rfl _ _) (pl_star h3 _ _) (pls_any (es := [_]) (by unfold pls; rw [List.all_cons, h3]; rfl) _ _)) fun _ => rfl
          · cases h5
      · cases h4
    · cases h
  | .calld f es ds, cp, X, W, F, e, h => by
    unfold chkE at h
    split at h
    · obtain ⟨h, h3⟩ := ba h
      obtain ⟨h1, h2⟩ := ba h
      exact .pl F.L (calld_ok F h1 h2 (chkEs_ok es F _ h3).pa) fun _ => rfl
    · cases h
  | .srtk a n m, cp, X, W, F, e, h => by
    unfold chkE at h
    split at h
    · obtain ⟨h, h11⟩ := ba h
      obtain ⟨h, h10⟩ := ba h
      obtain ⟨h, hh⟩ := ba h
      obtain ⟨h, h8⟩ := ba h
      obtain ⟨h, h7⟩ := ba h
      obtain ⟨h, h6⟩ := ba h
      obtain ⟨h, h5⟩ := ba h
      obtain ⟨h, h4⟩ := ba h
      obtain ⟨h, h3⟩ := ba h
      obtain ⟨h1, h2⟩ := ba h
      obtain rfl := sq_ok h1
      obtain rfl := sq_ok h3
      obtain ⟨g1, g2, g3⟩ := bltB_ok F h2
      have hn := of_decide_eq_true h6
      subst hn
      have hraw : cp.raw = none := by cases q : cp.raw with
        | none => rfl
        | some z => rw [q] at h8; cases h8
      have hl2 := of_decide_eq_true h7
      obtain ⟨⟨r, hr, low⟩, tab⟩ := F.lam hraw (hotF hh) (by rw [hl2]; decide)
      obtain ⟨c, P, t1, t2, t3, t4⟩ := tab hl2
      split at h11
      · rename_i x hx
        obtain ⟨k1, k2⟩ := ba h11
        obtain ⟨p1, p2⟩ := lamP_ok hx
        have S := NdefX.nscope_by k1
        refine .pl F.L (s_srtk F.L g1 g2 (chkE_ok a F _ h5).1 (by rw [pl_star h4]; rfl) (pls_any (es := [_]) (by unfold pls; rw [List.all_cons, h4]; rfl) _ _) t2 t1 t3 t4 (p1 _) (noFree_ok h10) (.of hr) (fun f c' => lok_of (N := [x]) (ps := [x]) S (fun pm ctv us hl => p2 _ _ _ _ _ _ us hl) (fun vs H Q E z => by obtain ⟨v, u, h, rfl, _⟩ := z; rfl) fun A outer s H vs Q E hr' z => ?_) (pl_star h4 _ _)) fun _ => rfl
        obtain ⟨v, u, hv, rfl, rv, rh, w⟩ := z
        have Fl := F.lmb (hotF hh) (x := x) (G := ⟨X.env.qual ++ "<lambda>", _, _, _, c'⟩) S f (outer := outer) (s := s) (H := H) (E := E) hr' (low _ rfl rfl rfl rfl rfl hr')
        refine ⟨_, (chkE_ok m Fl _ k2).1, [some u], hv, ?_, rh, wpE_mono F.L m _ hv _ _ _ _ (fun _ _ z => z) (fun _ _ z => z.elim) w⟩
        exact ⟨rfl, fun i y ey => by
          cases i with
          | zero => cases ey; exact ⟨v, rfl, rv⟩
          | succ i => cases ey⟩
      · cases h11
    · cases h
  | .srtf a f, cp, X, W, F, e, h => by
    unfold chkE at h
    split at h
    · obtain ⟨h, h9⟩ := ba h
      obtain ⟨h, hh⟩ := ba h
      obtain ⟨h, h7⟩ := ba h
      obtain ⟨h, h6⟩ := ba h
      obtain ⟨h, h5⟩ := ba h
      obtain ⟨h, h4⟩ := ba h
      obtain ⟨h, h3⟩ := ba h
      obtain ⟨h1, h2⟩ := ba h
      obtain rfl := sq_ok h1
      obtain rfl := sq_ok h3
      obtain ⟨g1, g2, g3⟩ := bltB_ok F h2
      have hraw : cp.raw = none := by cases q : cp.raw with
        | none => rfl
        | some z => rw [q] at h7; cases h7
      obtain ⟨⟨r, hr, low⟩, _⟩ := F.lam hraw (hotF hh) (of_decide_eq_true h6)
      have lo := low { X with A := X.A.in1.in1 } rfl rfl rfl rfl rfl (Room.in2 hr)
      unfold kfnB at h9
      obtain ⟨k1, k2⟩ := ba h9
      split at k2
      · rename_i l hl
        have e := of_decide_eq_true k2
        subst e
        obtain ⟨m1, ⟨k, fd, ps, q1, q2, q3, q4⟩, m3⟩ := lo.gl _ _ hl
        exact .pl F.L (s_srtf F.L g1 g2 (chkE_ok a F _ h5).1 (by rw [pl_star h4]; rfl) (pls_any (es := [_]) (by unfold pls; rw [List.all_cons, h4]; rfl) _ _) (kname_ok F k1 m1) q1 q2 q3 q4 (pl_star h4 _ _)) fun _ => rfl
      · cases k2
    · cases h
  | .cmprD el t m c vs, cp, X, W, F, e, h => by
    unfold chkE at h
    split at h
    · split at h
      · obtain ⟨h, hh⟩ := ba h
        have hh := hotF hh
        obtain ⟨h, h8⟩ := ba h
        obtain ⟨h, h7⟩ := ba h
        obtain ⟨h, h6⟩ := ba h
        obtain ⟨h, h5⟩ := ba h
        obtain ⟨h, h4⟩ := ba h
        obtain ⟨h, h3⟩ := ba h
        obtain ⟨h1, h2⟩ := ba h
        obtain rfl := of_decide_eq_true h1
        have hb := blkB_ok h2
        have hs : ∀ i ∈ slotsOf t, i ∈ (ownOf cp.N vs).map (·.2) := by
          rw [ownOf_map]
          cases t with
          | nm i => intro j hj; rw [List.mem_singleton.mp hj]; exact of_decide_eq_true h3
          | tp is => intro j hj; exact of_decide_eq_true (List.all_eq_true.mp h3 j hj)
        have q := s_cmprD (X := X) (W := W) (Γ := Γ) (T := T) (pos := ‹Pos›) F.L (F.calm hh) F.nd (itemsB_ok F.L h6 fun v hv => (chkE_ok m F v hv).1) (by rw [F.N, F.sc]; exact hb) hs (fun s H C cl fp => (gB_ok (F.blk hh _ s H C cl fp) h4).2) (fun s H C cl fp => chkIf_ok c (F.blk hh _ s H C cl fp) _ h7) (fun s H C cl fp => (chkE_ok el (F.blk hh _ s H C cl fp) _ h8).1) (fun x => pl_fold h5 _ _)
        rw [ownOf_map] at q
        exact .pl F.L q fun _ => rfl
      · cases h
    · cases h
  | .frz m, cp, X, W, F, e, h => by
    unfold chkE at h
    obtain ⟨h1, h2⟩ := ba h
    exact OkE.pl F.L (s_frz F.L (chkE_ok m F _ h2).1) (fun whole => frzB_ok h1 _ whole)
theorem chkEs_ok : ∀ (ms : Es) {cp : CP} {X : Ctx} {W : WX} (F : Fit X W Γ T cp) (es : List Expr), chkEs cp ms es = true → OkEs X W Γ T ms es
  | .nil, cp, X, W, F, [], h => okEs_nil
  | .nil, cp, X, W, F, _ :: _, h => by simp [chkEs] at h
  | .cons m ms, cp, X, W, F, [], h => by simp [chkEs] at h
  | .cons m ms, cp, X, W, F, e :: es, h => by
    rw [chkEs] at h
    obtain ⟨h, h3⟩ := ba h
    obtain ⟨h1, h2⟩ := ba h
    exact okEs_cons F.L (chkEs_len h3) h1 (chkE_ok m F _ h2) (chkEs_ok ms F _ h3)
theorem chkPs_ok : ∀ (m : Es) {cp : CP} {X : Ctx} {W : WX} (F : Fit X W Γ T cp) (ks : List (Option Expr)) (vs : List Expr), chkPs cp m ks vs = true → ∀ pos, PPs X pos ks vs (trsOf Γ T X.K W m) ∧ evenEs m = true ∧ ks.all (·.isSome) = true ∧ ks.length = vs.length ∧ (m = .nil → ks = [])
  | .nil, cp, X, W, F, [], [], h, pos => ⟨pps_nil, rfl, rfl, rfl, fun _ => rfl⟩
  | .cons k (.cons v r), cp, X, W, F, some ke :: ks, ve :: vs, h, pos => by
    unfold chkPs at h
    obtain ⟨h, h3⟩ := ba h
    obtain ⟨h1, h2⟩ := ba h
    obtain ⟨p1, p2, p3, p4, p5⟩ := chkPs_ok r F ks vs h3 pos
    exact ⟨pps_cons (chkE_ok k F _ h1).1 (chkE_ok v F _ h2).1 p1, p2, by rw [List.all_cons, p3]; rfl, by rw [List.length_cons, List.length_cons, p4], fun e => nomatch e⟩
  | .nil, cp, X, W, F, _ :: _, _, h, pos => by simp [chkPs] at h
  | .nil, cp, X, W, F, [], _ :: _, h, pos => by simp [chkPs] at h
  | .cons _ .nil, cp, X, W, F, _, _, h, pos => by simp [chkPs] at h
  | .cons _ (.cons _ _), cp, X, W, F, [], _, h, pos => by simp [chkPs] at h
  | .cons _ (.cons _ _), cp, X, W, F, none :: _, _, h, pos => by simp [chkPs] at h
  | .cons _ (.cons _ _), cp, X, W, F, some _ :: _, [], h, pos => by simp [chkPs] at h
theorem chkO_ok : ∀ (m : O) {cp : CP} {X : Ctx} {W : WX} (F : Fit X W Γ T cp) (e : Option Expr), chkO cp m e = true → PO X e (tO Γ T X.K W m)
  | .no, cp, X, W, F, none, h => s_no
  | .no, cp, X, W, F, some _, h => by simp [chkO] at h
  | .some m, cp, X, W, F, none, h => by simp [chkO] at h
  | .some m, cp, X, W, F, some e, h => by
    rw [chkO] at h
    exact s_some F.L (chkE_ok m F _ h).1
theorem chkIf_ok : ∀ (m : O) {cp : CP} {X : Ctx} (F : Fit X W0 Γ T cp) (e : List Expr), chkIf cp m e = true → PTs X e (tIf1 Γ T X.K m)
  | .no, cp, X, F, [], h => pts_nil
  | .no, cp, X, F, _ :: _, h => by simp [chkIf] at h
  | .some m, cp, X, F, [], h => by simp [chkIf] at h
  | .some m, cp, X, F, [e], h => by
    rw [chkIf] at h
    exact pts_one (chkE_ok m F _ h).2
  | .some m, cp, X, F, _ :: _ :: _, h => by simp [chkIf] at h
theorem chkIt_ok : ∀ (m : It) {cp : CP} {X : Ctx} {W : WX} (F : Fit X W Γ T cp) (tg e : Expr), chkIt cp m tg e = true → PI X tg e (tI Γ T X.K W m)
  | .pl m, cp, X, W, F, tg, e, h => by
    unfold chkIt at h
    exact s_pl F.L (chkE_ok m F _ h).1
  | .r1 a, cp, X, W, F, tg, e, h => by
    unfold chkIt at h
    split at h
    · obtain ⟨h, h4⟩ := ba h
      obtain ⟨h, h3⟩ := ba h
      obtain ⟨h1, h2⟩ := ba h
      obtain rfl := sq_ok h1
      obtain ⟨g1, g2, g3⟩ := bltB_ok F h2
      exact s_r1 F.L g1 g2 (chkE_ok a F _ h4).1 (pl_star h3 _ _)
    · cases h
  | .r2 a b, cp, X, W, F, tg, e, h => by
    unfold chkIt at h
    split at h
    · obtain ⟨h, h6⟩ := ba h
      obtain ⟨h, h5⟩ := ba h
      obtain ⟨h, h4⟩ := ba h
      obtain ⟨h, h3⟩ := ba h
      obtain ⟨h1, h2⟩ := ba h
      obtain rfl := sq_ok h1
      obtain ⟨g1, g2, g3⟩ := bltB_ok F h2
      refine s_r2 F.L g1 g2 (chkE_ok a F _ h5).1 (chkE_ok b F _ h6).1 ?_ (pl_star h4 _ _)
      rw [pl_star h3, pl_star h4]
      rfl
    · cases h
  | .en a, cp, X, W, F, tg, e, h => by
    unfold chkIt at h
    split at h
    · obtain ⟨h, h5⟩ := ba h
      obtain ⟨h, h4⟩ := ba h
      obtain ⟨h, h3⟩ := ba h
      obtain ⟨h1, h2⟩ := ba h
      obtain ⟨l, k, p, rfl⟩ := tupB_ok h1
      obtain rfl := sq_ok h2
      obtain ⟨g1, g2, g3⟩ := bltB_ok F h3
      exact s_en2 F.L g1 g2 (chkE_ok a F _ h5).1 (pl_star h4 _ _)
    · cases h
  | .rv a, cp, X, W, F, tg, e, h => by
    unfold chkIt at h
    split at h
    · obtain ⟨h, h6⟩ := ba h
      obtain ⟨h, h5⟩ := ba h
      obtain ⟨h, h4⟩ := ba h
      obtain ⟨h, h3⟩ := ba h
      obtain ⟨h1, h2⟩ := ba h
      obtain rfl := sq_ok h1
      obtain rfl := sq_ok h3
      obtain ⟨g1, g2, g3⟩ := bltB_ok F h2
      obtain ⟨k1, k2, k3⟩ := bltB_ok F h4
      exact s_rv F.L g1 g2 k1 k2 (chkE_ok a F _ h6).1 (pl_star h5 _ _)
    · cases h
  | .r3 a b c, cp, X, W, F, tg, e, h => by
    unfold chkIt at h
    split at h
    · obtain ⟨h, h8⟩ := ba h
      obtain ⟨h, h7⟩ := ba h
      obtain ⟨h, h6⟩ := ba h
      obtain ⟨h, h5⟩ := ba h
      obtain ⟨h, h4⟩ := ba h
      obtain ⟨h, h3⟩ := ba h
      obtain ⟨h1, h2⟩ := ba h
      obtain rfl := sq_ok h1
      obtain ⟨g1, g2, g3⟩ := bltB_ok F h2
      exact s_r3 F.L g1 g2 (chkE_ok a F _ h6).1 (chkE_ok b F _ h7).1 (chkE_ok c F _ h8).1 (pl_star h3 _ _) (pl_star h4 _ _) (pl_star h5 _ _) (pls_any (es := [_, _]) (by unfold pls; rw [List.all_cons, List.all_cons, h4, h5]; rfl) _ _)
    · cases h
  | .zp a b, cp, X, W, F, tg, e, h => by
    unfold chkIt at h
    split at h
    · obtain ⟨h, h7⟩ := ba h
      obtain ⟨h, h6⟩ := ba h
      obtain ⟨h, h5⟩ := ba h
      obtain ⟨h, h4⟩ := ba h
      obtain ⟨h, h3⟩ := ba h
      obtain ⟨h1, h2⟩ := ba h
      obtain ⟨l, k, p, rfl⟩ := tupB_ok h1
      obtain rfl := sq_ok h2
      obtain ⟨g1, g2, g3⟩ := bltB_ok F h3
      exact s_zp F.L g1 g2 (chkE_ok a F _ h6).1 (chkE_ok b F _ h7).1 (pl_star h4 _ _) (pl_star h5 _ _) (pls_any (es := [_]) (by unfold pls; rw [List.all_cons, h5]; rfl) _ _)
    · cases h
  | .items .., cp, X, W, F, tg, e, h => by simp [chkIt] at h
end
end MP
end
section
set_option maxHeartbeats 4000000
/-! MpR: the checker of written statements. -/
namespace MP
open PySem PySem.Spec PyProof.Rows L2
theorem ip_aug {X : Ctx} {T : Tb} (o : Bop) : PIp X (opOf o) (r2 T X.K (augR o)) := by
  intro pins s σ H x y v u Q I rx ry ⟨a, b, h, ra, rb, rh, w⟩
  cases o with
  | add =>
    unfold augR intR at w
    dsimp only at w
    split at w
    · obtain rfl := rv_int.mp ra
      obtain rfl := rv_int.mp rb
      exact ip_add pins s σ H _ _ v u Q I rx ry ⟨_, _, rfl, rfl, dn.at w rh (rv_int.mpr rfl)⟩
    · exact w.elim
  | sub =>
    unfold augR intR at w
    dsimp only at w
    split at w
    · obtain rfl := rv_int.mp ra
      obtain rfl := rv_int.mp rb
      exact ip_sub pins s σ H _ _ v u Q I rx ry ⟨_, _, rfl, rfl, dn.at w rh (rv_int.mpr rfl)⟩
    · exact w.elim
  | _ => exact w.elim
/-- no comprehension -/
def ncB : Expr → Bool
  | .ListComp .. => false
  | .SetComp .. => false
  | .DictComp .. => false
  | _ => true
theorem nc_swap {e : Expr} (h : ncB e = true) (t : Option Expr) (l : Nat) (env : Env) : swapsWith e t l env = pure false := by
  cases e <;> first | rfl | cases h
/-- name = comprehension, stored the other way about -/
def swapB (sc : Scope) (scope : Scope) (vp : Pos) (y : Str) (p : Pos) : Bool := (if sc.kind.isAnnotationScope then ScopeKind.function else sc.kind) == .function && sc.names.lookup y == some .local && p.line == vp.line && !(scope.names.any fun (n, k) => n == y && (k == .local || k == .cell))
theorem swap_eq {env : Env} {elt : Expr} {gs : List Comprehension} {scope : Scope} {vp p : Pos} {y : Str} {l : Nat} : swapsWith (.ListComp elt gs scope vp) (some (.Name y p)) l env = pure (swapB env.scope scope vp y p) := rfl
def ntB : Expr → Bool
  | .Tuple .. => false
  | _ => true
theorem nt_stores {e tg : Expr} (h : ntB e = true) (env : Env) : swappedStores [tg] e env = pure none := by
  cases tg <;> cases e <;> first | rfl | cases h
def strB : Expr → Bool
  | .Constant (.str _) _ _ => true
  | _ => false
theorem pl_asub {o i : Expr} {p2 : Pos} {env : Env} (h : plE i = true) : ∀ v, assign (.Subscript o i p2) env v = (do
      let ov ← holding [v] (eval o env)
      let iv ← holding [v, ov] (eval i env)
      standAt p2
      holding [v, ov, iv] (setItem ov iv v)
      release [v, ov, iv] []) := by
  cases i <;> first | (intro v; rfl) | cases h
/-- an exception class -/
def exnB (cp : CP) (c : String) (x : Str) : Bool := match glk cp.gl x with
  | some (.cls d) => decide (d = c)
  | _ => false
def raiB (cp : CP) (es : Es) : Bool := !cp.nx || (match es with
  | .nil => true
  | _ => false)
mutual
def chkS (cp : CP) : S → Stmt → Bool
  | .exp e, s => (match s with
    | .Expr v _ => ncB v && chkE cp e v
    | _ => false)
  | .asg g e, s => (match s with
    | .Assign [tg] v spos => (match tg with
      | .Name y p => (match v with
        | .ListComp elt gens scope pos => (match g, e with
          | .nm i, .cmpr el t it c vs => (match gens with
            | [⟨ctg, iter, ifs, as_⟩] => decide (as_ = 0) && blkB cp.N cp.sc scope (ownOf cp.N vs) && (match t with
                | .nm i => decide (i ∈ vs)
                | .tp is => is.all fun i => decide (i ∈ vs)) && gB (cp.sub scope) t ctg && plE iter && chkIt cp it ctg iter && chkIf (cp.sub scope) c ifs && chkE (cp.sub scope) el elt && locB cp i y && !cp.hot
            | _ => false)
          | _, _ => false)
        | v => (match g with
          | .nm i => locB cp i y && ncB v && chkE cp e v
          | _ => false))
      | tg => (match g with
        | .tp is => tupB tg && ntB v && ncB v && gB cp g tg && chkE cp e v
        | _ => false))
    | _ => false)
  | .aug i op e, s => (match s with
    | .AugAssign (.Name x p) o v _ => opB op o && locB cp i x && chkE cp e v
    | _ => false)
  | .ret e, s => (match s with
    | .Return (some v) _ => chkE cp e v
    | .Return none _ => (match e with
      | .non => true
      | _ => false)
    | _ => false)
  | .ife c a b, s => (match s with
    | .If v p q _ => chkE cp c v && chkSs cp a p && chkSs cp b q
    | _ => false)
  | .loop g it body, s => (match s with
    | .For tg iter b [] _ => gB cp g tg && plE iter && chkIt cp it tg iter && chkSs cp body b && !cp.hot
    | _ => false)
  | .loopD g m body, s => (match s with
    | .For tg iter b [] _ => gB cp g tg && plE iter && itemsB cp tg iter (fun v => chkE cp m v) && chkSs cp body b && !cp.hot
    | _ => false)
  | .whl c body, s => (match s with
    | .While v b [] _ => chkE cp c v && chkSs cp body b
    | _ => false)
  | .pas, s => (match s with
    | .Pass _ => true
    | .Expr v _ => strB v
    | _ => false)
  | .sfl o f e, s => (match s with
    | .Assign [.Attribute v name _] w _ => sq name (Str.ofString f) && ncB w && chkE cp o v && chkE cp e w
    | _ => false)
  | .ssb o i e, s => (match s with
    | .Assign [.Subscript v w p2] u _ => ncB u && ntB u && plE w && chkE cp o v && chkE cp i w && chkE cp e u
    | _ => false)
  | .rai c es, s => (match s with
    | .Raise (some (.Call (.Name x _) vs [] _)) none _ => glB cp x && exnB cp c x && pls vs && decide (vs.length < 6) && chkEs cp es vs && (!cp.hot && raiB cp es)
    | _ => false)
  | .try_ mb (.cons c i ms .nil) .nil, s => (match s with
    | .Try body [.ExceptHandler (some (.Name x _)) (some n) (b₀ :: suite) _] [] [] _ => glB cp x && exnB cp c x && ixB cp.N i n && decide (cp.sc.names.lookup n = some .local) && cp.raw.isNone && chkSs cp.inn mb body && chkSs (cp.suite i) ms (b₀ :: suite) && (!cp.hot && !cp.nx)
    | .Try body [.ExceptHandler (some (.Name x _)) none (b₀ :: suite) _] [] [] _ => glB cp x && exnB cp c x && decide (cp.N.length ≤ i) && cp.raw.isNone && chkSs cp.inn mb body && chkSs (cp.suite i) ms (b₀ :: suite) && (!cp.hot && !cp.nx)
    | _ => false)
  | .try_ _ _ _, _ => false
  | .tryR mb c c2 j els, s => (match s with
    | .Try body [.ExceptHandler (some (.Name x _)) none [.Raise (some (.Call (.Name x2 _) [.Name y _] [] _)) none _] _] orelse [] _ => glB cp x && exnB cp c x && glB cp x2 && exnB cp c2 x2 && varB cp j y && cp.raw.isNone && chkSs cp.inN mb body && chkSs cp els orelse && (!cp.hot && (!cp.nx && cp.top))
    | _ => false)
  | .frz _, _ => false
  | .nev, _ => true
  | .thru b els, s => (match s with
    | .Try body (_ :: _) orelse [] _ => chkSs cp b body && chkSs cp els orelse && !cp.hot
    | _ => false)
def chkSs (cp : CP) : Ss → List Stmt → Bool
  | .nil, [] => true
  | .nil, _ :: _ => false
  | .cons (.frz _) ms, ss => chkSs cp ms ss
  | .cons m ms, ss => (match ss with
    | s :: ss => chkS cp m s && chkSs cp ms ss
    | [] => false)
end
variable {Γ : Gam} {T : Tb}
theorem exnB_ok {X : Ctx} {W : WX} {cp : CP} (F : Fit X W Γ T cp) {c : String} {x : Str} (h : exnB cp c x = true) : X.mg x = some (.ref (T.cls c)) ∧ bltTy c = false := by
  unfold exnB at h
  split at h
  · rename_i e
    obtain rfl := of_decide_eq_true h
    exact F.gl _ _ e
  · cases h
theorem raiB_no {cp : CP} {m : E} {es : Es} (h : raiB cp (.cons m es) = true) : cp.nx = false := by
  rcases nx_or h with q | q
  · exact q
  · cases q
theorem rai_ok {X : Ctx} {W : WX} {cp : CP} (F : Fit X W Γ T cp) (hh : cp.hot = false) {es : Es} (hN : raiB cp es = true) {c : String} {x : Str} {p p' pos : Pos} {vs : List Expr} (g1 : Gl X x) (g2 : (x == ("__debug__" : Str)) = false) (k : X.mg x = some (.ref (T.cls c)) ∧ bltTy c = false) (hp : pls vs = true) (hn : vs.length < 6) (h : chkEs cp es vs = true) :
    PS X (.Raise (some (.Call (.Name x p) vs [] p')) none pos) (tS Γ T X.K W (.rai c es)) := by
  cases q : Γ.exc c with
  | none =>
    refine ⟨fun pins s σ H D I ⟨σv, h, rs, rh, z⟩ => ?_⟩
    simp only [wpS, q, raiC] at z
    exact z.1.elim
  | some ns =>
    cases ns with
    | nil =>
      have E0 := (F.exc hh c).1 q
      cases es with
      | nil =>
        cases vs with
        | nil => exact s_rai0N (F.calm hh) F.tkn q E0 k.1 g1 g2
        | cons v vs => simp [chkEs] at h
      | cons m es =>
        by_cases hl : litEs (.cons m es) = true
        · cases es with
          | nil =>
            cases m with
            | str z =>
              match vs, h with
              | [v], h =>
                rw [chkEs] at h
                obtain ⟨h, _⟩ := ba h
                obtain ⟨_, h⟩ := ba h
                unfold chkE at h
                split at h
                · exact s_rai1 (F.calm hh) (F.tk (raiB_no hN)) q E0 k.1 g1 g2
                · cases h
              | [], h => simp [chkEs] at h
              | _ :: _ :: _, h => rw [chkEs] at h; obtain ⟨_, h⟩ := ba h; simp [chkEs] at h
            | _ => simp [litEs] at hl
          | cons _ _ => cases m <;> simp [litEs] at hl
        · refine ⟨fun pins s σ H D I ⟨σv, h, rs, rh, z⟩ => ?_⟩
          simp only [wpS, q, raiC] at z
          exact (hl z.1).elim
    | cons n ns =>
      have EI := (F.exc hh c).2 n ns q
      by_cases hl : ns.length ≤ 5
      · cases vs with
        | nil =>
          cases es with
          | nil =>
            refine ⟨fun pins s σ H D I ⟨σv, h, rs, rh, z⟩ => ?_⟩
            simp only [wpS, wpEs, q, raiK] at z
            exact absurd z.2.1 (by simp)
          | cons _ _ => simp [chkEs] at h
        | cons v vs =>
          have hp' := hp
          unfold pls at hp'
          rw [List.all_cons, Bool.and_eq_true] at hp'
          cases es with
          | nil => simp [chkEs] at h
          | cons m es =>
          exact s_raiI F.L (F.calm hh) (F.tk (raiB_no hN)) q hl EI k.1 g1 g2 (chkEs_ok _ F _ h).pa (pl_star hp'.1 _ _) (pls_any hp'.2 _ _)
      · refine ⟨fun pins s σ H D I ⟨σv, h, rs, rh, z⟩ => ?_⟩
        simp only [wpS, q, raiC] at z
        exact (hl z.1).elim
theorem lc_swap {X : Ctx} {W : WX} {cp : CP} (F : Fit X W Γ T cp) {elt tg iter : Expr} {ifs : List Expr} {scope : Scope} {pos spos p : Pos} {y : Str} {i : Nat} {as_ : Int} {el : E} {t : G} {it : It} {c : O} {vs : List Nat}
    (h : (decide (as_ = 0) && blkB cp.N cp.sc scope (ownOf cp.N vs) && (match t with
                | .nm i => decide (i ∈ vs)
                | .tp is => is.all fun i => decide (i ∈ vs)) && gB (cp.sub scope) t tg && plE iter && chkIt cp it tg iter && chkIf (cp.sub scope) c ifs && chkE (cp.sub scope) el elt && locB cp i y && !cp.hot) = true) :
    PS X (.Assign [.Name y p] (.ListComp elt [⟨tg, iter, ifs, as_⟩] scope pos) spos) (tS Γ T X.K W (.asg (.nm i) (.cmpr el t it c vs))) := by
  obtain ⟨h, hh⟩ := ba h
  have hh := hotF hh
  obtain ⟨h, h9⟩ := ba h
  obtain ⟨h, h8⟩ := ba h
  obtain ⟨h, h7⟩ := ba h
  obtain ⟨h, h6⟩ := ba h
  obtain ⟨h, h5⟩ := ba h
  obtain ⟨h, h4⟩ := ba h
  obtain ⟨h, h3⟩ := ba h
  obtain ⟨h1, h2⟩ := ba h
  obtain rfl := of_decide_eq_true h1
  have hb := blkB_ok h2
  have hs : ∀ i ∈ slotsOf t, i ∈ (ownOf cp.N vs).map (·.2) := by
    rw [ownOf_map]
    cases t with
    | nm i => intro j hj; rw [List.mem_singleton.mp hj]; exact of_decide_eq_true h3
    | tp is => intro j hj; exact of_decide_eq_true (List.all_eq_true.mp h3 j hj)
  obtain ⟨l1, l2, l3⟩ := locB_ok F h9
  cases hsw : swapB X.env.scope scope pos y p with
  | false =>
    have q := s_cmpr (X := X) (W := W) (Γ := Γ) (T := T) (pos := pos) F.L (F.calm hh) F.nd (chkIt_ok it F _ _ h6) (by rw [F.N, F.sc]; exact hb) hs (fun s H C cl fp => (gB_ok (F.blk hh _ s H C cl fp) h4).2) (fun s H C cl fp => chkIf_ok c (F.blk hh _ s H C cl fp) _ h7) (fun s H C cl fp => (chkE_ok el (F.blk hh _ s H C cl fp) _ h8).1) (fun x => pl_fold h5 _ _)
    rw [ownOf_map] at q
    exact s_set F.L F.nd l1 l2 l3 q (by rw [swap_eq, hsw])
  | true =>
    have hl : X.env.scope.names.lookup y = some .local := by
      unfold swapB at hsw
      simp only [Bool.and_eq_true] at hsw
      exact beq_iff_eq.mp hsw.1.1.2
    have q := s_setLc (X := X) (W := W) (Γ := Γ) (T := T) (pos := pos) (py := p) (spos := spos) F.L (F.calm hh) F.nd l1 hl (by rw [swap_eq, hsw]) (chkIt_ok it F _ _ h6) (by rw [F.N, F.sc]; exact hb) hs (fun s H C cl fp => (gB_ok (F.blk hh _ s H C cl fp) h4).2) (fun s H C cl fp => chkIf_ok c (F.blk hh _ s H C cl fp) _ h7) (fun s H C cl fp => (chkE_ok el (F.blk hh _ s H C cl fp) _ h8).1) (fun x => pl_fold h5 _ _)
    rw [ownOf_map] at q
    exact q
mutual
theorem chkS_ok : ∀ (m : S) {Γ : Gam} {cp : CP} {X : Ctx} {W : WX} (F : Fit X W Γ T cp) (s : Stmt), chkS cp m s = true → PS X s (tS Γ T X.K W m)
  | .exp e, Γ, cp, X, W, F, s, h => by
    unfold chkS at h
    split at h
    · obtain ⟨h1, h2⟩ := ba h
      exact s_exp F.L (chkE_ok e F _ h2).1 (nc_swap h1 _ _ _)
    · cases h
  | .asg g e, Γ, cp, X, W, F, s, h => by
    unfold chkS at h
    split at h
    · split at h
      · split at h
        · split at h
          · split at h
            · exact lc_swap F h
            · cases h
          · cases h
        · split at h
          · obtain ⟨h, h3⟩ := ba h
            obtain ⟨h1, h2⟩ := ba h
            obtain ⟨l1, l2, l3⟩ := locB_ok F h1
            exact s_set F.L F.nd l1 l2 l3 (chkE_ok e F _ h3).1 (nc_swap h2 _ _ _)
          · cases h
      · split at h
        · obtain ⟨h, h5⟩ := ba h
          obtain ⟨h, h4⟩ := ba h
          obtain ⟨h, h3⟩ := ba h
          obtain ⟨h1, h2⟩ := ba h
          obtain ⟨l, k, p, rfl⟩ := tupB_ok h1
          exact s_asg F.L (chkE_ok e F _ h5).1 (gB_ok F h4).1 (by unfold swapsWithSole; exact nc_swap h3 _ _ _) (nt_stores h2 _) rfl
        · cases h
    · cases h
  | .aug i op e, Γ, cp, X, W, F, s, h => by
    unfold chkS at h
    split at h
    · obtain ⟨h, h3⟩ := ba h
      obtain ⟨h1, h2⟩ := ba h
      obtain rfl := opB_ok h1
      obtain ⟨l1, l2, l3⟩ := locB_ok F h2
      exact s_aug F.L F.nd l1 l2 l3 (chkE_ok e F _ h3).1 (ip_aug op)
    · cases h
  | .ret e, Γ, cp, X, W, F, s, h => by
    unfold chkS at h
    split at h
    · exact s_ret F.L (chkE_ok e F _ h).1
    · split at h
      · exact s_retN
      · cases h
    · cases h
  | .ife c a b, Γ, cp, X, W, F, s, h => by
    unfold chkS at h
    split at h
    · obtain ⟨h, h3⟩ := ba h
      obtain ⟨h1, h2⟩ := ba h
      exact s_if F.L (chkE_ok c F _ h1).2 (chkSs_ok a F _ h2) (chkSs_ok b F _ h3)
    · cases h
  | .loop g it body, Γ, cp, X, W, F, s, h => by
    unfold chkS at h
    split at h
    · obtain ⟨h, hh⟩ := ba h
      obtain ⟨h, h4⟩ := ba h
      obtain ⟨h, h3⟩ := ba h
      obtain ⟨h1, h2⟩ := ba h
      exact s_for F.L F.pas (F.calm (hotF hh)) (chkIt_ok it F _ _ h3) (gB_ok F h1).1 (chkSs_ok body F _ h4) fun x => pl_fold h2 _ _
    · cases h
  | .loopD g m body, Γ, cp, X, W, F, s, h => by
    unfold chkS at h
    split at h
    · obtain ⟨h, hh⟩ := ba h
      obtain ⟨h, h4⟩ := ba h
      obtain ⟨h, h3⟩ := ba h
      obtain ⟨h1, h2⟩ := ba h
      exact s_forD F.L F.pas (F.calm (hotF hh)) (itemsB_ok F.L h3 fun v hv => (chkE_ok m F v hv).1) (gB_ok F h1).1 (chkSs_ok body F _ h4) fun x => pl_fold h2 _ _
    · cases h
  | .whl c body, Γ, cp, X, W, F, s, h => by
    unfold chkS at h
    split at h
    · obtain ⟨h1, h2⟩ := ba h
      exact s_while F.L F.pas (chkE_ok c F _ h1).2 (chkSs_ok body F _ h2)
    · cases h
  | .pas, Γ, cp, X, W, F, s, h => by
    unfold chkS at h
    split at h
    · exact s_pas
    · unfold strB at h
      split at h
      · exact s_doc
      · cases h
    · cases h
  | .sfl o f e, Γ, cp, X, W, F, s, h => by
    unfold chkS at h
    split at h
    · obtain ⟨h, h4⟩ := ba h
      obtain ⟨h, h3⟩ := ba h
      obtain ⟨h1, h2⟩ := ba h
      obtain rfl := sq_ok h1
      exact s_sfl F.L (fun c q => F.fld c f q) (chkE_ok o F _ h3).1 (chkE_ok e F _ h4).1 (nc_swap h2 _ _ _)
    · cases h
  | .ssb o i e, Γ, cp, X, W, F, s, h => by
    unfold chkS at h
    split at h
    · obtain ⟨h, h6⟩ := ba h
      obtain ⟨h, h5⟩ := ba h
      obtain ⟨h, h4⟩ := ba h
      obtain ⟨h, h3⟩ := ba h
      obtain ⟨h1, h2⟩ := ba h
      exact s_ssb F.L (by have := F.hu; omega) (chkE_ok o F _ h4).1 (chkE_ok i F _ h5).1 (chkE_ok e F _ h6).1 (pl_asub h3) (by unfold swapsWithSole; exact nc_swap h1 _ _ _) (nt_stores h2 _)
    · cases h
  | .nev, Γ, cp, X, W, F, s, h => s_nev
  | .thru b els, Γ, cp, X, W, F, s, h => by
    unfold chkS at h
    split at h
    · obtain ⟨h, hh⟩ := ba h
      obtain ⟨h1, h2⟩ := ba h
      exact s_thru F.L (chkSs_ok b (F.nox (hotF hh)) _ h1) (chkSs_ok els F _ h2)
    · cases h
  | .rai c es, Γ, cp, X, W, F, s, h => by
    unfold chkS at h
    split at h
    · obtain ⟨h, hh⟩ := ba h
      obtain ⟨h, h5⟩ := ba h
      obtain ⟨h, h4⟩ := ba h
      obtain ⟨h, h3⟩ := ba h
      obtain ⟨h1, h2⟩ := ba h
      obtain ⟨g1, g2⟩ := glB_ok F h1
      obtain ⟨hh, hN⟩ := ba hh
      exact rai_ok F (hotF hh) hN g1 g2 (exnB_ok F h2) h3 (of_decide_eq_true h4) h5
    · cases h
  | .try_ mb (.cons c i ms .nil) .nil, Γ, cp, X, W, F, s, h => by
    unfold chkS at h
    split at h
    · obtain ⟨h, hh⟩ := ba h
      obtain ⟨hh, hN⟩ := ba hh
      have hh := hotF hh
      have hN : cp.nx = false := by simpa using hN
      obtain ⟨h, h7⟩ := ba h
      obtain ⟨h, h6⟩ := ba h
      obtain ⟨h, h5⟩ := ba h
      obtain ⟨h, h4⟩ := ba h
      obtain ⟨h, h3⟩ := ba h
      obtain ⟨h1, h2⟩ := ba h
      obtain ⟨g1, g2⟩ := glB_ok F h1
      have h5 : cp.raw = none := Option.isNone_iff_eq_none.mp h5
      obtain ⟨k1, k2⟩ := exnB_ok F h2
      refine s_try F.L (F.stk h5).1 (F.stk h5).2 F.nd (by rw [F.N]; exact ixB_ok h3) (by show X.env.scope.names.lookup _ = _; rw [F.sc]; exact of_decide_eq_true h4) ⟨g1, g2, .inl (by rw [k1]; unfold cv; rw [if_neg (by rw [k2]; decide)])⟩ (F.tk hN) (fun e b q => (F.sub _ _ _ q).1)
        (fun W' pn xe tk hp => chkSs_ok mb (F.tr hh pn xe tk hp) _ h6) (fun a oe e pn hz hv => chkSs_ok ms (F.suite h5 a oe e pn i hz hv) _ h7)
    · obtain ⟨h, hh⟩ := ba h
      obtain ⟨hh, hN⟩ := ba hh
      have hh := hotF hh
      have hN : cp.nx = false := by simpa using hN
      obtain ⟨h, h7⟩ := ba h
      obtain ⟨h, h6⟩ := ba h
      obtain ⟨h, h5⟩ := ba h
      obtain ⟨h, h3⟩ := ba h
      obtain ⟨h1, h2⟩ := ba h
      obtain ⟨g1, g2⟩ := glB_ok F h1
      have h5 : cp.raw = none := Option.isNone_iff_eq_none.mp h5
      obtain ⟨k1, k2⟩ := exnB_ok F h2
      refine s_tryN F.L (F.stk h5).1 (F.stk h5).2 (by rw [F.N]; exact of_decide_eq_true h3) ⟨g1, g2, .inl (by rw [k1]; unfold cv; rw [if_neg (by rw [k2]; decide)])⟩ (F.tk hN) (fun e b q => (F.sub _ _ _ q).1)
        (fun W' pn xe tk hp => chkSs_ok mb (F.tr hh pn xe tk hp) _ h6) (fun a oe e pn hz hv => chkSs_ok ms (F.suite h5 a oe e pn i hz hv) _ h7)
    · cases h
  | .tryR mb c c2 j els, Γ, cp, X, W, F, s, h => by
    unfold chkS at h
    split at h
    · obtain ⟨h, hh⟩ := ba h
      obtain ⟨hh, hN⟩ := ba hh
      obtain ⟨hN, hT⟩ := ba hN
      have hh := hotF hh
      have hN : cp.nx = false := by simpa using hN
      obtain ⟨h, h8⟩ := ba h
      obtain ⟨h, h7⟩ := ba h
      obtain ⟨h, h6⟩ := ba h
      obtain ⟨h, h5⟩ := ba h
      obtain ⟨h, h4⟩ := ba h
      obtain ⟨h, h3⟩ := ba h
      obtain ⟨h1, h2⟩ := ba h
      obtain ⟨g1, g2⟩ := glB_ok F h1
      obtain ⟨g3, g4⟩ := glB_ok F h3
      have h6 : cp.raw = none := Option.isNone_iff_eq_none.mp h6
      obtain ⟨k1, k2⟩ := exnB_ok F h2
      obtain ⟨k3, k4⟩ := exnB_ok F h4
      unfold varB at h5
      obtain ⟨h5, v3⟩ := ba h5
      obtain ⟨v1, v2⟩ := ba h5
      by_cases hx : ∃ n ns, Γ.exc c2 = some (n :: ns)
      · exact s_tryR F.L (F.stk h6).1 (F.stk h6).2 (F.pax hT) ⟨g1, g2, .inl (by rw [k1]; unfold cv; rw [if_neg (by rw [k2]; decide)])⟩ (F.tk hN) (fun e b q => (F.sub _ _ _ q).1) (fun n ns q => (F.exc hh c2).2 n ns q) k3 g3 g4 (by rw [F.N]; exact ixB_ok v1) (by rw [F.sc]; exact visB_ok v2) (nmB_ok v3).1 (nmB_ok v3).2 hx
          (fun W' pn xe tk hp => chkSs_ok mb (F.trN hh pn xe tk hp) _ h7) (chkSs_ok els F _ h8)
      · refine ⟨fun pins s σ H D I ⟨σv, h, rs, rh, z⟩ => ?_⟩
        simp only [wpS] at z
        exfalso
        obtain ⟨z, _⟩ := z
        unfold excN at z
        split at z
        · rename_i n ns e
          exact hx ⟨n, ns, e⟩
        · exact z
    · cases h
  | .try_ _ .nil _, Γ, cp, X, W, F, s, h => by unfold chkS at h; cases h
  | .try_ _ (.cons _ _ _ (.cons _ _ _ _)) _, Γ, cp, X, W, F, s, h => by unfold chkS at h; cases h
  | .try_ _ (.cons _ _ _ .nil) (.cons _ _), Γ, cp, X, W, F, s, h => by unfold chkS at h; cases h
  | .frz _, Γ, cp, X, W, F, s, h => by unfold chkS at h; cases h
theorem chkSs_ok : ∀ (m : Ss) {Γ : Gam} {cp : CP} {X : Ctx} {W : WX} (F : Fit X W Γ T cp) (s : List Stmt), chkSs cp m s = true → PSs X s (tSs Γ T X.K W m)
  | .nil, Γ, cp, X, W, F, [], h => s_snil
  | .nil, Γ, cp, X, W, F, _ :: _, h => by unfold chkSs at h; cases h
  | .cons m ms, Γ, cp, X, W, F, ss, h => by
    by_cases q : ∃ i, m = .frz i
    · obtain ⟨i, rfl⟩ := q
      unfold chkSs at h
      exact s_sfrz F.L (chkSs_ok ms F _ h)
    · cases ss with
      | nil => cases m <;> first | (exact (q ⟨_, rfl⟩).elim) | (unfold chkSs at h; cases h)
      | cons s ss =>
        have h' : (chkS cp m s && chkSs cp ms ss) = true := by
          cases m <;> first | (exact (q ⟨_, rfl⟩).elim) | (unfold chkSs at h; exact h)
        obtain ⟨h1, h2⟩ := ba h'
        exact s_scons F.L (chkS_ok m F _ h1) (chkSs_ok ms F _ h2)
end
end MP
end
section
set_option maxHeartbeats 2000000
/-! MpRi: the walk of an exception's own __init__. -/
namespace MP
open PySem PySem.Spec PyProof.Rows L2
def ini1 (mn self x f : Str) (b : List Stmt) : Bool := match b with
  | [.Expr (.Call (.Attribute (.Name m _) i a) [.Name s _, .Constant (.str _) _ _] [] p) _, .Assign [.Attribute (.Name t _) g _] (.Name y _) _] => sq m mn && sq i "__init__" && decide (a.endLine = p.line) && sq s self && sq t self && sq g f && sq y x
  | _ => false
def ini2 (mn self x f x2 f2 : Str) (b : List Stmt) : Bool := match b with
  | [.Expr (.Call (.Attribute (.Name m _) i a) [.Name s _, .Constant (.str _) _ _] [] p) _, .Assign [.Attribute (.Name t _) g _] (.Name y _) _, .Assign [.Attribute (.Name t2 _) g2 _] (.Name y2 _) _] =>
    sq m mn && sq i "__init__" && decide (a.endLine = p.line) && sq s self && sq t self && sq g f && sq y x && sq t2 self && sq g2 f2 && sq y2 x2
  | _ => false
/-- the same over the built-in ValueError -/
def iniV (self x f : Str) (b : List Stmt) : Bool := match b with
  | [.Expr (.Call (.Attribute (.Name m _) i a) [.Name s _, .Name z _] [] p) _, .Assign [.Attribute (.Name t _) g _] (.Name y _) _] => sq m "ValueError" && sq i "__init__" && decide (a.endLine = p.line) && sq s self && sq z x && sq t self && sq g f && sq y x
  | [.Expr (.Call (.Attribute (.Name m _) i a) [.Name s _, .Constant (.str _) _ _] [] p) _, .Assign [.Attribute (.Name t _) g _] (.Name y _) _] => sq m "ValueError" && sq i "__init__" && decide (a.endLine = p.line) && sq s self && sq t self && sq g f && sq y x
  | _ => false
def isVB (b : List Stmt) : Bool := match b with
  | .Expr (.Call (.Attribute (.Name m _) _ _) _ _ _) _ :: _ => sq m "ValueError"
  | _ => false
theorem start_get {N : List Str} {vs : List V} {i : Nat} {v : V} (h : vs[i]? = some v) : (L2.start N vs)[i]? = some (some v) := by
  unfold L2.start
  have hi := (List.getElem?_eq_some_iff.mp h).1
  rw [List.getElem?_append_left (by rw [List.length_map]; exact hi), List.getElem?_map, h]
  rfl
section
variable {X : Cx} {C M : Addr} {mn self x f x2 f2 : Str} {b : List Stmt}
theorem ini1_ok (hg : Gl X mn) (hm : X.mg mn = some (.ref M)) (B : BaseI X.K M) (hmn : nmB mn = true) (T : OexC X.K C) (hf : PySem.W.findIn X.K (.ref C) f = some none)
    (N0 : X.N[0]? = some self) (N1 : X.N[1]? = some x) (v0 : Vis X.env.scope self) (v1 : Vis X.env.scope x) (n0 : nmB self = true) (n1 : nmB x = true) (h : ini1 mn self x f b = true) :
    ∃ t, PSs X b t ∧ ∀ (a : Addr) (w : V) (H : Hp) (D : Ends), H a = some (exo a C none) → (∀ dx H', H dx = none → dx ≠ a → (∀ b, b ≠ a → b ≠ dx → H' b = H b) → H' a = some (exo a C (some dx)) → H' dx = some (exd dx [(f, w)]) → D.nx (L2.start X.N [.ref a, w]) H') → t D (L2.start X.N [.ref a, w]) H := by
  unfold ini1 at h
  split at h
  · simp only [Bool.and_eq_true, decide_eq_true_eq] at h
    obtain ⟨⟨⟨⟨⟨⟨h1, h2⟩, h3⟩, h4⟩, h5⟩, h6⟩, h7⟩ := h
    obtain rfl := sq_ok h1
    obtain rfl := sq_ok h2
    obtain rfl := sq_ok h4
    obtain rfl := sq_ok h5
    obtain rfl := sq_ok h6
    obtain rfl := sq_ok h7
    have s0 := fun p => pe_var (X := X) (pos := p) N0 v0 (nmB_ok n0).1 (nmB_ok n0).2
    have s1 := fun p => pe_var (X := X) (pos := p) N1 v1 (nmB_ok n1).1 (nmB_ok n1).2
    refine ⟨_, pss_cons (ps_expr (pe_minit hg hm B (nmB_ok hmn).1 (pa_cons (s0 _) (pa_cons pe_str pa_nil rfl) rfl) (mcall_eq (abB_ok rfl _ _ _) rfl (by rw [h3, beq_self_eq_true])) rfl rfl) rfl) (pss_cons (ps_ost (s0 _) (s1 _) rfl) pss_nil), fun a w H D ha hD => ?_⟩
    refine ⟨.ref a, start_get rfl, a, C, [.str _], rfl, by show 1 ≤ 1000; omega, T, ha, w, start_get rfl, .ref a, start_get rfl, a, C, rfl, T, hf, .inl ⟨ha, fun dx hdx hne => ?_⟩⟩
    exact hD dx _ hdx hne (fun b hb hb2 => by rw [upd_ne hb, upd_ne hb2]) upd_same (by rw [upd_ne hne]; exact upd_same)
  · cases h
theorem cls_ve (K : PySem.W.Frag) : PySem.W.findCls K (.type "ValueError") (.type "type") "__init__" = some (.val (.builtin "ValueError.__init__")) := by
  rfl
theorem iniV_ok (hg : Gl X "ValueError") (hm : X.mg "ValueError" = none) (T : OexC X.K C) (hf : PySem.W.findIn X.K (.ref C) f = some none)
    (N0 : X.N[0]? = some self) (N1 : X.N[1]? = some x) (v0 : Vis X.env.scope self) (v1 : Vis X.env.scope x) (n0 : nmB self = true) (n1 : nmB x = true) (h : iniV self x f b = true) :
    ∃ t, PSs X b t ∧ ∀ (a : Addr) (w : V) (H : Hp) (D : Ends), H a = some (exo a C none) → (∀ dx H', H dx = none → dx ≠ a → (∀ b, b ≠ a → b ≠ dx → H' b = H b) → H' a = some (exo a C (some dx)) → H' dx = some (exd dx [(f, w)]) → D.nx (L2.start X.N [.ref a, w]) H') → t D (L2.start X.N [.ref a, w]) H := by
  have s0 := fun p => pe_var (X := X) (pos := p) N0 v0 (nmB_ok n0).1 (nmB_ok n0).2
  have s1 := fun p => pe_var (X := X) (pos := p) N1 v1 (nmB_ok n1).1 (nmB_ok n1).2
  unfold iniV at h
  split at h
  · simp only [Bool.and_eq_true, decide_eq_true_eq] at h
    obtain ⟨⟨⟨⟨⟨⟨⟨h1, h2⟩, h3⟩, h4⟩, h5⟩, h6⟩, h7⟩, h8⟩ := h
    obtain rfl := sq_ok h1
    obtain rfl := sq_ok h2
    obtain rfl := sq_ok h4
    obtain rfl := sq_ok h5
    obtain rfl := sq_ok h6
    obtain rfl := sq_ok h7
    obtain rfl := sq_ok h8
    refine ⟨_, pss_cons (ps_expr (pe_veinit hg hm (cls_ve _) (pa_cons (s0 _) (pa_cons (s1 _) pa_nil rfl) rfl) (mcall_eq (abB_ok rfl _ _ _) rfl (by rw [h3, beq_self_eq_true])) rfl rfl) rfl) (pss_cons (ps_ost (s0 _) (s1 _) rfl) pss_nil), fun a w H D ha hD => ?_⟩
    refine ⟨.ref a, start_get rfl, w, start_get rfl, a, C, [w], rfl, by show 1 ≤ 1000; omega, T, ha, w, start_get rfl, .ref a, start_get rfl, a, C, rfl, T, hf, .inl ⟨ha, fun dx hdx hne => ?_⟩⟩
    exact hD dx _ hdx hne (fun b hb hb2 => by rw [upd_ne hb, upd_ne hb2]) upd_same (by rw [upd_ne hne]; exact upd_same)
  · simp only [Bool.and_eq_true, decide_eq_true_eq] at h
    obtain ⟨⟨⟨⟨⟨⟨h1, h2⟩, h3⟩, h4⟩, h5⟩, h6⟩, h7⟩ := h
    obtain rfl := sq_ok h1
    obtain rfl := sq_ok h2
    obtain rfl := sq_ok h4
    obtain rfl := sq_ok h5
    obtain rfl := sq_ok h6
    obtain rfl := sq_ok h7
    refine ⟨_, pss_cons (ps_expr (pe_veinit hg hm (cls_ve _) (pa_cons (s0 _) (pa_cons pe_str pa_nil rfl) rfl) (mcall_eq (abB_ok rfl _ _ _) rfl (by rw [h3, beq_self_eq_true])) rfl rfl) rfl) (pss_cons (ps_ost (s0 _) (s1 _) rfl) pss_nil), fun a w H D ha hD => ?_⟩
    refine ⟨.ref a, start_get rfl, a, C, [.str _], rfl, by show 1 ≤ 1000; omega, T, ha, w, start_get rfl, .ref a, start_get rfl, a, C, rfl, T, hf, .inl ⟨ha, fun dx hdx hne => ?_⟩⟩
    exact hD dx _ hdx hne (fun b hb hb2 => by rw [upd_ne hb, upd_ne hb2]) upd_same (by rw [upd_ne hne]; exact upd_same)
  · cases h
theorem ini2_ok (hg : Gl X mn) (hm : X.mg mn = some (.ref M)) (B : BaseI X.K M) (hmn : nmB mn = true) (T : OexC X.K C) (hf : PySem.W.findIn X.K (.ref C) f = some none) (hf2 : PySem.W.findIn X.K (.ref C) f2 = some none)
    (N0 : X.N[0]? = some self) (N1 : X.N[1]? = some x) (N2 : X.N[2]? = some x2) (v0 : Vis X.env.scope self) (v1 : Vis X.env.scope x) (v2 : Vis X.env.scope x2) (n0 : nmB self = true) (n1 : nmB x = true) (n2 : nmB x2 = true) (h : ini2 mn self x f x2 f2 b = true) :
    ∃ t, PSs X b t ∧ ∀ (a : Addr) (w w2 : V) (H : Hp) (D : Ends), H a = some (exo a C none) → (∀ dx H', H dx = none → dx ≠ a → (∀ b, b ≠ a → b ≠ dx → H' b = H b) → H' a = some (exo a C (some dx)) → H' dx = some (exd dx [(f2, w2), (f, w)]) → D.nx (L2.start X.N [.ref a, w, w2]) H') → t D (L2.start X.N [.ref a, w, w2]) H := by
  unfold ini2 at h
  split at h
  · simp only [Bool.and_eq_true, decide_eq_true_eq] at h
    obtain ⟨⟨⟨⟨⟨⟨⟨⟨⟨h1, h2⟩, h3⟩, h4⟩, h5⟩, h6⟩, h7⟩, h8⟩, h9⟩, h10⟩ := h
    obtain rfl := sq_ok h1
    obtain rfl := sq_ok h2
    obtain rfl := sq_ok h4
    obtain rfl := sq_ok h5
    obtain rfl := sq_ok h6
    obtain rfl := sq_ok h7
    obtain rfl := sq_ok h8
    obtain rfl := sq_ok h9
    obtain rfl := sq_ok h10
    have s0 := fun p => pe_var (X := X) (pos := p) N0 v0 (nmB_ok n0).1 (nmB_ok n0).2
    have s1 := fun p => pe_var (X := X) (pos := p) N1 v1 (nmB_ok n1).1 (nmB_ok n1).2
    have s2 := fun p => pe_var (X := X) (pos := p) N2 v2 (nmB_ok n2).1 (nmB_ok n2).2
    refine ⟨_, pss_cons (ps_expr (pe_minit hg hm B (nmB_ok hmn).1 (pa_cons (s0 _) (pa_cons pe_str pa_nil rfl) rfl) (mcall_eq (abB_ok rfl _ _ _) rfl (by rw [h3, beq_self_eq_true])) rfl rfl) rfl) (pss_cons (ps_ost (s0 _) (s1 _) rfl) (pss_cons (ps_ost (s0 _) (s2 _) rfl) pss_nil)), fun a w w2 H D ha hD => ?_⟩
    refine ⟨.ref a, start_get rfl, a, C, [.str _], rfl, by show 1 ≤ 1000; omega, T, ha, w, start_get rfl, .ref a, start_get rfl, a, C, rfl, T, hf, .inl ⟨ha, fun dx hdx hne => ?_⟩⟩
    refine ⟨w2, start_get rfl, .ref a, start_get rfl, a, C, rfl, T, hf2, .inr ⟨dx, _, upd_same, by rw [upd_ne hne]; exact upd_same, by show 1 ≤ 900; omega, ?_⟩⟩
    exact hD dx _ hdx hne (fun b hb hb2 => by rw [upd_ne hb2, upd_ne hb, upd_ne hb2]) (by rw [upd_ne (Ne.symm hne)]; exact upd_same) upd_same
  · cases h
end
end MP
end
section
set_option maxHeartbeats 4000000
/-! MpS: programs; what their functions do keeps their promises. -/
namespace MP
open PySem PySem.Spec PyProof.Rows L2
/-! ### binding -/
theorem lookup_zip {x : Str} : ∀ {ps : List Str} {us : List Value}, us.length = ps.length → x ∈ ps → ((ps.zip us).lookup x).isSome = true
  | [], _, _, h => by cases h
  | p :: ps, [], hl, _ => by simp at hl
  | p :: ps, u :: us, hl, h => by
    rw [List.zip_cons_cons, List.lookup_cons]
    by_cases e : x = p
    · subst e; simp
    · have : (x == p) = false := by simpa using e
      rw [this]
      rcases List.mem_cons.mp h with e' | h
      · exact (e e').elim
      · exact lookup_zip (Nat.succ.inj hl) h
theorem zip_back : ∀ {ps : List Str} {us : List Value} (all : List (Str × Value)), us.length = ps.length → (∀ q ∈ ps.zip us, all.lookup q.1 = some q.2) → (ps.filterMap fun n => (all.lookup n).map (n, ·)) = ps.zip us
  | [], [], _, _, _ => rfl
  | [], _ :: _, _, hl, _ => by simp at hl
  | p :: ps, [], _, hl, _ => by simp at hl
  | p :: ps, u :: us, all, hl, h => by
    have h1 := h (p, u) List.mem_cons_self
    rw [List.filterMap_cons]
    simp only at h1
    rw [h1]
    exact congrArg ((p, u) :: ·) (zip_back all (Nat.succ.inj hl) fun q hq => h q (List.mem_cons_of_mem _ hq))
theorem zip_look : ∀ {ps : List Str} {us : List Value}, ps.Nodup → ∀ q ∈ ps.zip us, (ps.zip us).lookup q.1 = some q.2
  | [], _, _, q, h => by simp at h
  | p :: ps, [], _, q, h => by simp at h
  | p :: ps, u :: us, nd, q, h => by
    rw [List.zip_cons_cons, List.lookup_cons]
    rcases List.mem_cons.mp (show q ∈ (p, u) :: ps.zip us from h) with rfl | h
    · simp
    · have hm := (List.of_mem_zip (a := q.1) (b := q.2) h).1
      have : q.1 ≠ p := by rintro e; rw [e] at hm; exact (List.nodup_cons.mp nd).1 hm
      have : (q.1 == p) = false := by simpa using this
      rw [this]
      exact zip_look (List.nodup_cons.mp nd).2 q h
theorem bind_plain {x qual : Str} {p : Arguments} {body : List Stmt} {scope : Scope} {kV doc pm : Value} {an : Option Addr} {cdv ct : Value} {ps : List Str} {us : List Value} (hp : p.posonlyargs = []) (hv : p.vararg = none) (hk : p.kwonlyargs = []) (hw : p.kwarg = none) (ha : p.args.map (·.arg) = ps) (nd : ps.Nodup) (hl : us.length = ps.length) :
    bindArgs (PySem.W.fnOf x qual p body scope .none kV doc pm an cdv ct) ⟨us, []⟩ = pure (ps.zip us) := by
  have e1 : ps.filter (fun n => ((ps.zip us).lookup n).isNone) = [] := by
    rw [List.filter_eq_nil_iff]
    intro a h
    have := lookup_zip hl h
    cases q : (ps.zip us).lookup a with
    | none => rw [q] at this; cases this
    | some v => simp
  have e2 := zip_back (ps.zip us) hl (zip_look nd)
  unfold bindArgs
  unfold PySem.W.fnOf
  dsimp only
  rw [hp, hv, hk, hw, ha]
  simp [seqItems?, notAStandIn, hl, e1, e2]

theorem dfl_drop {qs : List Str} {z : Str} {d : Value} : ((qs ++ [z]).drop ((qs ++ [z]).length - (1 - (1 - (qs ++ [z]).length)))).zip (List.drop (1 - (qs ++ [z]).length) [d]) = [(z, d)] := by
  have e : 1 - (qs ++ [z]).length = 0 := by rw [List.length_append, List.length_singleton]; omega
  rw [e, List.length_append, List.length_singleton, show qs.length + 1 - (1 - 0) = qs.length by omega, List.drop_left]
  rfl
theorem bind_dfl {x qual : Str} {p : Arguments} {body : List Stmt} {scope : Scope} {T : Addr} {kV doc pm : Value} {an : Option Addr} {cdv ct : Value} {qs : List Str} {z : Str} {us : List Value} {d : Value} (hp : p.posonlyargs = []) (hv : p.vararg = none) (hk : p.kwonlyargs = []) (hw : p.kwarg = none) (ha : p.args.map (·.arg) = qs ++ [z]) (nd : (qs ++ [z]).Nodup) (hl : us.length = (qs ++ [z]).length) :
    ∃ k, bindArgs (PySem.W.fnOf x qual p body scope (.ref T) kV doc pm an cdv ct) ⟨us, []⟩ = seqItems? (.ref T) >>= k ∧ k (some #[d]) = pure ((qs ++ [z]).zip us) := by
  have e1 : ∀ n, ((qs ++ [z]).take n).filter (fun n => (((qs ++ [z]).zip us).lookup n).isNone) = [] := fun n => by
    rw [List.filter_eq_nil_iff]
    intro a h
    have := lookup_zip hl (List.mem_of_mem_take h)
    cases q : ((qs ++ [z]).zip us).lookup a with
    | none => rw [q] at this; cases this
    | some v => simp
  have e2 := zip_back ((qs ++ [z]).zip us) hl (zip_look nd)
  have e3 : (((qs ++ [z]).zip us).lookup z).isNone = false := by
    have := lookup_zip hl (show z ∈ qs ++ [z] by simp)
    cases q : ((qs ++ [z]).zip us).lookup z with
    | none => rw [q] at this; cases this
    | some v => rfl
  have e4 := dfl_drop (qs := qs) (z := z) (d := d)
  unfold bindArgs
  unfold PySem.W.fnOf
  dsimp only
  rw [hp, hv, hk, hw, ha]
  refine ⟨_, rfl, ?_⟩
  generalize hps : qs ++ [z] = ps at *
  simp [notAStandIn, hl, e1, e2, e4, e3]
theorem bind_dfl1 {x qual : Str} {p : Arguments} {body : List Stmt} {scope : Scope} {T : Addr} {kV doc pm : Value} {an : Option Addr} {cdv ct : Value} {qs : List Str} {z : Str} {us : List Value} {d : Value} (hp : p.posonlyargs = []) (hv : p.vararg = none) (hk : p.kwonlyargs = []) (hw : p.kwarg = none) (ha : p.args.map (·.arg) = qs ++ [z]) (nd : (qs ++ [z]).Nodup) (hl : us.length = qs.length) :
    ∃ k, bindArgs (PySem.W.fnOf x qual p body scope (.ref T) kV doc pm an cdv ct) ⟨us, []⟩ = seqItems? (.ref T) >>= k ∧ k (some #[d]) = pure ((qs ++ [z]).zip (us ++ [d])) := by
  have hz : (qs ++ [z]).zip us = qs.zip us := by
    have : (qs ++ [z]).zip (us ++ []) = qs.zip us ++ [z].zip [] := List.zip_append hl.symm
    simpa using this
  have hz2 : (qs ++ [z]).zip (us ++ [d]) = (qs ++ [z]).zip us ++ [(z, d)] := by
    rw [List.zip_append hl.symm, hz]
    rfl
  have hl2 : (us ++ [d]).length = (qs ++ [z]).length := by simp [hl]
  have e1 : ((qs ++ [z]).take qs.length).filter (fun n => (((qs ++ [z]).zip us).lookup n).isNone) = [] := by
    rw [List.take_left, List.filter_eq_nil_iff, hz]
    intro a h
    have := lookup_zip hl h
    cases q : (qs.zip us).lookup a with
    | none => rw [q] at this; cases this
    | some v => simp
  have e2 := zip_back ((qs ++ [z]).zip (us ++ [d])) hl2 (zip_look nd)
  have hzn : z ∉ qs := by
    have := List.nodup_append.mp nd
    intro h
    exact this.2.2 z h z (by simp) rfl
  have e3 : (((qs ++ [z]).zip us).lookup z).isNone = true := by
    rw [hz]
    cases q : (qs.zip us).lookup z with
    | none => rfl
    | some v => exact absurd (List.of_mem_zip (PySem.mem_of_lookup q)).1 hzn
  have e4 : ((qs ++ [z]).drop qs.length).zip [d] = [(z, d)] := by rw [List.drop_left]; rfl
  have f0 : (qs ++ [z]).length = qs.length + 1 := by simp
  rw [hz2] at e2 ⊢
  unfold bindArgs
  unfold PySem.W.fnOf
  dsimp only
  rw [hp, hv, hk, hw, ha]
  refine ⟨_, rfl, ?_⟩
  clear hz hz2 hl2 ha nd hzn
  generalize qs ++ [z] = ps at *
  generalize qs.length = n at *
  simp [notAStandIn, hl, f0, e1, e2, e3, e4]
  intro h
  omega
/-! ### programs -/
/-- a function: its number of parameters, of names, its body; a class: the making of an instance -/
inductive FD where
  | fn (n N : Nat) (body : Ss) (lam : Bool := false)
  | mk (c i : String)
structure Prog where
  fn : String → Option FD
  con : String → Option Val
  mth : String → String → Option String
  sub : String → String → Option Bool
  exc : String → Option (List String)
  isi : String → List String → Option Bool
  fld : String → String → Bool
  dfl : String → Option Int := fun _ => none
def Prog.gam (P : Prog) (call : String → List Val → VH → KV → KX → Prop) : Gam := ⟨P.con, call, P.mth, P.sub, P.exc, none, P.isi, P.fld⟩
/-- a call, at most d calls deep; a function that makes lambdas counts two -/
def Sem (P : Prog) : Nat → String → List Val → VH → KV → KX → Prop
  | 0, _, _, _, _, _ => False
  | d + 1, f, vs, h, Q, X => match P.fn f with
    | some (.fn n N body false) => vs.length = n ∧ wpSs (P.gam (Sem P d)) body (vs.map some ++ List.replicate (N - vs.length) none) h ⟨fun _ h => Q .non h, Q, fun e _ h => X e h⟩
    | some (.fn n N body true) => vs.length = n ∧ (match d with
      | 0 => False
      | e + 1 => wpSs (P.gam (Sem P e)) body (vs.map some ++ List.replicate (N - vs.length) none) h ⟨fun _ h => Q .non h, Q, fun e _ h => X e h⟩)
    | some (.mk c i) => ∀ p, h p = none → Sem P d i (.ref p :: vs) (up h p (.ins c [])) (fun v h' => v = .non ∧ Q (.ref p) h') X
    | none => False
theorem Sem_fnE {P : Prog} {d : Nat} {f : String} {n N : Nat} {body : Ss} (e : P.fn f = some (.fn n N body false)) {vs : List Val} {h : VH} {Q : KV} {X : KX} : Sem P (d + 1) f vs h Q X = (vs.length = n ∧ wpSs (P.gam (Sem P d)) body (vs.map some ++ List.replicate (N - vs.length) none) h ⟨fun _ h => Q .non h, Q, fun e _ h => X e h⟩) := by
  rw [Sem, e]
theorem Sem_fnL {P : Prog} {d : Nat} {f : String} {n N : Nat} {body : Ss} (e : P.fn f = some (.fn n N body true)) {vs : List Val} {h : VH} {Q : KV} {X : KX} : Sem P (d + 2) f vs h Q X = (vs.length = n ∧ wpSs (P.gam (Sem P d)) body (vs.map some ++ List.replicate (N - vs.length) none) h ⟨fun _ h => Q .non h, Q, fun e _ h => X e h⟩) := by
  rw [Sem, e]
theorem Sem_fnO {P : Prog} {f : String} {n N : Nat} {body : Ss} (e : P.fn f = some (.fn n N body true)) {vs : List Val} {h : VH} {Q : KV} {X : KX} : Sem P 1 f vs h Q X → False := by
  rw [Sem, e]
  exact fun z => z.2
theorem Sem_mkE {P : Prog} {d : Nat} {f : String} {c i : String} (e : P.fn f = some (.mk c i)) {vs : List Val} {h : VH} {Q : KV} {X : KX} : Sem P (d + 1) f vs h Q X = ∀ p, h p = none → Sem P d i (.ref p :: vs) (up h p (.ins c [])) (fun v h' => v = .non ∧ Q (.ref p) h') X := by
  rw [Sem, e]
theorem Sem_noE {P : Prog} {d : Nat} {f : String} (e : P.fn f = none) {vs : List Val} {h : VH} {Q : KV} {X : KX} (z : Sem P (d + 1) f vs h Q X) : False := by
  rw [Sem, e] at z
  exact z
/-- the number of parameters -/
theorem Sem_len {P : Prog} {d : Nat} {f : String} {n N : Nat} {body : Ss} {b : Bool} (e : P.fn f = some (.fn n N body b)) {vs : List Val} {h : VH} {Q : KV} {X : KX} (z : Sem P d f vs h Q X) : vs.length = n := by
  cases d with
  | zero => exact z.elim
  | succ d =>
    cases b with
    | false => rw [Sem_fnE e] at z; exact z.1
    | true =>
      cases d with
      | zero => exact (Sem_fnO e z).elim
      | succ d => rw [Sem_fnL e] at z; exact z.1
theorem Sem.mono (P : Prog) (d : Nat) (f : String) (vs : List Val) (h : VH) (Q Q' : KV) (X X' : KX) (H : ∀ v h, Q v h → Q' v h) (HX : ∀ e h, X e h → X' e h) (w : Sem P d f vs h Q X) : Sem P d f vs h Q' X' := by
  induction d using Nat.strongRecOn generalizing f vs h Q Q' X X' with
  | ind d ih =>
    cases d with
    | zero => exact w
    | succ d =>
      have L : ∀ e, e < d + 1 → Le (P.gam (Sem P e)) (P.gam (Sem P e)) := fun e he => ⟨rfl, rfl, rfl, rfl, rfl, rfl, rfl, fun f vs h Q Q' X X' H HX w => ih e he f vs h Q Q' X X' H HX w⟩
      cases e : P.fn f with
      | none => exact (Sem_noE e w).elim
      | some fd =>
        cases fd with
        | fn n N body b =>
          cases b with
          | false =>
            rw [Sem_fnE e] at w ⊢
            exact ⟨w.1, wpSs_mono (L d (by omega)) body _ _ _ _ ⟨fun _ _ z => H _ _ z, fun _ _ z => H _ _ z, fun _ _ _ z => HX _ _ z⟩ w.2⟩
          | true =>
            cases d with
            | zero => exact (Sem_fnO e w).elim
            | succ d =>
              rw [Sem_fnL e] at w ⊢
              exact ⟨w.1, wpSs_mono (L d (by omega)) body _ _ _ _ ⟨fun _ _ z => H _ _ z, fun _ _ z => H _ _ z, fun _ _ _ z => HX _ _ z⟩ w.2⟩
        | mk c i =>
          rw [Sem_mkE e] at w ⊢
          exact fun p hp => ih d (by omega) i _ _ _ _ _ _ (fun v h z => ⟨z.1, H _ _ z.2⟩) HX (w p hp)
theorem Sem.le (P : Prog) (d : Nat) : Le (P.gam (Sem P d)) (P.gam (Sem P d)) := ⟨rfl, rfl, rfl, rfl, rfl, rfl, rfl, fun f vs h Q Q' X X' H HX w => Sem.mono P d f vs h Q Q' X X' H HX w⟩
/-- deeper is no less -/
theorem Sem.succ (P : Prog) (d : Nat) (f : String) (vs : List Val) (h : VH) (Q : KV) (X : KX) (w : Sem P d f vs h Q X) : Sem P (d + 1) f vs h Q X := by
  induction d using Nat.strongRecOn generalizing f vs h Q X with
  | ind d ih =>
    cases d with
    | zero => exact w.elim
    | succ d =>
      have L : ∀ e, e < d + 1 → Le (P.gam (Sem P e)) (P.gam (Sem P (e + 1))) := fun e he => ⟨rfl, rfl, rfl, rfl, rfl, rfl, rfl, fun f vs h Q Q' X X' H HX w => ih e he f vs h Q' X' (Sem.mono P e f vs h Q Q' X X' H HX w)⟩
      cases e : P.fn f with
      | none => exact (Sem_noE e w).elim
      | some fd =>
        cases fd with
        | fn n N body b =>
          cases b with
          | false =>
            rw [Sem_fnE e] at w ⊢
            exact ⟨w.1, wpSs_mono (L d (by omega)) body _ _ _ _ ⟨fun _ _ z => z, fun _ _ z => z, fun _ _ _ z => z⟩ w.2⟩
          | true =>
            cases d with
            | zero => exact (Sem_fnO e w).elim
            | succ d =>
              rw [Sem_fnL e] at w ⊢
              exact ⟨w.1, wpSs_mono (L d (by omega)) body _ _ _ _ ⟨fun _ _ z => z, fun _ _ z => z, fun _ _ _ z => z⟩ w.2⟩
        | mk c i =>
          rw [Sem_mkE e] at w ⊢
          exact fun p hp => ih d (by omega) i _ _ _ _ (w p hp)
theorem Sem.up {P : Prog} {d e : Nat} (l : d ≤ e) {f : String} {vs : List Val} {h : VH} {Q : KV} {X : KX} (w : Sem P d f vs h Q X) : Sem P e f vs h Q X := by
  induction l with
  | refl => exact w
  | step _ ih => exact Sem.succ P _ _ _ _ _ _ ih

/-! ### what must be known of the program's place -/
/-- the code object of a written def -/
def cdOf (K : Frag) (f : Addr) : Option Value := match K.lookup f with
  | some ⟨_, _, .func fd, _⟩ => some fd.code
  | _ => none
def lvl (b : Bool) : Nat := if b = true then 2 else 0
structure Good (P : Prog) (T : Tb) (K : Frag) (mg : Str → Option Value) (gl : List (Str × GK)) (nl nm : List String) : Prop where
  fn : ∀ l n N m b, P.fn l = some (.fn n N m b) → ∃ (x qual : Str) (params : Arguments) (body : List Stmt) (sc : Scope) (fd : FuncData) (names : List Str) (dvs : List V),
    FunD K x qual params body sc dvs [] (T.fn l) fd ∧ FnScope names (names.take n) sc ∧ n ≤ N ∧ names.length = N ∧ (Binds K fd (names.take n) [] ∧ (P.dfl l = none → ∀ (s : Shared) (us : List Value), us.length = (names.take n).length → BindsTo s fd ⟨us, []⟩ ((names.take n).zip us)) ∧ ∀ v, P.dfl l = some v → ∃ t : Tok, Binds K fd (names.take n) [.int v t]) ∧ chkSs ⟨names, sc, none, gl, false, none, lvl b, decide (l ∈ nl), nl, nm, true⟩ m body = true ∧
      (b = true → ∃ c Pt : Addr, cdOf K (T.fn l) = some (.ref c) ∧ (c, Pt) ∈ T.cps ∧ (Pt, (qual ++ ".<locals>.") ++ "<lambda>") ∈ T.tabs ∧ ∀ p ∈ T.tabs, p.1 = Pt → p.2 = (qual ++ ".<locals>.") ++ "<lambda>")
  mkc : ∀ l c i, P.fn l = some (.mk c i) → (∃ n N m b, P.fn i = some (.fn n N m b)) ∧ Mk K (T.fn l) (T.fn i) ∧ T.cls c = T.fn l ∧ Cls K (T.cls c) ∧ bltTy c = false
  gl : ∀ x g, glk gl x = some g → (match g with
    | .blt => mg x = none
    | .fn l => mg x = some (.ref (T.fn l)) ∧ (P.fn l).isSome = true
    | .con y => ∃ v u val, mg x = some u ∧ RelV v u ∧ P.con y = some val ∧ ∀ H, RV T K H val v
    | .cls c => mg x = some (.ref (T.cls c)) ∧ bltTy c = false
    | .no => True
    | .key l => mg x = some (.ref (T.fn l)) ∧ ∃ n N m b, P.fn l = some (.fn n N m b)
    | .fnd l v => mg x = some (.ref (T.fn l)) ∧ (∃ n N m b, P.fn l = some (.fn n N m b)) ∧ P.dfl l = some v)
  mth : ∀ c m l, P.mth c m = some l → Meth K (T.cls c) (Str.ofString m) (T.fn l) ∧ (P.fn l).isSome = true
  isi : ∀ call, IsiOk (P.gam call) T K
  fld : ∀ c f, P.fld c f = true → NoAttr K (T.cls c) (Str.ofString f)
  exc0 : ∀ c, P.exc c = some [] → Exc0 K (T.cls c)
  nls : ∀ l ∈ nl, (P.fn l).isSome = true
  nmk : ∀ l c i, P.fn l = some (.mk c i) → l ∈ nl → i ∈ nl
  nmt : ∀ m ∈ nm, ∀ c l, P.mth c m = some l → l ∈ nl
  excI : ∀ c n ns, P.exc c = some (n :: ns) → OexC K (T.cls c) ∧ ∃ (fd : FuncData) (ps : List Str) (fI : Addr), PySem.W.findIn K (.ref (T.cls c)) "__init__" = some (some (.ref fI)) ∧ PySem.W.typeIn K (.ref fI) = some (.type "function") ∧ Binds K fd ps [] ∧
    ∀ (prog : Program) (w : World) (base : Heap), FnOk prog w K mg base (L2.CX prog w) 1 fI fd ps (initSp (T.cls c) (n :: ns)) ∧ L2H.FnH prog w K mg base (L2.CX prog w) 1 fI fd ps (initSp (T.cls c) (n :: ns))
  xff : ∀ c ns, P.exc c = some ns → ∀ f ∈ ns, XfC K (T.cls c) ∧ PySem.W.findIn K (.ref (T.cls c)) (Str.ofString f) = some none
  sub : ∀ e c b, P.sub e c = some b → PySem.W.exmOne K (.ref (T.cls e)) (cv T c) = some b ∧ PySem.W.kitOne K (.ref (T.cls e)) (cv T c) = some b ∧ ExcC K (T.cls e)
section
variable {P : Prog} {T : Tb} {K : Frag} {mg : Str → Option Value} {gl : List (Str × GK)} {nl nm : List String} {prog : Program} {w : World} {base : Heap}
/-- every function keeps its promise at a depth -/
def AllOk (P : Prog) (T : Tb) (K : Frag) (mg : Str → Option Value) (nl : List String) (prog : Program) (w : World) (base : Heap) (d : Nat) : Prop := ∀ l n N m b, P.fn l = some (.fn n N m b) → ∃ (fd : FuncData) (ps : List Str), ps.length = n ∧ Binds K fd ps [] ∧ PySem.W.keepIn K (.ref (T.fn l)) = true ∧ (∀ v, P.dfl l = some v → ∃ t : Tok, Binds K fd ps [.int v t]) ∧
  FnOk prog w K mg base (L2.CX prog w) (d + 2) (T.fn l) fd ps (spc (P.gam (Sem P d)) T K l ps.length) ∧ (l ∈ nl → FnOk prog w K mg base (L2N.CX prog w) (d + 2) (T.fn l) fd ps (spc (P.gam (Sem P d)) T K l ps.length))
theorem RS.init {T : Tb} {K : Frag} {H : Hp} {N : List Str} : ∀ {vals : List Val} {vs : List V}, RVs T K H vals vs → RS T K H (vals.map some ++ List.replicate (N.length - vals.length) none) (L2.start N vs) := by
  intro vals vs r
  have hl := r.length
  refine ⟨by unfold L2.start; rw [List.length_append, List.length_append, List.length_map, List.length_map, List.length_replicate, List.length_replicate, hl], fun i x e => ?_⟩
  have key : ∀ (vals : List Val) (k i : Nat) (x : Val), sget (vals.map some ++ List.replicate k none) i = some x → vals[i]? = some x := by
    intro vals
    induction vals with
    | nil =>
      intro k
      induction k with
      | zero => intro i x e; cases e
      | succ k ih =>
        intro i x e
        cases i with
        | zero => cases e
        | succ i => exact absurd (ih i x e) (by simp)
    | cons v r ih =>
      intro k i x e
      cases i with
      | zero => cases e; rfl
      | succ i => exact ih k i x e
  have hx := key _ _ _ _ e
  obtain ⟨v, hv, rv⟩ := r.get hx
  refine ⟨v, ?_, rv⟩
  unfold L2.start
  have hi := (List.getElem?_eq_some_iff.mp hv).1
  rw [List.getElem?_append_left (by rw [List.length_map]; exact hi), List.getElem?_map, hv]
  rfl
theorem fok_of (G : Good P T K mg gl nl nm) {d : Nat} (ih : AllOk P T K mg nl prog w base d) (ihp : ∀ e, d = e + 1 → AllOk P T K mg nl prog w base e) {X : Ctx} (h1 : X.prog = prog) (h2 : X.w = w) (h3 : X.K = K) (h4 : X.mg = mg) (h5 : X.base = base) (hr : Room (d + 2) X.A) {l : String} (hl : (P.fn l).isSome = true)
    (kp : ∀ c i, P.fn l = some (.mk c i) → PySem.W.keepIn K (.ref (T.fn l)) = true) : FOk X (P.gam (Sem P d)) T l := by
  cases e : P.fn l with
  | none => rw [e] at hl; cases hl
  | some fd =>
    cases fd with
    | fn n N m b =>
      obtain ⟨fd, ps, q1, q2, q3, qd, q4, qn⟩ := ih l n N m b e
      refine ⟨.inl ⟨d + 2, fd, ps, by rw [h1, h2, h3, h4, h5]; exact q4, hr, by rw [h3]; exact q2, fun vals h Q E z => ?_⟩, by rw [h3]; exact q3⟩
      rw [q1]
      exact Sem_len e z
    | mk c i =>
      obtain ⟨⟨n, N, m, b, ei⟩, M, c1, c2, c3⟩ := G.mkc l c i e
      refine ⟨.inr ?_, by rw [h3]; exact kp c i e⟩
      cases d with
      | zero =>
        obtain ⟨fd, ps, q1, q2, q3, qd, q4, qn⟩ := ih i n N m b ei
        exact ⟨1, fd, ps, T.fn i, c, fun _ _ _ _ => False, by rw [h3]; exact M, ⟨fun _ _ _ _ z => z.elim, fun _ _ _ _ _ _ _ _ _ _ _ _ _ z => z.elim⟩, hr.mono (by omega), by rw [h3]; exact q2, fun vals vs h H Q E _ _ z => z.elim⟩
      | succ d =>
        obtain ⟨fd, ps, q1, q2, q3, qd, q4, qn⟩ := ihp d rfl i n N m b ei
        refine ⟨d + 2, fd, ps, T.fn i, c, _, by rw [h3]; exact M, by rw [h1, h2, h3, h4, h5]; exact q4, hr.mono (by omega), by rw [h3]; exact q2, fun vals vs h H Q E rv rh z x dx hx hd hne => ?_⟩
        have z : Sem P (d + 1) l vals h _ _ := z
        rw [Sem_mkE e] at z
        have l1 : HLe H (upd H dx (.own x)) := .new hd
        have hx' : upd H dx (.own x) x = none := by rw [upd_ne (fun e => hne e.symm)]; exact hx
        have l2 : HLe H (upd (upd H dx (.own x)) x (.ins (T.fn l) dx [])) := l1.trans (.new hx')
        have r1 : RH T K h (upd H dx (.own x)) := (h3 ▸ rh).side hd
        have r2 : RH T K (up h x (.ins c [])) (upd (upd H dx (.own x)) x (.ins (T.fn l) dx [])) := r1.new (x := .ins c []) hx' ⟨⟨dx, [], by rw [c1], rfl⟩, ⟨c2, c3⟩, fun p hp => by cases hp⟩
        have zz := z x (rh.fresh hx)
        have hn : (Val.ref x :: vals).length = n := Sem_len ei zz
        have rv' : RVs T K H vals vs := h3 ▸ rv
        refine ⟨by rw [q1, ← hn, List.length_cons, List.length_cons, rv'.length], .ref x :: vals, _, .cons (rv_ref.mpr rfl) (rv'.le l2), r2, Sem.mono P d i _ _ _ _ _ _ (fun v h' z => ?_) (fun e h' z => ?_) zz⟩
        · obtain ⟨rfl, z⟩ := z
          intro y H' l3 rh' ry
          rw [h3] at z
          exact ⟨rv_non.mp ry, z _ H' (l2.trans l3) rh' (rv_ref.mpr rfl)⟩
        · rw [h3] at z
          exact MP.dx.sh l2 z
theorem fokN_of (G : Good P T K mg gl nl nm) {d : Nat} (ih : AllOk P T K mg nl prog w base d) (ihp : ∀ e, d = e + 1 → AllOk P T K mg nl prog w base e) {X : Ctx} (h1 : X.prog = prog) (h2 : X.w = w) (h3 : X.K = K) (h4 : X.mg = mg) (h5 : X.base = base) (hr : Room (d + 2) X.A) {l : String} (hn : l ∈ nl) (hl : (P.fn l).isSome = true) : FOkN X (P.gam (Sem P d)) T l := by
  cases e : P.fn l with
  | none => rw [e] at hl; cases hl
  | some fd =>
    cases fd with
    | fn n N m b =>
      obtain ⟨fd, ps, q1, q2, q3, qd, q4, qn⟩ := ih l n N m b e
      refine .inl ⟨d + 2, fd, ps, by rw [h1, h2, h3, h4, h5]; exact qn hn, hr, by rw [h3]; exact q2, fun vals h Q E z => ?_⟩
      rw [q1]
      exact Sem_len e z
    | mk c i =>
      obtain ⟨⟨n, N, m, b, ei⟩, M, c1, c2, c3⟩ := G.mkc l c i e
      refine .inr ?_
      cases d with
      | zero =>
        obtain ⟨fd, ps, q1, q2, q3, qd, q4, qn⟩ := ih i n N m b ei
        exact ⟨1, fd, ps, T.fn i, c, fun _ _ _ _ => False, by rw [h3]; exact M, ⟨fun _ _ _ _ z => z.elim, fun _ _ _ _ _ _ _ _ _ _ _ _ _ z => z.elim⟩, hr.mono (by omega), by rw [h3]; exact q2, fun vals vs h H Q E _ _ z => z.elim⟩
      | succ d =>
        obtain ⟨fd, ps, q1, q2, q3, qd, q4, qn⟩ := ihp d rfl i n N m b ei
        refine ⟨d + 2, fd, ps, T.fn i, c, _, by rw [h3]; exact M, by rw [h1, h2, h3, h4, h5]; exact qn (G.nmk l c i e hn), hr.mono (by omega), by rw [h3]; exact q2, fun vals vs h H Q E rv rh z x dx hx hd hne => ?_⟩
        have z : Sem P (d + 1) l vals h _ _ := z
        rw [Sem_mkE e] at z
        have l1 : HLe H (upd H dx (.own x)) := .new hd
        have hx' : upd H dx (.own x) x = none := by rw [upd_ne (fun e => hne e.symm)]; exact hx
        have l2 : HLe H (upd (upd H dx (.own x)) x (.ins (T.fn l) dx [])) := l1.trans (.new hx')
        have r1 : RH T K h (upd H dx (.own x)) := (h3 ▸ rh).side hd
        have r2 : RH T K (up h x (.ins c [])) (upd (upd H dx (.own x)) x (.ins (T.fn l) dx [])) := r1.new (x := .ins c []) hx' ⟨⟨dx, [], by rw [c1], rfl⟩, ⟨c2, c3⟩, fun p hp => by cases hp⟩
        have zz := z x (rh.fresh hx)
        have hn : (Val.ref x :: vals).length = n := Sem_len ei zz
        have rv' : RVs T K H vals vs := h3 ▸ rv
        refine ⟨by rw [q1, ← hn, List.length_cons, List.length_cons, rv'.length], .ref x :: vals, _, .cons (rv_ref.mpr rfl) (rv'.le l2), r2, Sem.mono P d i _ _ _ _ _ _ (fun v h' z => ?_) (fun e h' z => ?_) zz⟩
        · obtain ⟨rfl, z⟩ := z
          intro y H' l3 rh' ry
          rw [h3] at z
          exact ⟨rv_non.mp ry, z _ H' (l2.trans l3) rh' (rv_ref.mpr rfl)⟩
        · rw [h3] at z
          exact MP.dx.sh l2 z
theorem fok1_of {d : Nat} (ih : AllOk P T K mg nl prog w base d) {X : Ctx} (h1 : X.prog = prog) (h2 : X.w = w) (h3 : X.K = K) (h4 : X.mg = mg) (h5 : X.base = base) (hr : Room (d + 2) X.A) {l : String} {n N : Nat} {m : Ss} {b : Bool} (e : P.fn l = some (.fn n N m b)) : FOk1 X (P.gam (Sem P d)) T l ∧ PySem.W.keepIn X.K (.ref (T.fn l)) = true := by
  obtain ⟨fd, ps, q1, q2, q3, qd, q4, qn⟩ := ih l n N m b e
  refine ⟨⟨d + 2, fd, ps, by rw [h1, h2, h3, h4, h5]; exact q4, hr, by rw [h3]; exact q2, fun vals h Q E z => ?_⟩, by rw [h3]; exact q3⟩
  rw [q1]
  exact Sem_len e z
theorem low_of (G : Good P T K mg gl nl nm) (kpm : ∀ l c i, P.fn l = some (.mk c i) → PySem.W.keepIn K (.ref (T.fn l)) = true) {d : Nat} (ih : AllOk P T K mg nl prog w base d) (ihp : ∀ e, d = e + 1 → AllOk P T K mg nl prog w base e) {X : Ctx} (h1 : X.prog = prog) (h2 : X.w = w) (h3 : X.K = K) (h4 : X.mg = mg) (h5 : X.base = base) (hr : Room (d + 2) X.A) : LowOk X (P.gam (Sem P d)) T gl where
  gl := fun x g h => by
    have q := G.gl x g h
    cases g with
    | blt => show X.mg x = none; rw [h4]; exact q
    | fn l => exact ⟨by rw [h4]; exact q.1, fok_of G ih ihp h1 h2 h3 h4 h5 hr q.2 (kpm l)⟩
    | con y =>
      obtain ⟨v, u, val, a, b, c, d⟩ := q
      exact ⟨v, u, val, by rw [h4]; exact a, b, c, by rw [h3]; exact d⟩
    | cls c => exact ⟨by rw [h4]; exact q.1, q.2⟩
    | no => trivial
    | key l =>
      obtain ⟨q1, n, N, m, b, q2⟩ := q
      exact ⟨by rw [h4]; exact q1, fok1_of ih h1 h2 h3 h4 h5 hr q2⟩
    | fnd l v =>
      obtain ⟨q1, ⟨n, N, m, b, q2⟩, q3⟩ := q
      refine ⟨by rw [h4]; exact q1, fok_of G ih ihp h1 h2 h3 h4 h5 hr (by rw [q2]; rfl) (kpm l), ?_⟩
      obtain ⟨fd, ps, k1, k2, k3, kd, k4, kn⟩ := ih l n N m b q2
      obtain ⟨t, ht⟩ := kd v q3
      refine ⟨d + 2, fd, ps, t, by rw [h1, h2, h3, h4, h5]; exact k4, hr, by rw [h3]; exact ht, fun vals h Q E z => ?_⟩
      rw [k1]
      exact Sem_len q2 z
  mth := fun c m l h => by
    have q := G.mth c m l h
    exact ⟨by rw [h3]; exact q.1, fok_of G ih ihp h1 h2 h3 h4 h5 hr q.2 (kpm l)⟩
  exc := fun c => ⟨fun e => by rw [h3]; exact G.exc0 c e, fun n ns e => by
    obtain ⟨q1, fd, ps, fI, q2, q3, q4, q5⟩ := G.excI c n ns e
    exact ⟨by rw [h3]; exact q1, 1, fd, ps, fI, by rw [h3]; exact q2, by rw [h3]; exact q3, by rw [h1, h2, h3, h4, h5]; exact (q5 _ _ _).1, hr.mono (by omega), by rw [h3]; exact q4, by rw [h1, h2, h3, h4, h5]; exact (q5 _ _ _).2⟩⟩
theorem fit_of (G : Good P T K mg gl nl nm) (kpm : ∀ l c i, P.fn l = some (.mk c i) → PySem.W.keepIn K (.ref (T.fn l)) = true) {d : Nat} (ih : AllOk P T K mg nl prog w base d) (ihp : ∀ e, d = e + 1 → AllOk P T K mg nl prog w base e) {X : Ctx} (h1 : X.prog = prog) (h2 : X.w = w) (h3 : X.K = K) (h4 : X.mg = mg) (h5 : X.base = base) (hr : Room (d + 2) X.A)
    {W : WX} {sc : Scope} (nd : X.N.Nodup) (hsc : X.env.scope = sc) (calm : X.calm = true) (pas : PassesOwn (model X.prog X.w) X.A X.env X.xe) (fn : ∀ x, X.fn x = true) {nx : Bool} (tk : nx = false → Takes X W) (tkn : L2N.Takes X W) (pax : ∀ hd : Option Value, PassesOwnAt (model X.prog X.w) (X.A.mark hd) X.A X.env X.xe) (stk : X.stack = X.env :: X.outer ∧ X.env.frame = some X.env.locals) {lv : Nat} (hlv : lv ≠ 0 → Room (d + 3) X.A) (ltab : lv = 2 → LamTab X T) : Fit X W (P.gam (Sem P d)) T ⟨X.N, sc, none, gl, false, none, lv, nx, nl, nm, true⟩ where
  L := Sem.le P d
  N := rfl
  nd := nd
  sc := hsc
  calm := fun _ => calm
  hu := by have := hr.un; omega
  pas := pas
  fn := fun x _ => fn x
  tk := tk
  tkn := tkn
  nxo := fun l hl => fokN_of G ih ihp h1 h2 h3 h4 h5 hr hl (G.nls l hl)
  nxq := fun m hm c l q => fokN_of G ih ihp h1 h2 h3 h4 h5 hr (G.nmt m hm c l q) (G.nls l (G.nmt m hm c l q))
  pax := fun _ => pax
  gl := (low_of G kpm ih ihp h1 h2 h3 h4 h5 hr).gl
  mth := fun _ => (low_of G kpm ih ihp h1 h2 h3 h4 h5 hr).mth
  isi := by rw [h3]; exact G.isi _
  fld := fun c f h => by rw [h3]; exact G.fld c f h
  stk := fun _ => stk
  cold := fun _ => rfl
  cur := fun i a e z => by cases z
  exc := fun _ => (low_of G kpm ih ihp h1 h2 h3 h4 h5 hr).exc
  xff := by rw [h3]; exact G.xff
  sub := by rw [h3]; exact G.sub
  lam := fun _ _ hl1 => ⟨⟨d + 2, hlv (show lv ≠ 0 from by have : 1 ≤ lv := hl1; omega), fun X' e1 e2 e3 e4 e5 hr' => low_of G kpm ih ihp (e1.trans h1) (e2.trans h2) (e3.trans h3) (e4.trans h4) (e5.trans h5) hr'⟩, ltab⟩
theorem FunD_okc {x qual : Str} {params : Arguments} {body : List Stmt} {scope : Scope} {dvs : List V} {kws : List (Str × V)} {f : Addr} {fd : FuncData} {CX : CXT} {N ps : List Str} {k : Nat} {sp : Sp} (F : FunD K x qual params body scope dvs kws f fd) (S : FnScope N ps scope) (len : ∀ vs H Q E, sp vs H Q E → vs.length = ps.length)
    (hbody : ∀ (cdv : Value) (A : Around) (outer : List Env) (s : Shared) (H : Hp) (vs : List V) (Q : VK) (E : XK), cdOf K f = some cdv → Room k (A.deeper (envOfC qual scope s.heap.objs.size f cdv)) → sp vs H Q E →
      ∃ t, PSs (cxOf CX prog w K mg base N qual scope f cdv A outer s H E) body t ∧ t { nx := fun _ H' => Q .non H', rt := Q } (start N vs) H) : FnOk prog w K mg base CX (k + 1) f fd ps sp := by
  obtain ⟨oc, od, dV, kV, doc, pm, an, cdv, ct, osl, rfl, lk, hcd, _, _⟩ := F.ex
  exact fn_of lk hcd S len fun A outer s H vs Q E hr hsp => hbody cdv A outer s H vs Q E (by unfold cdOf; rw [lk]) hr hsp
theorem FunD_okH {x qual : Str} {params : Arguments} {body : List Stmt} {scope : Scope} {dvs : List V} {kws : List (Str × V)} {f : Addr} {fd : FuncData} {CX : CXT} {N ps : List Str} {k : Nat} {sp : Sp} (F : FunD K x qual params body scope dvs kws f fd) (S : FnScope N ps scope) (len : ∀ vs H Q E, sp vs H Q E → vs.length = ps.length)
    (hbody : ∀ (cdv : Value) (A : Around) (outer : List Env) (s : Shared) (H : Hp) (vs : List V) (Q : VK) (E : XK) (p : Addr × PySem.Obj), sp vs H Q E →
      ∃ t, PSs (L2H.cxH CX prog w K mg base N qual scope f cdv A outer s H E p) body t ∧ t { nx := fun _ H' => Q .non H', rt := Q } (start N vs) H) : L2H.FnH prog w K mg base CX (k + 1) f fd ps sp := by
  obtain ⟨oc, od, dV, kV, doc, pm, an, cdv, ct, osl, rfl, lk, hcd, _, _⟩ := F.ex
  exact L2H.fn_ofH lk hcd S len fun A outer s H vs Q E p _ _ hsp => hbody cdv A outer s H vs Q E p hsp
theorem body_ok (G : Good P T K mg gl nl nm) (kpm : ∀ l c i, P.fn l = some (.mk c i) → PySem.W.keepIn K (.ref (T.fn l)) = true) (hTB : ∀ p ∈ T.cps, LamX.TabB base mg p.1 p.2) {d : Nat} (ih : AllOk P T K mg nl prog w base d) (ihp : ∀ e, d = e + 1 → AllOk P T K mg nl prog w base e) {b : Bool} {m : Ss} {qual : Str} {body : List Stmt} {sc : Scope} {f : Addr} {names : List Str} {n : Nat}
    (S : FnScope names (names.take n) sc) {nx : Bool} {CX : CXT} (hCX : (CX = L2.CX prog w) ∨ (nx = true ∧ CX = L2N.CX prog w)) (hc : chkSs ⟨names, sc, none, gl, false, none, lvl b, nx, nl, nm, true⟩ m body = true) (hlam : b = true → ∃ c Pt : Addr, cdOf K f = some (.ref c) ∧ (c, Pt) ∈ T.cps ∧ (Pt, (qual ++ ".<locals>.") ++ "<lambda>") ∈ T.tabs ∧ ∀ p ∈ T.tabs, p.1 = Pt → p.2 = (qual ++ ".<locals>.") ++ "<lambda>")
    {cdv : Value} {A : Around} {outer : List Env} {s : Shared} {H : Hp} {vs : List V} {Q : VK} {E : XK} (hcdv : cdOf K f = some cdv) (hr : Room (d + 2) (A.deeper (envOfC qual sc s.heap.objs.size f cdv))) (hr3 : b = true → Room (d + 3) (A.deeper (envOfC qual sc s.heap.objs.size f cdv)))
    {vals : List Val} {h : VH} (rv : RVs T K H vals vs) (rh : RH T K h H) (z2 : wpSs (P.gam (Sem P d)) m (vals.map some ++ List.replicate (names.length - vals.length) none) h ⟨fun _ h => dn T K H Q .non h, dn T K H Q, fun e _ h => dx T K H E e h⟩) :
    ∃ t, PSs (cxOf CX prog w K mg base names qual sc f cdv A outer s H E) body t ∧ t { nx := fun _ H' => Q .non H', rt := Q } (start names vs) H := by
  have tkk : (nx = false → Takes (cxOf CX prog w K mg base names qual sc f cdv A outer s H E) (fun cls d _ H => E cls d H)) ∧ L2N.Takes (cxOf CX prog w K mg base names qual sc f cdv A outer s H E) (fun cls d _ H => E cls d H) := by
    rcases hCX with rfl | ⟨h1, rfl⟩
    · have z : Takes (cxOf (L2.CX prog w) prog w K mg base names qual sc f cdv A outer s H E) (fun cls d _ H => E cls d H) := takes_of rfl rfl rfl rfl
      exact ⟨fun _ => z, toN z⟩
    · exact ⟨fun z => (by rw [h1] at z; cases z), L2N.takes_of rfl rfl rfl rfl⟩
  have Ft : Fit (cxOf CX prog w K mg base names qual sc f cdv A outer s H E) (fun cls d _ H => E cls d H) (P.gam (Sem P d)) T ⟨names, sc, none, gl, false, none, lvl b, nx, nl, nm, true⟩ :=
    fit_of G kpm ih ihp rfl rfl rfl rfl rfl hr S.nd rfl rfl (passes_of rfl) (fun _ => rfl) tkk.1 tkk.2 (L2H.passesAt_of rfl) ⟨rfl, rfl⟩ (fun hlv => hr3 (by cases b with
      | true => rfl
      | false => exact absurd rfl hlv)) fun hlv => by
      have hl : b = true := by cases b with
        | true => rfl
        | false => cases hlv
      obtain ⟨c, Pt, e1, e2, e3, e4⟩ := hlam hl
      rw [hcdv] at e1
      cases e1
      exact ⟨c, Pt, rfl, hTB _ e2, e3, e4⟩
  refine ⟨_, chkSs_ok m Ft body hc, _, h, RS.init rv, rh, wpSs_mono (Sem.le P d) m _ _ ⟨fun _ h => dn T K H Q .non h, dn T K H Q, fun e _ h => dx T K H E e h⟩ _ ⟨fun σ h' q => ?_, fun v h' q => q, fun e σ h' q => ?_⟩ z2⟩
  · intro σ' H' l1 _ rh'
    exact q _ H' l1 rh' (rv_non.mpr rfl)
  · intro cls dd σ' H' l1 _ rh' rx
    exact q cls dd H' l1 rh' rx
theorem all_ok (G : Good P T K mg gl nl nm) (kpm : ∀ l c i, P.fn l = some (.mk c i) → PySem.W.keepIn K (.ref (T.fn l)) = true) (hTB : ∀ p ∈ T.cps, LamX.TabB base mg p.1 p.2) (d : Nat) : AllOk P T K mg nl prog w base d := by
  induction d using Nat.strongRecOn with
  | ind d ih =>
    intro l n N m b e
    obtain ⟨x, qual, params, body, sc, fd, names, dvs, F, S, hn, hN, hb, hc, hlam⟩ := G.fn l n N m b e
    have hl : (names.take n).length = n := by rw [List.length_take]; omega
    subst hN
    cases d with
    | zero => exact ⟨fd, names.take n, hl, hb.1, F.kp, hb.2.2, ⟨fun _ _ _ _ z => z.1, fun _ _ _ _ _ _ _ _ _ _ _ _ _ z => let ⟨_, _, _, _, _, q⟩ := z; q.elim⟩, fun _ => ⟨fun _ _ _ _ z => z.1, fun _ _ _ _ _ _ _ _ _ _ _ _ _ z => let ⟨_, _, _, _, _, q⟩ := z; q.elim⟩⟩
    | succ d =>
      have key : ∀ CX : CXT, ((CX = L2.CX prog w) ∨ (decide (l ∈ nl) = true ∧ CX = L2N.CX prog w)) → FnOk prog w K mg base CX (d + 1 + 2) (T.fn l) fd (names.take n) (spc (P.gam (Sem P (d + 1))) T K l (names.take n).length) := fun CX hCX => by
        refine FunD_okc F S (fun vs H Q E z => z.1) fun cdv A outer s H vs Q E hcdv hr sp => ?_
        obtain ⟨hv, vals, h, rv, rh, z⟩ := sp
        have z : Sem P (d + 1) l vals h (dn T K H Q) (dx T K H E) := z
        cases b with
        | false =>
          rw [Sem_fnE e] at z
          exact body_ok G kpm hTB (ih d (by omega)) (fun e he => ih e (by omega)) S hCX hc hlam hcdv hr (fun z => nomatch z) rv rh z.2
        | true =>
          cases d with
          | zero => exact (Sem_fnO e z).elim
          | succ d =>
            rw [Sem_fnL e] at z
            exact body_ok G kpm hTB (ih d (by omega)) (fun e he => ih e (by omega)) S hCX hc hlam hcdv (hr.mono (by omega)) (fun _ => hr) rv rh z.2
      exact ⟨fd, names.take n, hl, hb.1, F.kp, hb.2.2, key _ (.inl rfl), fun hl => key _ (.inr ⟨decide_eq_true hl, rfl⟩)⟩
end
end MP
end
section
set_option maxHeartbeats 4000000
/-! MpT: a program by tables; what the head's facts give. -/
namespace MP
open PySem PySem.Spec PyProof.Rows L2
structure Row where
  l : String
  d : He.DefD
  N : List Str
  n : Nat
  m : Ss
/-- a program's tables: functions, classes that are made, methods, constants, fields, what isinstance says of own classes, exceptions -/
structure Tabl where
  rows : List Row
  mks : List String
  mths : List (String × String)
  cons : List (String × Val)
  flds : List (String × String)
  gl : List (Str × GK)
  fa : List He.Fa
  sub : List (String × String × Bool)
  exc : List (String × List String)
  isx : List (String × String × Bool) := []
  lams : List String := []
  nxl : List String := []
  nxm : List String := []
def bltCl (n : String) : Bool := n == "bool" || n == "int" || n == "str" || n == "tuple" || n == "list" || n == "dict"
def isiT (t c : String) : Bool := t == c || (t == "bool" && c == "int")
def isiBlt (t : String) (cs : List String) : Option Bool := if bltTy t = true ∧ cs.all bltCl = true then some (cs.any (isiT t)) else none
def findX (t c : String) : List (String × String × Bool) → Option Bool
  | [] => none
  | (a, b, r) :: l => if t = a ∧ c = b then some r else findX t c l
theorem findX_ok {t c : String} {b : Bool} : ∀ {l : List (String × String × Bool)}, findX t c l = some b → (t, c, b) ∈ l
  | [], h => by cases h
  | (x, y, r) :: l, h => by
    unfold findX at h
    by_cases e : t = x ∧ c = y
    · rw [if_pos e] at h
      cases h
      rw [e.1, e.2]
      exact List.mem_cons_self
    · rw [if_neg e] at h
      exact List.mem_cons_of_mem _ (findX_ok h)
/-- isinstance: built-in types, then own classes by the table -/
def isiX (l : List (String × String × Bool)) (t : String) (cs : List String) : Option Bool := match isiBlt t cs with
  | some b => some b
  | none => (match cs with
    | [c] => findX t c l
    | _ => none)
def cvK (K : Frag) (n : String) : Value := if bltTy n = true then .type n else .ref (He.ga K (Str.ofString n))
def ityB (K : Frag) (C : Addr) : Bool := He.eqO (PySem.W.findIn K (.ref C) "__class__") (some (some (.builtin "object.__class__"))) && (He.eqO (PySem.W.specialIn K (.builtin "object.__class__") "__get__") (some (some (.builtin "getset_descriptor.__get__"))) &&
  (decide (PySem.W.takesIn K (.builtin "object.__class__") = some true) && decide (PySem.W.mroIn K C (.type "object") = some true)))
theorem ityB_ok {K : Frag} {C : Addr} (h : ityB K C = true) : ITy K C := by
  unfold ityB at h
  simp only [Bool.and_eq_true] at h
  exact ⟨He.eqO_ok h.1, He.eqO_ok h.2.1, of_decide_eq_true h.2.2.1, of_decide_eq_true h.2.2.2⟩
def isxB (K : Frag) (e : String × String × Bool) : Bool := decide (PySem.W.kitOne K (cvK K e.1) (cvK K e.2.1) = some e.2.2) && (bltTy e.1 || ityB K (He.ga K (Str.ofString e.1)))
def findR (l : String) : List Row → Option Row
  | [] => none
  | r :: rs => if l = r.l then some r else findR l rs
theorem findR_ok {l : String} {r : Row} : ∀ {rs : List Row}, findR l rs = some r → r ∈ rs ∧ r.l = l
  | [], h => by cases h
  | s :: rs, h => by
    unfold findR at h
    by_cases e : l = s.l
    · rw [if_pos e] at h
      cases h
      exact ⟨List.mem_cons_self, e.symm⟩
    · rw [if_neg e] at h
      exact ⟨List.mem_cons_of_mem _ (findR_ok h).1, (findR_ok h).2⟩
def Tabl.fn (t : Tabl) (l : String) : Option FD := match findR l t.rows with
  | some r => some (.fn r.n r.N.length r.m (decide (r.l ∈ t.lams)))
  | none => if l ∈ t.mks then some (.mk l (l ++ ".__init__")) else none
def Tabl.mth (t : Tabl) (c m : String) : Option String := if (c, m) ∈ t.mths then some (c ++ "." ++ m) else none
def assoc {α : Type} (x : String) : List (String × α) → Option α
  | [] => none
  | (y, v) :: r => if x = y then some v else assoc x r
theorem assoc_ok {α : Type} {x : String} {v : α} : ∀ {l : List (String × α)}, assoc x l = some v → (x, v) ∈ l
  | [], h => by cases h
  | (y, w) :: r, h => by
    unfold assoc at h
    by_cases e : x = y
    · rw [if_pos e] at h
      cases h
      rw [e]
      exact List.mem_cons_self
    · rw [if_neg e] at h
      exact List.mem_cons_of_mem _ (assoc_ok h)
def Tabl.prog (t : Tabl) : Prog := ⟨t.fn, fun y => assoc y t.cons, t.mth, (fun e c => findX e c t.sub), (fun c => assoc c t.exc), isiX t.isx, (fun c f => decide ((c, f) ∈ t.flds)), fun l => (match findR l t.rows with
  | some r => (match r.d.dfl with
    | [.int i] => some i
    | _ => none)
  | none => none)⟩
/-- exception classes -/
def exc0B (K : Frag) (C : Addr) : Bool := PySem.W.excIn K C He.veBase "ValueError.__new__" && (PySem.W.keepIn K (.ref C) && (decide (PySem.W.subIn K (.ref C) (.type "BaseException") = some true) && decide (PySem.W.typeIn K (.ref C) = some (.type "type"))))
theorem exc0B_ok {K : Frag} {C : Addr} (h : exc0B K C = true) : Exc0 K C := by
  unfold exc0B at h
  simp only [Bool.and_eq_true, decide_eq_true_eq] at h
  exact ⟨h.1, h.2.1, h.2.2.1, h.2.2.2⟩
def oexB (K : Frag) (C : Addr) : Bool := (match K.lookup C with
  | some ⟨.type "type", _, .cls cd, sl⟩ => (match cd.mro, sl.toList with
    | .ref C' :: bm, [_, _, _, _, some (.builtin n), _] => C' == C && n == "ValueError.__new__" && cd.hasDict && !cd.hasDel && PySem.HandSPX.refsVE bm
    | _, _ => false)
  | _ => false) && (He.eqO (PySem.W.findIn K (.ref C) "__setattr__") (some (some (.builtin "object.__setattr__"))) && (decide (PySem.W.subIn K (.ref C) (.type "BaseException") = some true) && (decide (PySem.W.typeIn K (.ref C) = some (.type "type")) && PySem.W.keepIn K (.ref C))))
theorem oexB_ok {K : Frag} {C : Addr} (h : oexB K C = true) : OexC K C := by
  unfold oexB at h
  simp only [Bool.and_eq_true, decide_eq_true_eq] at h
  obtain ⟨h0, h1, h2, h3, h4⟩ := h
  refine ⟨?_, He.eqO_ok h1, h2, h3, h4⟩
  split at h0
  · rename_i dd cd sl ho
    split at h0
    · rename_i C' bm k0 k1 k2 k3 n k5 hm hs
      simp only [Bool.and_eq_true, beq_iff_eq, Bool.not_eq_true'] at h0
      obtain ⟨⟨⟨⟨rfl, rfl⟩, hdct⟩, hdel⟩, hr⟩ := h0
      obtain ⟨nm, bs, mro, ns, qn, hd, sn, sub, ab, col, del⟩ := cd
      dsimp only at hm hdel hdct
      subst hm hdel hdct
      have hsl : sl = #[k0, k1, k2, k3, some (.builtin "ValueError.__new__"), k5] := by
        obtain ⟨l⟩ := sl
        simp only at hs
        rw [hs]
      subst hsl
      exact ⟨nm, qn, ns, bs, bm, sn, sub, ab, col, dd, k0, k1, k2, k3, k5, ho, hr⟩
    · cases h0
  · cases h0
def baseB (K : Frag) (M : Addr) : Bool := decide (PySem.W.typeIn K (.ref M) = some (.type "type")) && (decide (PySem.W.nsIn K cStatics "thirdparty.any" = some none) && (match PySem.W.findCls K (.ref M) (.type "type") "__init__" with
  | some (.val v) => decide (v = .builtin "ValueError.__init__")
  | _ => false))
theorem baseB_ok {K : Frag} {M : Addr} (h : baseB K M = true) : BaseI K M := by
  unfold baseB at h
  simp only [Bool.and_eq_true, decide_eq_true_eq] at h
  obtain ⟨h1, h2, h3⟩ := h
  refine ⟨h1, h2, ?_⟩
  split at h3
  · rename_i v e
    rw [e, of_decide_eq_true h3]
  · cases h3
def exccB (K : Frag) (D : Addr) : Bool := He.eqO (PySem.W.findIn K (.ref D) "__getattribute__") (some (some (.builtin "BaseException.__getattribute__"))) && (He.eqO (PySem.W.findIn K (.ref D) "__getattr__") (some none) && (decide (PySem.W.subIn K (.ref D) (.type "BaseException") = some true) && (PySem.W.hasDictIn K D &&
  (He.eqO (PySem.W.findIn K (.ref D) "__class__") (some (some (.builtin "object.__class__"))) && (He.eqO (PySem.W.specialIn K (.builtin "object.__class__") "__get__") (some (some (.builtin "getset_descriptor.__get__"))) &&
  (decide (PySem.W.takesIn K (.builtin "object.__class__") = some true) && decide (PySem.W.mroIn K D (.type "object") = some true)))))))
theorem exccB_ok {K : Frag} {D : Addr} (h : exccB K D = true) : ExcC K D := by
  unfold exccB at h
  simp only [Bool.and_eq_true, decide_eq_true_eq] at h
  obtain ⟨h1, h2, h3, h4, h5, h6, h7, h8⟩ := h
  exact ⟨He.eqO_ok h1, He.eqO_ok h2, h3, h4, He.eqO_ok h5, He.eqO_ok h6, h7, h8⟩
def subB (K : Frag) (e : String × String × Bool) : Bool := bltTy e.1 == false && (decide (PySem.W.exmOne K (.ref (He.ga K (Str.ofString e.1))) (cvK K e.2.1) = some e.2.2) && (decide (PySem.W.kitOne K (.ref (He.ga K (Str.ofString e.1))) (cvK K e.2.1) = some e.2.2) && exccB K (He.ga K (Str.ofString e.1))))
def excB (K : Frag) (e : String × List String) : Bool := match e.2 with
  | [] => exc0B K (He.ga K (Str.ofString e.1))
  | ns => oexB K (He.ga K (Str.ofString e.1)) && (He.eqO (PySem.W.findIn K (.ref (He.ga K (Str.ofString e.1))) "__init__") (some (some (.ref (He.ma K (He.ga K (Str.ofString e.1)) "__init__")))) && (decide (PySem.W.typeIn K (.ref (He.ma K (He.ga K (Str.ofString e.1)) "__init__")) = some (.type "function")) &&
    (baseB K (He.ga K "MakesError") && (xfB K (He.ga K (Str.ofString e.1)) && ns.all fun f => He.eqO (PySem.W.findIn K (.ref (He.ga K (Str.ofString e.1))) (Str.ofString f)) (some none)))))
/-- tuples of texts as constants -/
def dvS : Val → He.Dv
  | .str z => .str ⟨z.toArray⟩
  | _ => .non
def strE : Val → Bool
  | .str z => decide (z.length ≤ SZ)
  | _ => false
def strV (vs : List Val) : Bool := vs.all strE
theorem strV_ok {T : Tb} {K : Frag} {H : Hp} : ∀ {vs : List Val}, strV vs = true → RVs T K H vs ((vs.map dvS).map (He.Dv.v K))
  | [], _ => by rw [RVs]; rfl
  | v :: vs, h => by
    obtain ⟨h1, h2⟩ := Bool.and_eq_true_iff.mp (show (strE v && strV vs) = true from h)
    rw [RVs]
    refine ⟨_, _, rfl, ?_, strV_ok h2⟩
    cases v with
    | str z => exact rv_str.mpr ⟨rfl, of_decide_eq_true h1⟩
    | _ => cases h1
def conXB (K : Frag) (p : String × Val) : Bool := match p.2 with
  | .ktp vs => He.tupB K (Str.ofString p.1) (vs.map dvS)
  | _ => true
/-- where a label stands -/
def atOf (t : Tabl) (l : String) : Str × Option Str := match findR l t.rows with
  | some r => r.d.at_
  | none => (Str.ofString l, none)
def qualOf (t : Tabl) (l : String) : Str := match findR l t.rows with
  | some r => r.d.qual
  | none => Str.empty
/-- the qualified name of a def's lambdas -/
def lamQ (t : Tabl) (l : String) : Str := (qualOf t l ++ ".<locals>.") ++ "<lambda>"
/-- code objects of defs with lambdas, their tables -/
def Tabl.lamP (t : Tabl) (K : Frag) : List (Addr × Addr) := t.lams.map fun l => He.cT K (atOf t l)
def Tabl.lamA (t : Tabl) (K : Frag) : List Addr := (t.lamP K).map (·.2)
def Tabl.tb (t : Tabl) (K : Frag) : Tb := ⟨fun c => He.ga K (Str.ofString c), fun l => He.fAd K (atOf t l), t.lams.map fun l => ((He.cT K (atOf t l)).2, lamQ t l), t.lamP K⟩
def refV : Value → Addr → Bool
  | .ref a, c => a == c
  | _, _ => false
theorem refV_ok {v : Value} {c : Addr} (h : refV v c = true) : v = .ref c := by
  cases v with
  | ref a => exact congrArg Value.ref (beq_iff_eq.mp h)
  | _ => cases h
def lamXB (t : Tabl) (K : Frag) (l : String) : Bool := (findR l t.rows).isSome && ((match cdOf K (He.fAd K (atOf t l)) with
  | some v => refV v (He.cT K (atOf t l)).1
  | none => false) && (PySem.W.codeHdIn K (He.cT K (atOf t l)).1 (He.cT K (atOf t l)).2 && (K.lookup (He.cT K (atOf t l)).2).isNone))
theorem lamXB_ok {t : Tabl} {K : Frag} {l : String} (h : lamXB t K l = true) : cdOf K (He.fAd K (atOf t l)) = some (.ref (He.cT K (atOf t l)).1) ∧ PySem.W.codeHdIn K (He.cT K (atOf t l)).1 (He.cT K (atOf t l)).2 = true ∧ K.lookup (He.cT K (atOf t l)).2 = none := by
  unfold lamXB at h
  obtain ⟨_, h⟩ := ba h
  obtain ⟨h1, h⟩ := ba h
  obtain ⟨h2, h3⟩ := ba h
  refine ⟨?_, h2, Option.isNone_iff_eq_none.mp h3⟩
  split at h1
  · rename_i v e
    rw [e, refV_ok h1]
  · cases h1
theorem nodup_snd : ∀ {α β : Type} {l : List α} {f : α → β}, (l.map f).Nodup → ∀ a ∈ l, ∀ b ∈ l, f a = f b → a = b
  | _, _, [], _, _, a, ha, _, _, _ => by cases ha
  | _, _, x :: l, f, nd, a, ha, b, hb, e => by
    rw [List.map_cons, List.nodup_cons] at nd
    rcases List.mem_cons.mp ha with rfl | ha
    · rcases List.mem_cons.mp hb with rfl | hb
      · rfl
      · exact absurd (List.mem_map.mpr ⟨b, hb, e.symm⟩) nd.1
    · rcases List.mem_cons.mp hb with e1 | hb
      · rw [e1] at e
        exact absurd (List.mem_map.mpr ⟨a, ha, e⟩) nd.1
      · exact nodup_snd nd.2 a ha b hb e
/-- own facts -/
def Tabl.xs (t : Tabl) (K : Frag) : Bool := t.isx.all (isxB K) && (t.sub.all (subB K) && (t.exc.all (excB K) && (t.cons.all (conXB K) && (t.lams.all (lamXB t K) && decide (t.lamA K).Nodup))))
/-! ### checks -/
def scopeB (N : List Str) (n : Nat) (sc : Scope) : Bool := decide (sc.kind = .function) && !sc.isCoroutine && !sc.isGenerator && decide N.Nodup && decide (n ≤ N.length)
  && (N.take n).all (fun x => decide (sc.names.lookup x = some .local) || decide (sc.names.lookup x = some .cell)) && sc.names.all fun y => !(decide (y.2 = .free))
theorem scopeB_ok {N : List Str} {n : Nat} {sc : Scope} (h : scopeB N n sc = true) : FnScope N (N.take n) sc ∧ n ≤ N.length := by
  unfold scopeB at h
  simp only [Bool.and_eq_true, decide_eq_true_eq, Bool.not_eq_true', List.all_eq_true, Bool.or_eq_true, decide_eq_false_iff_not] at h
  obtain ⟨⟨⟨⟨⟨⟨h1, h2⟩, h3⟩, h4⟩, h5⟩, h6⟩, h7⟩ := h
  refine ⟨⟨h1, h2, h3, h4, ?_, fun x hx => h6 x hx, fun y hy => h7 y hy⟩, h5⟩
  rw [List.length_take, Nat.min_eq_left h5]
def parB (p : Arguments) (ps : List Str) : Bool := p.posonlyargs.isEmpty && p.vararg.isNone && p.kwonlyargs.isEmpty && p.kwarg.isNone && decide (p.args.map (·.arg) = ps)
theorem parB_ok {p : Arguments} {ps : List Str} (h : parB p ps = true) : p.posonlyargs = [] ∧ p.vararg = none ∧ p.kwonlyargs = [] ∧ p.kwarg = none ∧ p.args.map (·.arg) = ps := by
  unfold parB at h
  simp only [Bool.and_eq_true, List.isEmpty_iff, Option.isNone_iff_eq_none, decide_eq_true_eq] at h
  exact ⟨h.1.1.1.1, h.1.1.1.2, h.1.1.2, h.1.2, h.2⟩
def dflB (d : List He.Dv) (n : Nat) : Bool := match d with
  | [] => true
  | [.int _] => decide (1 ≤ n)
  | _ => false
def rowB (lams : List String) (gl : List (Str × GK)) (nl nm : List String) (r : Row) : Bool := scopeB r.N r.n r.d.scope && parB r.d.params (r.N.take r.n) && dflB r.d.dfl r.n && r.d.kwd.isEmpty && chkSs ⟨r.N, r.d.scope, none, gl, false, none, if decide (r.l ∈ lams) = true then 2 else 0, decide (r.l ∈ nl), nl, nm, true⟩ r.m r.d.body
/-- facts -/
def faGlo (fa : List He.Fa) (x : Str) : Bool := fa.any fun f => match f with
  | .glo y => sq x y
  | _ => false
def faFree (fa : List He.Fa) (x : Str) : Bool := fa.any fun f => match f with
  | .free y => sq x y
  | _ => false
def faCls (fa : List He.Fa) (x : Str) : Bool := fa.any fun f => match f with
  | .cls y => sq x y
  | _ => false
def faMkr (fa : List He.Fa) (x : Str) : Bool := fa.any fun f => match f with
  | .mkr y => sq x y
  | _ => false
def faMeth (fa : List He.Fa) (x m : Str) : Bool := fa.any fun f => match f with
  | .meth y n => sq x y && sq m n
  | _ => false
def faNoat (fa : List He.Fa) (x m : Str) : Bool := fa.any fun f => match f with
  | .noat y n => sq x y && sq m n
  | _ => false
def faCon (fa : List He.Fa) (x : Str) (v : Val) : Bool := fa.any fun f => match f with
  | .int y i => sq x y && decide (v = .int i)
  | .str y z => sq x y && decide (v = .str z.cps.toList) && decide (z.cps.toList.length ≤ SZ)
  | _ => false
section
variable {fa : List He.Fa} {fn : List He.DefD} {K : Frag}
theorem says_mem (c : He.SaysD fa fn K) {f : He.Fa} (h : f ∈ fa) : f.ok K = true := by
  obtain ⟨i, hi⟩ := List.getElem?_of_mem h
  exact c.fact i hi
theorem faGlo_ok (c : He.SaysD fa fn K) {x : Str} (h : faGlo fa x = true) : (He.Fa.glo x).ok K = true := by
  obtain ⟨f, hf, e⟩ := List.any_eq_true.mp h
  cases f <;> first | (obtain rfl := sq_ok e; exact says_mem c hf) | cases e
theorem faFree_ok (c : He.SaysD fa fn K) {x : Str} (h : faFree fa x = true) : (He.Fa.free x).ok K = true := by
  obtain ⟨f, hf, e⟩ := List.any_eq_true.mp h
  cases f <;> first | (obtain rfl := sq_ok e; exact says_mem c hf) | cases e
theorem faCls_ok (c : He.SaysD fa fn K) {x : Str} (h : faCls fa x = true) : (He.Fa.cls x).ok K = true := by
  obtain ⟨f, hf, e⟩ := List.any_eq_true.mp h
  cases f <;> first | (obtain rfl := sq_ok e; exact says_mem c hf) | cases e
theorem faMkr_ok (c : He.SaysD fa fn K) {x : Str} (h : faMkr fa x = true) : (He.Fa.mkr x).ok K = true := by
  obtain ⟨f, hf, e⟩ := List.any_eq_true.mp h
  cases f <;> first | (obtain rfl := sq_ok e; exact says_mem c hf) | cases e
theorem faMeth_ok (c : He.SaysD fa fn K) {x m : Str} (h : faMeth fa x m = true) : (He.Fa.meth x m).ok K = true := by
  obtain ⟨f, hf, e⟩ := List.any_eq_true.mp h
  cases f <;> first | (obtain ⟨e1, e2⟩ := ba e; obtain rfl := sq_ok e1; obtain rfl := sq_ok e2; exact says_mem c hf) | cases e
theorem faNoat_ok (c : He.SaysD fa fn K) {x m : Str} (h : faNoat fa x m = true) : (He.Fa.noat x m).ok K = true := by
  obtain ⟨f, hf, e⟩ := List.any_eq_true.mp h
  cases f <;> first | (obtain ⟨e1, e2⟩ := ba e; obtain rfl := sq_ok e1; obtain rfl := sq_ok e2; exact says_mem c hf) | cases e
theorem faCon_ok {T : Tb} {mg : Str → Option Value} {h : Heap} (c : He.SaysD fa fn K) (X : K.In h) (G : h.Ns mainGlobals mg) {x : Str} {val : Val} (q : faCon fa x val = true) : ∃ v u, mg x = some u ∧ RelV v u ∧ ∀ H, RV T K H val v := by
  obtain ⟨f, hf, e⟩ := List.any_eq_true.mp q
  cases f with
  | int y i =>
    obtain ⟨e1, e2⟩ := ba e
    obtain rfl := sq_ok e1
    obtain rfl := of_decide_eq_true e2
    obtain ⟨t, ht⟩ := He.int_ok X G (says_mem c hf)
    exact ⟨.int i, _, ht, ⟨t, rfl⟩, fun H => rv_int.mpr rfl⟩
  | str y z =>
    obtain ⟨e, e3⟩ := ba e
    obtain ⟨e1, e2⟩ := ba e
    obtain rfl := sq_ok e1
    obtain rfl := of_decide_eq_true e2
    obtain ⟨t, ht⟩ := He.str_ok X G (says_mem c hf)
    exact ⟨.str z, _, ht, ⟨t, rfl⟩, fun H => rv_str.mpr ⟨rfl, of_decide_eq_true e3⟩⟩
  | _ => cases e
end
def glEB (t : Tabl) (p : Str × GK) : Bool := match p.2 with
  | .blt => faFree t.fa p.1
  | .fn l => faGlo t.fa p.1 && (t.fn l).isSome && decide (atOf t l = (p.1, none))
  | .con y => (match assoc y t.cons with
    | some (.ktp vs) => faGlo t.fa p.1 && (sq p.1 (Str.ofString y) && strV vs)
    | some v => faCon t.fa p.1 v
    | none => false)
  | .no => true
  | .key l => faGlo t.fa p.1 && (findR l t.rows).isSome && decide (atOf t l = (p.1, none))
  | .fnd l v => faGlo t.fa p.1 && (findR l t.rows).isSome && decide (atOf t l = (p.1, none)) && decide (t.prog.dfl l = some v)
  | .cls c => faGlo t.fa p.1 && sq p.1 (Str.ofString c) && !(bltTy c)
def mkB (t : Tabl) (l : String) : Bool := faMkr t.fa (Str.ofString l) && faCls t.fa (Str.ofString l) && !(bltTy l) && (findR l t.rows).isNone && (match findR (l ++ ".__init__") t.rows with
  | some r => decide (r.d.at_ = (Str.ofString l, some (Str.ofString "__init__")))
  | none => false)
def mthB (t : Tabl) (p : String × String) : Bool := faMeth t.fa (Str.ofString p.1) (Str.ofString p.2) && (match findR (p.1 ++ "." ++ p.2) t.rows with
  | some r => decide (r.d.at_ = (Str.ofString p.1, some (Str.ofString p.2)))
  | none => false)
def fldB (t : Tabl) (p : String × String) : Bool := faNoat t.fa (Str.ofString p.1) (Str.ofString p.2)
/-- all that is checked of a program's tables -/
def excTB (t : Tabl) (e : String × List String) : Bool := match e.2 with
  | [] => true
  | ns => (match findR (e.1 ++ ".__init__") t.rows with
    | some r => r.d.dfl.isEmpty && (if isVB r.d.body = true then decide (r.d.at_ = (Str.ofString e.1, some (Str.ofString "__init__"))) && (glB ⟨r.N, r.d.scope, none, t.gl, false, none, 0, false, [], [], false⟩ "ValueError" && ((match glk t.gl "ValueError" with
      | some .blt => true
      | _ => false) && (decide (r.N.length = r.n) && (match ns, r.N with
        | [f], [s, x] => visB r.d.scope s && (visB r.d.scope x && (nmB s && (nmB x && iniV s x (Str.ofString f) r.d.body)))
        | _, _ => false)))) else decide (r.d.at_ = (Str.ofString e.1, some (Str.ofString "__init__"))) && (glB ⟨r.N, r.d.scope, none, t.gl, false, none, 0, false, [], [], false⟩ "MakesError" && ((match glk t.gl "MakesError" with
      | some (.cls d) => decide (d = "MakesError")
      | _ => false) && (decide (r.N.length = r.n) && (match ns, r.N with
        | [f], [s, x] => visB r.d.scope s && (visB r.d.scope x && (nmB s && (nmB x && ini1 "MakesError" s x (Str.ofString f) r.d.body)))
        | [f, f2], [s, x, x2] => visB r.d.scope s && (visB r.d.scope x && (visB r.d.scope x2 && (nmB s && (nmB x && (nmB x2 && ini2 "MakesError" s x (Str.ofString f) x2 (Str.ofString f2) r.d.body)))))
        | _, _ => false)))))
    | none => false)
/-- the functions whose exceptions have no context -/
def nxB (t : Tabl) : Bool := (t.nxl.all fun l => (t.fn l).isSome) && ((t.mks.all fun l => !(decide (l ∈ t.nxl)) || decide ((l ++ ".__init__") ∈ t.nxl)) && t.mths.all fun p => !(decide (p.2 ∈ t.nxm)) || decide ((p.1 ++ "." ++ p.2) ∈ t.nxl))
def tabB (t : Tabl) : Bool := nxB t && t.rows.all (rowB t.lams t.gl t.nxl t.nxm) && t.gl.all (glEB t) && t.mks.all (mkB t) && t.mths.all (mthB t) && t.flds.all (fldB t) && t.exc.all (excTB t)
theorem glk_mem {x : Str} {g : GK} : ∀ {l : List (Str × GK)}, glk l x = some g → (x, g) ∈ l
  | [], h => by cases h
  | (y, k) :: r, h => by
    unfold glk at h
    by_cases e : sq x y = true
    · rw [if_pos e] at h
      cases h
      rw [sq_ok e]
      exact List.mem_cons_self
    · rw [if_neg e] at h
      exact List.mem_cons_of_mem _ (glk_mem h)
theorem kit_blt {K : Frag} : ∀ {t c : String}, bltTy t = true → bltCl c = true → PySem.W.kitOne K (.type t) (.type c) = some (isiT t c) := by
  intro t c ht hc
  unfold bltTy at ht
  unfold bltCl at hc
  simp only [Bool.or_eq_true, beq_iff_eq] at ht hc
  rcases ht with ((((((rfl | rfl) | rfl) | rfl) | rfl) | rfl) | rfl) | rfl <;> rcases hc with ((((rfl | rfl) | rfl) | rfl) | rfl) | rfl <;> exact kit_ty (by decide +kernel)
theorem bltCl_ty {c : String} (h : bltCl c = true) : bltTy c = true := by
  unfold bltCl at h
  unfold bltTy
  simp only [Bool.or_eq_true, beq_iff_eq] at h ⊢
  rcases h with ((((h | h) | h) | h) | h) | h <;> simp [h]
theorem isi_ok (t : Tabl) (K : Frag) (hx : t.xs K = true) (call) : IsiOk (t.prog.gam call) (t.tb K) K := by
  have key : ∀ t cs b, isiBlt t cs = some b → bltTy t = true ∧ cs.all bltCl = true ∧ b = cs.any (isiT t) := fun t cs b h => by
    unfold isiBlt at h
    by_cases q : bltTy t = true ∧ cs.all bltCl = true
    · rw [if_pos q] at h
      cases h
      exact ⟨q.1, q.2, rfl⟩
    · rw [if_neg q] at h
      cases h
  have e1 : ∀ y, bltTy y = true → cv (t.tb K) y = .type y := fun y h => if_pos h
  have spl : ∀ y cs b, isiX t.isx y cs = some b → isiBlt y cs = some b ∨ ∃ c, cs = [c] ∧ findX y c t.isx = some b := fun y cs b h => by
    unfold isiX at h
    cases q : isiBlt y cs with
    | some b' => rw [q] at h; exact .inl h
    | none =>
      rw [q] at h
      match cs, h with
      | [c], h => exact .inr ⟨c, rfl, h⟩
      | [], h => cases h
      | _ :: _ :: _, h => cases h
  have own : ∀ y c b, findX y c t.isx = some b → PySem.W.kitOne K (cv (t.tb K) y) (cv (t.tb K) c) = some b ∧ (bltTy y = false → ITy K ((t.tb K).cls y)) := fun y c b h => by
    have := List.all_eq_true.mp (Bool.and_eq_true_iff.mp hx).1 _ (findX_ok h)
    unfold isxB at this
    obtain ⟨h1, h2⟩ := ba this
    refine ⟨of_decide_eq_true h1, fun q => ?_⟩
    dsimp only at h2
    rw [q, Bool.false_or] at h2
    exact ityB_ok h2
  refine ⟨fun y c b h0 => ?_, fun y cs b h0 => ?_, fun y cs b h0 hb => ?_⟩
  · rcases spl y [c] b h0 with h | ⟨c', e, h⟩
    · obtain ⟨h1, h2, rfl⟩ := key y [c] b h
      rw [List.all_cons, List.all_nil, Bool.and_true] at h2
      rw [e1 y h1, e1 c (bltCl_ty h2), kit_blt h1 h2]
      simp
    · cases e
      exact (own y c b h).1
  · rcases spl y cs b h0 with h | ⟨c', rfl, h⟩
    · obtain ⟨h1, h2, rfl⟩ := key y cs b h
      rw [e1 y h1]
      clear h h0
      induction cs with
      | nil => rfl
      | cons c cs ih =>
        obtain ⟨k1, k2⟩ := ba (show (bltCl c && cs.all bltCl) = true from h2)
        rw [List.map_cons, e1 c (bltCl_ty k1)]
        unfold PySem.W.kitAny
        rw [kit_blt h1 k1, List.any_cons]
        cases q : isiT y c with
        | true => rfl
        | false => exact ih k2
    · rw [List.map_cons, List.map_nil]
      unfold PySem.W.kitAny
      rw [(own y c' b h).1]
      cases b <;> rfl
  · rcases spl y cs b h0 with h | ⟨c', rfl, h⟩
    · obtain ⟨h1, _, _⟩ := key y cs b h
      rw [h1] at hb
      cases hb
    · exact (own y c' b h).2 hb
theorem good_of {t : Tabl} {fn : List He.DefD} (hf : fn = t.rows.map (·.d)) (hB : tabB t = true) {K : Frag} {h : Heap} {mg : Str → Option Value} (X : K.In h) (G : h.Ns mainGlobals mg) (sy : He.SaysD t.fa fn K) (hx : t.xs K = true) : Good t.prog (t.tb K) K mg t.gl t.nxl t.nxm ∧ ∀ l c i, t.prog.fn l = some (.mk c i) → PySem.W.keepIn K (.ref ((t.tb K).fn l)) = true := by
  subst hf
  obtain ⟨hB, b6⟩ := ba hB
  obtain ⟨hB, b5⟩ := ba hB
  obtain ⟨hB, b4⟩ := ba hB
  obtain ⟨hB, b3⟩ := ba hB
  obtain ⟨hB, b2⟩ := ba hB
  obtain ⟨b7, b1⟩ := ba hB
  rw [List.all_eq_true] at b1 b2 b3 b4 b5 b6
  unfold nxB at b7
  obtain ⟨b7, b8⟩ := ba b7
  obtain ⟨b8, b9⟩ := ba b8
  rw [List.all_eq_true] at b7 b8 b9
  have at_row : ∀ {l : String} {r : Row}, findR l t.rows = some r → (t.tb K).fn l = He.fAd K r.d.at_ := fun {l r} e => by
    show He.fAd K (atOf t l) = _
    unfold atOf
    rw [e]
  have at_none : ∀ {l : String}, findR l t.rows = none → (t.tb K).fn l = He.ga K (Str.ofString l) := fun {l} e => by
    show He.fAd K (atOf t l) = _
    unfold atOf
    rw [e]
    rfl
  have fn_some : ∀ {l : String} {n N : Nat} {m : Ss} {b : Bool}, t.fn l = some (.fn n N m b) → ∃ r, findR l t.rows = some r ∧ r.n = n ∧ r.N.length = N ∧ r.m = m ∧ decide (l ∈ t.lams) = b := fun {l n N m b} e => by
    unfold Tabl.fn at e
    cases q : findR l t.rows with
    | none =>
      rw [q] at e
      dsimp only at e
      split at e <;> cases e
    | some r => rw [q] at e; cases e; exact ⟨r, rfl, rfl, rfl, rfl, by rw [(findR_ok q).2]⟩
  have mk_some : ∀ {l c i : String}, t.fn l = some (.mk c i) → l ∈ t.mks ∧ c = l ∧ i = l ++ ".__init__" ∧ findR l t.rows = none := fun {l c i} e => by
    unfold Tabl.fn at e
    cases q : findR l t.rows with
    | none =>
      rw [q] at e
      dsimp only at e
      by_cases z : l ∈ t.mks
      · rw [if_pos z] at e
        cases e
        exact ⟨z, rfl, rfl, rfl⟩
      · rw [if_neg z] at e; cases e
    | some r => rw [q] at e; cases e
  have mk_all : ∀ {l c i : String}, t.fn l = some (.mk c i) → (∃ r, findR i t.rows = some r ∧ (t.tb K).fn i = He.ma K (He.ga K (Str.ofString l)) "__init__") ∧ c = l ∧ (t.tb K).fn l = He.ga K (Str.ofString l) ∧ Mk K (He.ga K (Str.ofString l)) (He.ma K (He.ga K (Str.ofString l)) "__init__") ∧ Cls K (He.ga K (Str.ofString l)) ∧ bltTy l = false := fun {l c i} e => by
    obtain ⟨z, ec, rfl, q⟩ := mk_some e
    obtain rfl : l = c := ec.symm
    have b := b3 _ z
    unfold mkB at b
    obtain ⟨b, k5⟩ := ba b
    obtain ⟨b, k4⟩ := ba b
    obtain ⟨b, k3⟩ := ba b
    obtain ⟨k1, k2⟩ := ba b
    refine ⟨?_, rfl, at_none q, He.mkr_ok (faMkr_ok sy k1), He.cls_ok (faCls_ok sy k2), by rw [Bool.not_eq_true'] at k3; exact k3⟩
    cases e2 : findR (l ++ ".__init__") t.rows with
    | none => rw [e2] at k5; cases k5
    | some r =>
      rw [e2] at k5
      refine ⟨r, rfl, ?_⟩
      rw [at_row e2, of_decide_eq_true k5]
      rfl
  obtain ⟨_, hx2⟩ := Bool.and_eq_true_iff.mp hx
  obtain ⟨hxs, hxe⟩ := Bool.and_eq_true_iff.mp hx2
  obtain ⟨hxe, hxt⟩ := Bool.and_eq_true_iff.mp hxe
  obtain ⟨hxt, hxl⟩ := Bool.and_eq_true_iff.mp hxt
  obtain ⟨hxl, hxn⟩ := Bool.and_eq_true_iff.mp hxl
  rw [List.all_eq_true] at hxs hxe hxt hxl
  rw [decide_eq_true_eq] at hxn
  have GL : ∀ x g, glk t.gl x = some g → (match g with
    | .blt => mg x = none
    | .fn l => mg x = some (.ref ((t.tb K).fn l)) ∧ (t.prog.fn l).isSome = true
    | .con y => ∃ v u val, mg x = some u ∧ RelV v u ∧ t.prog.con y = some val ∧ ∀ H, RV (t.tb K) K H val v
    | .cls c => mg x = some (.ref ((t.tb K).cls c)) ∧ bltTy c = false
    | .no => True
    | .key l => mg x = some (.ref ((t.tb K).fn l)) ∧ ∃ n N m b, t.prog.fn l = some (.fn n N m b)
    | .fnd l v => mg x = some (.ref ((t.tb K).fn l)) ∧ (∃ n N m b, t.prog.fn l = some (.fn n N m b)) ∧ t.prog.dfl l = some v) := by
    have fnS : ∀ {l : String}, (findR l t.rows).isSome = true → ∃ n N m b, t.prog.fn l = some (.fn n N m b) := fun {l} z => by
      cases q : findR l t.rows with
      | none => rw [q] at z; cases z
      | some r =>
        refine ⟨r.n, r.N.length, r.m, decide (r.l ∈ t.lams), ?_⟩
        show t.fn l = _
        unfold Tabl.fn
        rw [q]
    intro x g e
    have b := b2 _ (glk_mem e)
    unfold glEB at b
    cases g with
    | blt => exact He.free_ok X G (faFree_ok sy b)
    | fn l =>
      obtain ⟨b, k3⟩ := ba b
      obtain ⟨k1, k2⟩ := ba b
      refine ⟨?_, k2⟩
      have : (t.tb K).fn l = He.ga K x := by
        show He.fAd K (atOf t l) = _
        rw [of_decide_eq_true k3]
        rfl
      rw [this]
      exact He.glo_ok X G (faGlo_ok sy k1)
    | con y =>
      dsimp only at b
      cases e2 : assoc y t.cons with
      | none => rw [e2] at b; cases b
      | some v =>
        rw [e2] at b
        by_cases z : ∃ vs, v = .ktp vs
        · obtain ⟨vs, rfl⟩ := z
          obtain ⟨k1, k2⟩ := ba b
          obtain ⟨k2, k3⟩ := ba k2
          have e3 : x = Str.ofString y := sq_ok k2
          subst e3
          have k4 : He.tupB K (Str.ofString y) (vs.map dvS) = true := hxt _ (assoc_ok e2)
          exact ⟨.ref _, _, .ktp vs, He.glo_ok X G (faGlo_ok sy k1), rfl, e2, fun H => rv_ktp.mpr ⟨_, _, rfl, He.tupB_ok k4 H, strV_ok k3⟩⟩
        · have b : faCon t.fa x v = true := by
            cases v with
            | ktp vs => exact absurd ⟨vs, rfl⟩ z
            | _ => exact b
          obtain ⟨v', u, q1, q2, q3⟩ := faCon_ok (T := t.tb K) sy X G b
          exact ⟨v', u, v, q1, q2, e2, q3⟩
    | no => trivial
    | key l =>
      obtain ⟨b, k3⟩ := ba b
      obtain ⟨k1, k2⟩ := ba b
      refine ⟨?_, fnS k2⟩
      have : (t.tb K).fn l = He.ga K x := by
        show He.fAd K (atOf t l) = _
        rw [of_decide_eq_true k3]
        rfl
      rw [this]
      exact He.glo_ok X G (faGlo_ok sy k1)
    | fnd l v =>
      obtain ⟨b, k4⟩ := ba b
      obtain ⟨b, k3⟩ := ba b
      obtain ⟨k1, k2⟩ := ba b
      refine ⟨?_, fnS k2, of_decide_eq_true k4⟩
      have : (t.tb K).fn l = He.ga K x := by
        show He.fAd K (atOf t l) = _
        rw [of_decide_eq_true k3]
        rfl
      rw [this]
      exact He.glo_ok X G (faGlo_ok sy k1)
    | cls d =>
      obtain ⟨b, k3⟩ := ba b
      obtain ⟨k1, k2⟩ := ba b
      refine ⟨?_, by rw [Bool.not_eq_true'] at k3; exact k3⟩
      have e2 := sq_ok k2
      dsimp only at e2 k1
      rw [e2] at k1 ⊢
      exact He.glo_ok X G (faGlo_ok sy k1)
  refine ⟨⟨?_, ?_, ?_, ?_, ?_, ?_, ?_, fun l hl => b7 l hl, ?_, ?_, ?_, ?_, ?_⟩, ?_⟩
  · intro l n N m b0 e
    obtain ⟨r, e1, rfl, rfl, rfl, hb0⟩ := fn_some e
    obtain ⟨hm, _⟩ := findR_ok e1
    have b := b1 r hm
    unfold rowB at b
    obtain ⟨b, k5⟩ := ba b
    obtain ⟨b, k4⟩ := ba b
    obtain ⟨b, k3⟩ := ba b
    obtain ⟨k1, k2⟩ := ba b
    obtain ⟨S, hn⟩ := scopeB_ok k1
    obtain ⟨p1, p2, p3, p4, p5⟩ := parB_ok k2
    obtain ⟨i, hi⟩ := List.getElem?_of_mem (List.mem_map.mpr ⟨r, hm, rfl⟩ : r.d ∈ t.rows.map (·.d))
    obtain ⟨fd, F⟩ := sy.def_ i hi
    have e4 : r.d.kws K = [] := by unfold He.DefD.kws; rw [List.isEmpty_iff.mp k4]; rfl
    rw [e4] at F
    rw [at_row e1]
    have hrl : r.l = l := (findR_ok e1).2
    have hlv : (if decide (r.l ∈ t.lams) = true then 2 else 0) = lvl b0 := by rw [hrl, hb0]; rfl
    rw [hlv, hrl] at k5
    have hdp : t.prog.dfl l = (match r.d.dfl with
        | [.int i] => some i
        | _ => none) := by
      show (match findR l t.rows with
        | some r => (match r.d.dfl with
          | [.int i] => some i
          | _ => none)
        | none => none) = _
      rw [e1]
    have nd := S.nd.sublist (List.take_sublist r.n r.N)
    have hat : atOf t l = r.d.at_ := by unfold atOf; rw [e1]
    refine ⟨_, _, _, _, _, fd, r.N, _, F, S, hn, rfl, ?_, k5, fun hlam => ?_⟩
    · unfold dflB at k3
      split at k3
      · rename_i e5
        have e3 : r.d.dvs K = [] := by unfold He.DefD.dvs; rw [e5]; rfl
        rw [e3] at F
        refine ⟨F.bindsN fun kV doc pm an cdv ct us hl => bind_plain p1 p2 p3 p4 p5 nd hl, fun _ => F.bindsA fun kV doc pm an cdv ct us hl => bind_plain p1 p2 p3 p4 p5 nd hl, fun v hv => ?_⟩
        rw [hdp, e5] at hv
        cases hv
      · rename_i i0 e5
        have e3 : r.d.dvs K = [.int i0] := by unfold He.DefD.dvs; rw [e5]; rfl
        rw [e3] at F
        have hn0 : 1 ≤ r.n := of_decide_eq_true k3
        have hl0 : (r.N.take r.n).length = r.n := by rw [List.length_take]; omega
        obtain ⟨qs, z, hqz⟩ : ∃ qs z, r.N.take r.n = qs ++ [z] := by
          rcases List.eq_nil_or_concat (r.N.take r.n) with hz | ⟨qs, z, hz⟩
          · rw [hz] at hl0; simp at hl0; omega
          · exact ⟨qs, z, by rw [hz, List.concat_eq_append]⟩
        rw [hqz] at p5 nd ⊢
        have hd1 : t.prog.dfl l = some i0 := by rw [hdp, e5]
        refine ⟨?_, (fun hz => absurd (hd1.symm.trans hz) (by simp)), fun v hv => ?_⟩
        · obtain ⟨ds, rd, B⟩ := F.binds1 (ps := qs ++ [z]) (qs ++ [z]).length 1 (by simp) (by simp) fun T kV doc pm an cdv ct us its h1 h2 => by
            obtain ⟨d, rfl⟩ := List.length_eq_one_iff.mp (show its.length = 1 from h2)
            obtain ⟨k, e6, e7⟩ := bind_dfl (x := r.d.name) (qual := r.d.qual) (body := r.d.body) (scope := r.d.scope) (T := T) (kV := kV) (doc := doc) (pm := pm) (an := an) (cdv := cdv) (ct := ct) (d := d) p1 p2 p3 p4 p5 nd h1
            exact ⟨k, e6, by rw [e7]; simp⟩
          cases rd
          exact B
        · obtain rfl : i0 = v := Option.some.inj (hd1.symm.trans hv)
          obtain ⟨ds, rd, B⟩ := F.binds1 (ps := qs ++ [z]) qs.length 0 (by simp) (by simp) fun T kV doc pm an cdv ct us its h1 h2 => by
            obtain ⟨d, rfl⟩ := List.length_eq_one_iff.mp (show its.length = 1 from h2)
            obtain ⟨k, e6, e7⟩ := bind_dfl1 (x := r.d.name) (qual := r.d.qual) (body := r.d.body) (scope := r.d.scope) (T := T) (kV := kV) (doc := doc) (pm := pm) (an := an) (cdv := cdv) (ct := ct) (d := d) p1 p2 p3 p4 p5 nd h1
            exact ⟨k, e6, e7⟩
          obtain ⟨u, rfl, hu⟩ := vals1 rd
          obtain ⟨tk, rfl⟩ : ∃ tk, u = .int i0 tk := hu
          exact ⟨tk, B⟩
      · cases k3
    · have hlm : l ∈ t.lams := of_decide_eq_true (show decide (l ∈ t.lams) = true from hb0.trans hlam)
      obtain ⟨c1, c2, c3⟩ := lamXB_ok (hxl l hlm)
      have hq : lamQ t l = (r.d.qual ++ ".<locals>.") ++ "<lambda>" := by unfold lamQ qualOf; rw [e1]
      refine ⟨(He.cT K (atOf t l)).1, (He.cT K (atOf t l)).2, by rw [← hat]; exact c1, List.mem_map.mpr ⟨l, hlm, rfl⟩, List.mem_map.mpr ⟨l, hlm, by rw [hq]⟩, fun p hp hpe => ?_⟩
      obtain ⟨l', hl', rfl⟩ := List.mem_map.mp hp
      have : l' = l := by
        have hxn' : (t.lams.map fun l => (He.cT K (atOf t l)).2).Nodup := by
          have := hxn
          unfold Tabl.lamA Tabl.lamP at this
          rw [List.map_map] at this
          exact this
        exact nodup_snd hxn' l' hl' l hlm hpe
      rw [this]
      exact hq
  · intro l c' i e
    obtain ⟨⟨r, e1, e2⟩, rfl, e3, M, C, hb⟩ := mk_all e
    refine ⟨⟨r.n, r.N.length, r.m, decide (r.l ∈ t.lams), ?_⟩, by rw [e2, e3]; exact M, e3.symm, C, hb⟩
    show t.fn i = _
    unfold Tabl.fn
    rw [e1]
  · exact GL
  · intro cl m l e
    have e : t.mth cl m = some l := e
    unfold Tabl.mth at e
    by_cases z : (cl, m) ∈ t.mths
    · rw [if_pos z] at e
      cases e
      have b := b4 _ z
      unfold mthB at b
      obtain ⟨k1, k2⟩ := ba b
      cases e2 : findR (cl ++ "." ++ m) t.rows with
      | none => dsimp only at k2; rw [e2] at k2; cases k2
      | some r =>
        dsimp only at k2
        rw [e2] at k2
        rw [at_row e2, of_decide_eq_true k2]
        refine ⟨He.meth_ok (faMeth_ok sy k1), ?_⟩
        show (t.fn _).isSome = true
        unfold Tabl.fn
        rw [e2]
        rfl
    · rw [if_neg z] at e; cases e
  · exact fun call => isi_ok t K hx call
  · intro cl f e
    have b := b5 _ (of_decide_eq_true (show decide ((cl, f) ∈ t.flds) = true from e))
    exact He.noat_ok (faNoat_ok sy b)
  · intro c e
    exact exc0B_ok (hxe _ (assoc_ok (show assoc c t.exc = some [] from e)))
  · intro l c i e hl
    obtain ⟨z, _, rfl, _⟩ := mk_some e
    have b := b8 _ z
    rw [Bool.or_eq_true, Bool.not_eq_true', decide_eq_false_iff_not, decide_eq_true_eq] at b
    exact b.resolve_left fun q => q hl
  · intro m hm c l e
    have e : t.mth c m = some l := e
    unfold Tabl.mth at e
    by_cases z : (c, m) ∈ t.mths
    · rw [if_pos z] at e
      cases e
      have b := b9 _ z
      rw [Bool.or_eq_true, Bool.not_eq_true', decide_eq_false_iff_not, decide_eq_true_eq] at b
      exact b.resolve_left fun q => q hm
    · rw [if_neg z] at e; cases e
  · intro c n ns e
    have hm := assoc_ok (show assoc c t.exc = some (n :: ns) from e)
    have k := hxe _ hm
    have b := b6 _ hm
    unfold excB at k
    unfold excTB at b
    dsimp only at k b
    simp only [Bool.and_eq_true] at k
    obtain ⟨k1, k2, k3, k4, k5, k6⟩ := k
    refine ⟨oexB_ok k1, ?_⟩
    split at b
    · rename_i r e1
      obtain ⟨hr, _⟩ := findR_ok e1
      obtain ⟨hde, b⟩ := ba b
      have c1 : r.d.at_ = (Str.ofString c, some (Str.ofString "__init__")) := by
        split at b
        · exact of_decide_eq_true (Bool.and_eq_true _ _ ▸ b).1
        · exact of_decide_eq_true (Bool.and_eq_true _ _ ▸ b).1
      have q := b1 r hr
      unfold rowB at q
      obtain ⟨q, q5⟩ := ba q
      obtain ⟨q, q4⟩ := ba q
      obtain ⟨q, q3⟩ := ba q
      obtain ⟨q1, q2⟩ := ba q
      obtain ⟨S, hn⟩ := scopeB_ok q1
      obtain ⟨p1, p2, p3, p4, p5⟩ := parB_ok q2
      obtain ⟨i, hi⟩ := List.getElem?_of_mem (List.mem_map.mpr ⟨r, hr, rfl⟩ : r.d ∈ t.rows.map (·.d))
      obtain ⟨fd, F⟩ := sy.def_ i hi
      have e3 : r.d.dvs K = [] := by unfold He.DefD.dvs; rw [List.isEmpty_iff.mp hde]; rfl
      have e4 : r.d.kws K = [] := by unfold He.DefD.kws; rw [List.isEmpty_iff.mp q4]; rfl
      rw [e3, e4] at F
      rw [c1] at F
      have hB : Binds K fd (r.N.take r.n) [] := F.bindsN fun kV doc pm an cdv ct us hl => bind_plain p1 p2 p3 p4 p5 (S.nd.sublist (List.take_sublist _ _)) hl
      by_cases hv : isVB r.d.body = true
      · rw [if_pos hv] at b
        simp only [Bool.and_eq_true, decide_eq_true_eq] at b
        obtain ⟨_, c2, c3, c4, c5⟩ := b
        have hM : mg "ValueError" = none := by
          split at c3
          · rename_i e5
            exact GL _ _ e5
          · cases c3
        unfold glB at c2
        rw [Bool.and_eq_true] at c2
        have hGl : r.d.scope.names.lookup ("ValueError" : Str) = some .globalImplicit := of_decide_eq_true c2.1
        have hnos : ∀ f ∈ n :: ns, PySem.W.findIn K (.ref (He.ga K (Str.ofString c))) (Str.ofString f) = some none := fun f hf => He.eqO_ok (List.all_eq_true.mp k6 f hf)
        refine ⟨fd, r.N.take r.n, He.ma K (He.ga K (Str.ofString c)) "__init__", He.eqO_ok k2, of_decide_eq_true k3, hB, fun prog w base => ?_⟩
        have hN : r.N.take r.n = r.N := by rw [← c4, List.take_length]
        split at c5
        · rename_i f sx x ens eN
          cases ens
          simp only [Bool.and_eq_true] at c5
          obtain ⟨v0, v1, n0, n1, hb⟩ := c5
          refine ⟨?_, ?_⟩
          · refine F.ok (k := 0) S (fun vs H Q E z => ?_) fun cdv A outer s H vs Q E hr sp => ?_
            · obtain ⟨a, ws, rfl, hl, _⟩ := z
              rw [hN, eN, List.length_cons, hl]
              rfl
            · obtain ⟨a, ws, rfl, hl, ha, hq⟩ := sp
              obtain ⟨w1, rfl⟩ := List.length_eq_one_iff.mp hl
              obtain ⟨tt, ht, hgo⟩ := iniV_ok (X := cxOf (L2.CX prog w) prog w K mg base r.N r.d.qual r.d.scope (He.ma K (He.ga K (Str.ofString c)) "__init__") cdv A outer s H E) (C := He.ga K (Str.ofString c)) hGl hM (oexB_ok k1) (hnos n List.mem_cons_self) (by show r.N[0]? = _; rw [eN]; rfl) (by show r.N[1]? = _; rw [eN]; rfl) (visB_ok v0) (visB_ok v1) n0 n1 hb
              exact ⟨tt, ht, hgo a w1 H _ ha fun dx H' h1 h2 h3 h4 h5 => hq dx H' h1 h2 h3 h4 h5⟩
          · refine FunD_okH (k := 0) F S (fun vs H Q E z => ?_) fun cdv A outer s H vs Q E p sp => ?_
            · obtain ⟨a, ws, rfl, hl, _⟩ := z
              rw [hN, eN, List.length_cons, hl]
              rfl
            · obtain ⟨a, ws, rfl, hl, ha, hq⟩ := sp
              obtain ⟨w1, rfl⟩ := List.length_eq_one_iff.mp hl
              obtain ⟨tt, ht, hgo⟩ := iniV_ok (X := L2H.cxH (L2.CX prog w) prog w K mg base r.N r.d.qual r.d.scope (He.ma K (He.ga K (Str.ofString c)) "__init__") cdv A outer s H E p) (C := He.ga K (Str.ofString c)) hGl hM (oexB_ok k1) (hnos n List.mem_cons_self) (by show r.N[0]? = _; rw [eN]; rfl) (by show r.N[1]? = _; rw [eN]; rfl) (visB_ok v0) (visB_ok v1) n0 n1 hb
              exact ⟨tt, ht, hgo a w1 H _ ha fun dx H' h1 h2 h3 h4 h5 => hq dx H' h1 h2 h3 h4 h5⟩
        · cases c5
      rw [if_neg hv] at b
      simp only [Bool.and_eq_true, decide_eq_true_eq] at b
      obtain ⟨_, c2, c3, c4, c5⟩ := b
      have hM : mg "MakesError" = some (.ref ((t.tb K).cls "MakesError")) := by
        split at c3
        · rename_i d e5
          obtain rfl := of_decide_eq_true c3
          exact (GL _ _ e5).1
        · cases c3
      have hBI : BaseI K ((t.tb K).cls "MakesError") := baseB_ok k4
      unfold glB at c2
      rw [Bool.and_eq_true] at c2
      have hGl : r.d.scope.names.lookup ("MakesError" : Str) = some .globalImplicit := of_decide_eq_true c2.1
      have hnos : ∀ f ∈ n :: ns, PySem.W.findIn K (.ref (He.ga K (Str.ofString c))) (Str.ofString f) = some none := fun f hf => He.eqO_ok (List.all_eq_true.mp k6 f hf)
      refine ⟨fd, r.N.take r.n, He.ma K (He.ga K (Str.ofString c)) "__init__", He.eqO_ok k2, of_decide_eq_true k3, hB, fun prog w base => ?_⟩
      have hN : r.N.take r.n = r.N := by rw [← c4, List.take_length]
      split at c5
      · rename_i f sx x ens eN
        cases ens
        simp only [Bool.and_eq_true] at c5
        obtain ⟨v0, v1, n0, n1, hb⟩ := c5
        refine ⟨?_, ?_⟩
        · refine F.ok (k := 0) S (fun vs H Q E z => ?_) fun cdv A outer s H vs Q E hr sp => ?_
          · obtain ⟨a, ws, rfl, hl, _⟩ := z
            rw [hN, eN, List.length_cons, hl]
            rfl
          · obtain ⟨a, ws, rfl, hl, ha, hq⟩ := sp
            obtain ⟨w1, rfl⟩ := List.length_eq_one_iff.mp hl
            obtain ⟨tt, ht, hgo⟩ := ini1_ok (X := cxOf (L2.CX prog w) prog w K mg base r.N r.d.qual r.d.scope (He.ma K (He.ga K (Str.ofString c)) "__init__") cdv A outer s H E) (C := He.ga K (Str.ofString c)) (M := (t.tb K).cls "MakesError") hGl hM hBI c2.2 (oexB_ok k1) (hnos n List.mem_cons_self) (by show r.N[0]? = _; rw [eN]; rfl) (by show r.N[1]? = _; rw [eN]; rfl) (visB_ok v0) (visB_ok v1) n0 n1 hb
            exact ⟨tt, ht, hgo a w1 H _ ha fun dx H' h1 h2 h3 h4 h5 => hq dx H' h1 h2 h3 h4 h5⟩
        · refine FunD_okH (k := 0) F S (fun vs H Q E z => ?_) fun cdv A outer s H vs Q E p sp => ?_
          · obtain ⟨a, ws, rfl, hl, _⟩ := z
            rw [hN, eN, List.length_cons, hl]
            rfl
          · obtain ⟨a, ws, rfl, hl, ha, hq⟩ := sp
            obtain ⟨w1, rfl⟩ := List.length_eq_one_iff.mp hl
            obtain ⟨tt, ht, hgo⟩ := ini1_ok (X := L2H.cxH (L2.CX prog w) prog w K mg base r.N r.d.qual r.d.scope (He.ma K (He.ga K (Str.ofString c)) "__init__") cdv A outer s H E p) (C := He.ga K (Str.ofString c)) (M := (t.tb K).cls "MakesError") hGl hM hBI c2.2 (oexB_ok k1) (hnos n List.mem_cons_self) (by show r.N[0]? = _; rw [eN]; rfl) (by show r.N[1]? = _; rw [eN]; rfl) (visB_ok v0) (visB_ok v1) n0 n1 hb
            exact ⟨tt, ht, hgo a w1 H _ ha fun dx H' h1 h2 h3 h4 h5 => hq dx H' h1 h2 h3 h4 h5⟩
      · rename_i f f2 sx x x2 ens eN
        cases ens
        simp only [Bool.and_eq_true] at c5
        obtain ⟨v0, v1, v2, n0, n1, n2, hb⟩ := c5
        refine ⟨?_, ?_⟩
        · refine F.ok (k := 0) S (fun vs H Q E z => ?_) fun cdv A outer s H vs Q E hr sp => ?_
          · obtain ⟨a, ws, rfl, hl, _⟩ := z
            rw [hN, eN, List.length_cons, hl]
            rfl
          · obtain ⟨a, ws, rfl, hl, ha, hq⟩ := sp
            obtain ⟨w1, w2, rfl⟩ : ∃ w1 w2, ws = [w1, w2] := by
              match ws, hl with
              | [w1, w2], _ => exact ⟨w1, w2, rfl⟩
            obtain ⟨tt, ht, hgo⟩ := ini2_ok (X := cxOf (L2.CX prog w) prog w K mg base r.N r.d.qual r.d.scope (He.ma K (He.ga K (Str.ofString c)) "__init__") cdv A outer s H E) (C := He.ga K (Str.ofString c)) (M := (t.tb K).cls "MakesError") hGl hM hBI c2.2 (oexB_ok k1) (hnos n List.mem_cons_self) (hnos f2 (List.mem_cons_of_mem _ List.mem_cons_self)) (by show r.N[0]? = _; rw [eN]; rfl) (by show r.N[1]? = _; rw [eN]; rfl) (by show r.N[2]? = _; rw [eN]; rfl) (visB_ok v0) (visB_ok v1) (visB_ok v2) n0 n1 n2 hb
            exact ⟨tt, ht, hgo a w1 w2 H _ ha fun dx H' h1 h2 h3 h4 h5 => hq dx H' h1 h2 h3 h4 h5⟩
        · refine FunD_okH (k := 0) F S (fun vs H Q E z => ?_) fun cdv A outer s H vs Q E p sp => ?_
          · obtain ⟨a, ws, rfl, hl, _⟩ := z
            rw [hN, eN, List.length_cons, hl]
            rfl
          · obtain ⟨a, ws, rfl, hl, ha, hq⟩ := sp
            obtain ⟨w1, w2, rfl⟩ : ∃ w1 w2, ws = [w1, w2] := by
              match ws, hl with
              | [w1, w2], _ => exact ⟨w1, w2, rfl⟩
            obtain ⟨tt, ht, hgo⟩ := ini2_ok (X := L2H.cxH (L2.CX prog w) prog w K mg base r.N r.d.qual r.d.scope (He.ma K (He.ga K (Str.ofString c)) "__init__") cdv A outer s H E p) (C := He.ga K (Str.ofString c)) (M := (t.tb K).cls "MakesError") hGl hM hBI c2.2 (oexB_ok k1) (hnos n List.mem_cons_self) (hnos f2 (List.mem_cons_of_mem _ List.mem_cons_self)) (by show r.N[0]? = _; rw [eN]; rfl) (by show r.N[1]? = _; rw [eN]; rfl) (by show r.N[2]? = _; rw [eN]; rfl) (visB_ok v0) (visB_ok v1) (visB_ok v2) n0 n1 n2 hb
            exact ⟨tt, ht, hgo a w1 w2 H _ ha fun dx H' h1 h2 h3 h4 h5 => hq dx H' h1 h2 h3 h4 h5⟩
      · cases c5
    · cases b
  · intro c ns e f hf
    have hm := assoc_ok (show assoc c t.exc = some ns from e)
    have k := hxe _ hm
    unfold excB at k
    cases ns with
    | nil => cases hf
    | cons n ns =>
      dsimp only at k
      simp only [Bool.and_eq_true] at k
      obtain ⟨k1, k2, k3, k4, k5, k6⟩ := k
      exact ⟨xfB_ok k5, He.eqO_ok (List.all_eq_true.mp k6 f hf)⟩
  · intro e c b h
    have k := hxs _ (findX_ok (show findX e c t.sub = some b from h))
    unfold subB at k
    simp only [Bool.and_eq_true, decide_eq_true_eq] at k
    exact ⟨k.2.1, k.2.2.1, exccB_ok k.2.2.2⟩
  · intro l c' i e
    obtain ⟨_, rfl, e3, M, _, _⟩ := mk_all e
    rw [e3]
    exact M.kp
/-! ### the Hook: facts of the head, defs, own facts, tables of code objects -/
def tabG (g : Addr → Option PySem.Obj) (as : List Addr) : Bool := as.all fun P => match g P with
  | some o => He.emptyTab o
  | none => false
def obsX (n : Nat) (fa : List He.Fa) (fn : List He.DefD) (xs : Frag → Bool) (la : Frag → List Addr) (g : Addr → Option PySem.Obj) : He.AlD × Bool := (He.obsD fa fn (He.frT g (PySem.cStatics :: He.asD g n)), xs (He.frT g (PySem.cStatics :: He.asD g n)) && tabG g (la (He.frT g (PySem.cStatics :: He.asD g n))))
def SaysY (fa : List He.Fa) (fn : List He.DefD) (xs : Frag → Bool) (la : Frag → List Addr) (h : Heap) : Prop := ∃ K : PySem.W.Frag, K.In h ∧ He.SaysD fa fn K ∧ xs K = true ∧ ∀ P ∈ la K, h.get? P = some { cls := .none, data := .fields #[] }
theorem tabG_ok {g : Addr → Option PySem.Obj} {as : List Addr} (h : tabG g as = true) : ∀ P ∈ as, g P = some { cls := .none, data := .fields #[] } := fun P hP => by
  have h4 := List.all_eq_true.mp h P hP
  cases q : g P with
  | none => rw [q] at h4; cases h4
  | some o => rw [q] at h4; rw [He.emptyTab_eq h4]
def hookX (n : Nat) (fa : List He.Fa) (fn : List He.DefD) (xs : Frag → Bool) (la : Frag → List Addr) : PySem.W.Hook where
  α := He.AlD × Bool
  obs := fun s => obsX n fa fn xs la s.heap.get?
  val := fun _ => (He.valD fn, true)
  says := fun _ h => SaysY fa fn xs la h
  of := fun _ _ e => ⟨_, He.frT_in, congrArg (fun z : He.AlD × Bool => z.1) e, (ba (congrArg (fun z : He.AlD × Bool => z.2) e)).1, tabG_ok (ba (congrArg (fun z : He.AlD × Bool => z.2) e)).2⟩
  keeps := fun _ _ _ ⟨K, hK, c, x, t⟩ k => ⟨K, PySem.W.Frag.In.keeps hK k, c, x, fun P hP => k _ _ (t P hP)⟩
theorem obsX_eq {n : Nat} {fa : List He.Fa} {fn : List He.DefD} {xs : Frag → Bool} {la : Frag → List Addr} {g : Addr → Option PySem.Obj} {s : Shared} (h : ∀ a, g a = s.heap.get? a) : obsX n fa fn xs la g = (hookX n fa fn xs la).obs s := by
  have e : g = s.heap.get? := funext h
  rw [e] <;> rfl
/-! ### the end -/
theorem cx_nil {prog : Program} {w : World} (H : Hp) (s : Shared) (e : Value) (s' : Shared) (h : L2.CX prog w [] H s (fun _ _ _ => False) e s') : False := by
  obtain ⟨a, B, H', cls, d, _, _, _, _, _, _, _, z⟩ := h
  exact z
/-- what a law's run must come to -/
def LawOk (P : Prog) : Prop := ∀ (ns : List Int), ns.length ≤ 63 → (∀ z ∈ ns, Builtin.Int.intBits z ≤ 1048576) → ∀ h : VH, (∀ a, h a = none) → Sem P 200 "law" [.rls (ns.map .int)] h (fun v _ => v = .bl true) (fun _ _ => False)
/-- the law's promise -/
def lawSp (P : Prog) (T : Tb) (K : Frag) : Sp := fun vs H Q E => vs.length = 1 ∧ ∃ (a : Addr) (ns : List Int), vs = [.ref a] ∧ SqL K H a (ns.map V.int) ∧ LamX.Tabs T.tabs H ∧ Sem P 200 "law" [.rls (ns.map .int)] (fun _ => none) (fun v _ => v = .bl true) (fun _ _ => False) ∧ ∀ H', Q (.bl true) H'
theorem rvs_ints {T : Tb} {K : Frag} {H : Hp} : ∀ ns : List Int, RVs T K H (ns.map .int) (ns.map V.int)
  | [] => .nil
  | n :: ns => .cons (rv_int.mpr rfl) (rvs_ints ns)
theorem walk_law {l : PySem.W.OpenLaw} {q : Program} {loose : List Str} {XP : (Str → Option Value) → Heap → Prop} {d : DefRec} {t : Tabl} {fn : List He.DefD} {fa : List He.Fa} {YP : World → Heap → Prop}
    (hYP : ∀ w h, YP w h → SaysY fa fn t.xs t.lamA h) (hfa : fa = t.fa) (hf : fn = t.rows.map (·.d)) (hB : tabB t = true) (hn : l.most = some 63) (hdf : d.params.defaults = []) (hdn : d.name = ("law" : Str)) (hr : Room 202 callerA)
    (hl : glk t.gl "law" = some (.fn "law")) {N : Nat} {m : Ss} {b : Bool} (hP : t.fn "law" = some (.fn 1 N m b)) (hd0 : (match findR "law" t.rows with
      | some r => r.d.dfl.isEmpty
      | none => false) = true) (ok : LawOk t.prog) :
    PySem.W.WalkO q loose XP YP l.row.toRowW d [] (fun f vs => PySem.call f vs) := by
  refine Att.attach_callB hn hdf fun w s₀ s₁ mg mb f o pm cd doc a vs ns G Y ho hd hcd hmg hobj hints hlen hbits hg => ?_
  obtain ⟨K, KX, c, cx, hTA⟩ := hYP w _ Y
  subst hfa
  obtain ⟨Gd, kp⟩ := good_of hf hB KX G.T.g c cx
  have e := Gd.gl _ _ hl
  rw [hdn] at hmg
  have ef : f = (t.tb K).fn "law" := by
    have := hmg.symm.trans e.1
    cases this
    rfl
  have hlx : ∀ l ∈ t.lams, lamXB t K l = true := by
    obtain ⟨_, z⟩ := Bool.and_eq_true_iff.mp cx
    obtain ⟨_, z⟩ := Bool.and_eq_true_iff.mp z
    obtain ⟨_, z⟩ := Bool.and_eq_true_iff.mp z
    obtain ⟨_, z⟩ := Bool.and_eq_true_iff.mp z
    exact List.all_eq_true.mp (Bool.and_eq_true_iff.mp z).1
  have hT : ∀ p ∈ t.lamP K, s₁.heap.get? p.2 = some { cls := .none, data := .fields #[] } := fun p hp => hTA _ (List.mem_map.mpr ⟨p, hp, rfl⟩)
  have nT : ∀ p ∈ t.lamP K, K.lookup p.2 = none := fun p hp => by
    obtain ⟨l, hl, rfl⟩ := List.mem_map.mp hp
    exact (lamXB_ok (hlx l hl)).2.2
  have hC : ∀ p ∈ t.lamP K, PySem.W.CodeHd s₁.heap p.1 p.2 := fun p hp => by
    obtain ⟨l, hl, rfl⟩ := List.mem_map.mp hp
    exact PySem.W.codeHd_of_K KX (lamXB_ok (hlx l hl)).2.1
  have sp0 : ∃ (fd : FuncData) (x : Str), (∀ (s : Shared) (u : Value), BindsTo s fd ⟨[u], []⟩ [(x, u)]) ∧ ∀ base : Heap, K.In base → base.Ns mainGlobals mg → (∀ p ∈ t.lamP K, LamX.TabB base mg p.1 p.2) → FnOk l.prog w K mg base (L2.CX l.prog w) 202 ((t.tb K).fn "law") fd [x] (lawSp t.prog (t.tb K) K) := by
    obtain ⟨x', qual, params, body, sc, fd, names, dvs, F, S, hn1, hN1, hb1, hc1, hlam⟩ := Gd.fn "law" 1 N m b hP
    have hl1 : (names.take 1).length = 1 := by rw [List.length_take]; omega
    obtain ⟨x, hx⟩ := List.length_eq_one_iff.mp hl1
    have hdv : t.prog.dfl "law" = none := by
      show (match findR "law" t.rows with
        | some r => (match r.d.dfl with
          | [.int i] => some i
          | _ => none)
        | none => none) = _
      split at hd0
      · rename_i r e1
        rw [List.isEmpty_iff.mp hd0]
      · cases hd0
    refine ⟨fd, x, fun s u => by have z := hb1.2.1 hdv s [u] (by rw [hl1]; rfl); rw [hx] at z; exact z, fun base KB NB TB => ?_⟩
    rw [← hx]
    refine FunD_okc F S (fun vs H Q E z => by rw [hl1]; exact z.1) fun cdv A outer s H vs Q E hcdv hr sp => ?_
    obtain ⟨hv, a, ns, rfl, hS, hTb, z, hq⟩ := sp
    have hP' : t.prog.fn "law" = some (.fn 1 N m b) := hP
    subst hN1
    have core : ∀ d0, (b = true → Room (d0 + 3) (A.deeper (envOfC qual sc s.heap.objs.size ((t.tb K).fn "law") cdv))) → Room (d0 + 2) (A.deeper (envOfC qual sc s.heap.objs.size ((t.tb K).fn "law") cdv)) →
        wpSs (t.prog.gam (Sem t.prog d0)) m ([Val.rls (ns.map .int)].map some ++ List.replicate (names.length - 1) none) (fun _ => none) ⟨fun _ h => (fun v _ => v = Val.bl true : KV) .non h, fun v _ => v = .bl true, fun e _ h => False⟩ →
        ∃ tt, PSs (cxOf (L2.CX l.prog w) l.prog w K mg base names qual sc ((t.tb K).fn "law") cdv A outer s H E) body tt ∧ tt { nx := fun _ H' => Q .non H', rt := Q } (start names [V.ref a]) H := by
      intro d0 hr3 hr2 z2
      have fin : ∀ {σ : VS} {h : VH}, wpSs (t.prog.gam (Sem t.prog d0)) m σ h ⟨fun _ h => (fun v _ => v = Val.bl true : KV) .non h, fun v _ => v = .bl true, fun e _ h => False⟩ → wpSs (t.prog.gam (Sem t.prog d0)) m σ h ⟨fun _ h => dn (t.tb K) K H Q .non h, dn (t.tb K) K H Q, fun e _ h => dx (t.tb K) K H E e h⟩ := fun w => by
        refine wpSs_mono (Sem.le t.prog d0) m _ _ _ _ ⟨fun σ h' q => (nomatch (show Val.non = Val.bl true from q)), fun v h' q => ?_, fun e σ h' q => False.elim q⟩ w
        have q : v = .bl true := q
        subst q
        intro y H' l1 rh' ry
        rw [rv_bl.mp ry]
        exact hq H'
      by_cases hL : H a = some (.lst (ns.map V.int))
      · have hc2 : chkSs ⟨names, sc, none, t.gl, false, none, lvl b, decide ("law" ∈ t.nxl), t.nxl, t.nxm, true⟩ (.cons (.frz 0) m) body = true := hc1
        refine body_ok Gd kp TB (all_ok Gd kp TB d0) (fun e he => all_ok Gd kp TB e) S (.inl rfl) hc2 hlam hcdv hr2 hr3 (vals := [.ref a]) (h := up (fun _ => none) a (.lst (ns.map .int))) (.cons (rv_ref.mpr rfl) .nil) ⟨fun b o e => ?_, hTb⟩ ?_
        · by_cases hb : b = a
          · subst hb
            rw [show up (fun _ => none) b (.lst (ns.map .int)) b = some (Obj.lst (ns.map .int)) from if_pos rfl] at e
            cases e
            exact ⟨_, hL, _, rfl, rvs_ints ns⟩
          · rw [show up (fun _ => none) a (.lst (ns.map .int)) b = none from if_neg hb] at e
            cases e
        · have e1 : del (up (fun _ => none) a (.lst (ns.map .int))) a = (fun _ => none : VH) := by
            funext b
            unfold del up
            by_cases hb : b = a
            · rw [if_pos hb]
            · rw [if_neg hb, if_neg hb]
          have e2 : up (fun _ => none) a (.lst (ns.map .int)) a = some (Obj.lst (ns.map .int)) := if_pos rfl
          unfold wpSs wpS
          simp only [List.map_cons, List.map_nil, List.cons_append, List.nil_append, sget, frzV, e2, sset, e1]
          exact fin z2
      · refine body_ok Gd kp TB (all_ok Gd kp TB d0) (fun e he => all_ok Gd kp TB e) S (.inl rfl) hc1 hlam hcdv hr2 hr3 (vals := [.rls (ns.map .int)]) (h := fun _ => none) (.cons (rv_rls.mpr ⟨a, ns.map V.int, rfl, ?_, rvs_ints ns⟩) .nil) ⟨(fun b o e => nomatch e), hTb⟩ ?_
        · rcases hS with (hS | hS) | hS
          · exact absurd hS hL
          · exact .inl hS
          · exact .inr hS
        · exact fin z2
    cases b with
    | false =>
      have z : Sem t.prog (199 + 1) "law" _ _ _ _ := z
      rw [Sem_fnE hP'] at z
      exact core 199 (fun z => nomatch z) hr z.2
    | true =>
      have z : Sem t.prog (198 + 2) "law" _ _ _ _ := z
      rw [Sem_fnL hP'] at z
      exact core 198 (fun _ => hr) (hr.mono (by omega)) z.2
  obtain ⟨fd, x, q2, q4⟩ := sp0
  refine LamX.law_callTs (cs := t.lamP K) KX G.T.g G.T.b G.T.builtins G.T.nolimit hg hT nT hC G.T.bmain hobj hints (Nat.le_trans hlen (by rw [sizeLine_eq]; decide)) hr (fun base KB NB TB => by rw [ef]; exact q4 base KB NB TB) q2 (fun H hH hS => ?_) fun H e s' z => cx_nil H s₁ e s' z
  refine ⟨rfl, a, ns, rfl, hS, fun p hp => ?_, ok ns hlen hbits _ fun _ => rfl, fun _ => rfl⟩
  obtain ⟨l, hl, rfl⟩ := List.mem_map.mp hp
  exact .nil (hH _ (List.mem_map.mpr ⟨l, hl, rfl⟩))
end MP
end
section
set_option maxHeartbeats 4000000
/-! MpU: running code by simp: the meaning's equations with named continuations. -/
namespace MP
section
variable {Γ : Gam} {σ : VS} {h h1 : VH} {Q : KV} {X : KX} {D : Ds}
/-! ### named continuations -/
def kVar (Q : KV) (h : VH) : Option Val → Prop
  | some v => Q v h
  | none => False
def kBop2 (o : Bop) (x : Val) (Q : KV) : KV := fun y h => (bopR o x y h).wp h Q
def kBop1 (Γ : Gam) (o : Bop) (b : E) (σ : VS) (Q : KV) (X : KX) : KV := fun x h => wpE Γ b σ h (kBop2 o x Q) X
def kNeg (Q : KV) : KV := fun x h => (negR x).wp h Q
def kInv (Q : KV) : KV := fun x h => (invR x).wp h Q
def kTB (k : Bool → VH → Prop) (h : VH) : Bool → Prop := fun t => k t h
def kT (k : Bool → VH → Prop) : KV := fun x h => (truB x h).wp (kTB k h)
def kNotB (Q : KV) : Bool → VH → Prop := fun t h => Q (.bl (!t)) h
def kBl (Q : KV) : Bool → VH → Prop := fun t h => Q (.bl t) h
def kCmp2 (o : Cop) (x : Val) (Q : KV) : KV := fun y h => (cmpR o x y h).wp (kTB (kBl Q) h)
def kCmp1 (Γ : Gam) (o : Cop) (b : E) (σ : VS) (Q : KV) (X : KX) : KV := fun x h => wpE Γ b σ h (kCmp2 o x Q) X
def kChnB (Γ : Gam) (p : Cop) (y : Val) (c : E) (σ : VS) (Q : KV) (X : KX) : Bool → VH → Prop
  | true => fun h => wpE Γ c σ h (kCmp2 p y Q) X
  | false => fun h => Q (.bl false) h
def kChn2 (Γ : Gam) (o p : Cop) (x : Val) (c : E) (σ : VS) (Q : KV) (X : KX) : KV := fun y h => (cmpR o x y h).wp (kTB (kChnB Γ p y c σ Q X) h)
def kChn1 (Γ : Gam) (o p : Cop) (b c : E) (σ : VS) (Q : KV) (X : KX) : KV := fun x h => wpE Γ b σ h (kChn2 Γ o p x c σ Q X) X
def kIsn (b : Bool) (Q : KV) : KV := fun x h => Q (.bl (isN x == b)) h
def kIfe (Γ : Gam) (a b : E) (σ : VS) (Q : KV) (X : KX) : Bool → VH → Prop
  | true => fun h => wpE Γ a σ h Q X
  | false => fun h => wpE Γ b σ h Q X
def kCall (Γ : Gam) (f : String) (Q : KV) (X : KX) : List Val → VH → Prop := fun vs h => Γ.call f vs h Q X
def kBif (f : Bif) (Q : KV) : List Val → VH → Prop := fun vs h => (bifR f vs h).wp h Q
def kMth4 (Γ : Gam) (l : String) (x : Val) (Q : KV) (X : KX) : List Val → VH → Prop := fun vs h => Γ.call l (x :: vs) h Q X
def kMth3 (Γ : Gam) (es : Es) (σ : VS) (Q : KV) (X : KX) (x : Val) (h : VH) : Option String → Prop
  | some l => wpEs Γ es σ h (kMth4 Γ l x Q X) X
  | none => False
def kMth2 (Γ : Gam) (m : String) (es : Es) (σ : VS) (Q : KV) (X : KX) (x : Val) (h : VH) : Option String → Prop
  | some c => kMth3 Γ es σ Q X x h (Γ.mth c m)
  | none => False
def kMth1 (Γ : Gam) (m : String) (es : Es) (σ : VS) (Q : KV) (X : KX) : KV := fun x h => kMth2 Γ m es σ Q X x h (mthC x m h)
def kBmt2 (m : Bmt) (x : Val) (Q : KV) : List Val → VH → Prop := fun vs h => (bmtR m x vs h).wp h Q
def kBmt1 (Γ : Gam) (m : Bmt) (ty : String) (es : Es) (σ : VS) (Q : KV) (X : KX) : KV := fun x h => kindV ty x h ∧ wpEs Γ es σ h (kBmt2 m x Q) X
def kFld (f : String) (Q : KV) : KV := fun x h => (fldR x f h).wp h Q
def kIdx2 (x : Val) (Q : KV) : KV := fun y h => (idxR x y h).wp h Q
def kIdx1 (Γ : Gam) (i : E) (σ : VS) (Q : KV) (X : KX) : KV := fun x h => wpE Γ i σ h (kIdx2 x Q) X
def kSlc3 (x : Val) (l : Option Int) (Q : KV) : Option Int → VH → Prop := fun u h => (slcR x l u h).wp h Q
def kSlc2 (Γ : Gam) (hi : O) (σ : VS) (x : Val) (Q : KV) (X : KX) : Option Int → VH → Prop := fun l h => wpO Γ hi σ h (kSlc3 x l Q) X
def kSlc1 (Γ : Gam) (lo hi : O) (σ : VS) (Q : KV) (X : KX) : KV := fun x h => wpO Γ lo σ h (kSlc2 Γ hi σ x Q X) X
def kLst (Q : KV) : List Val → VH → Prop := fun vs h => vs.length ≤ SZ ∧ ∀ p, h p = none → Q (.ref p) (up h p (.lst vs))
def kTup (Q : KV) : List Val → VH → Prop := fun vs h => vs.length ≤ SZ ∧ Q (.tup vs) h
def kDct (p : Nat) (Q : KV) : List Val → VH → Prop := fun vs h => dctK p Q h (pairsOf vs)
def kFin (Q : KV) (D : Nat) : VH → Prop := fun h => Q (.ref D) h
def kCmpr (Γ : Gam) (el : E) (t : G) (c : O) (vs : List Nat) (σ : VS) (Q : KV) : List Val → (VH → Prop) → VH → Prop := fun items ok h => ∀ D, h D = none → cgo (cbody Γ el t c vs σ) ok D (kFin Q D) items (up h D (.lst []))
def kLrng (Q : KV) : KV := fun x h => (lrngR x).wp h Q
def kRev (Q : KV) : KV := fun x h => (revR x h).wp h Q
def kSrd (Q : KV) : KV := fun x h => (srtdR x h).wp h Q
def kIsi (Γ : Gam) (cs : List String) (Q : KV) : KV := fun x h => (isiR Γ.isi x h cs).wp h Q
def kEs2 (v : Val) (Q : List Val → VH → Prop) : List Val → VH → Prop := fun vs h => Q (v :: vs) h
def kEs1 (Γ : Gam) (es : Es) (σ : VS) (Q : List Val → VH → Prop) (X : KX) : KV := fun v h => wpEs Γ es σ h (kEs2 v Q) X
def kLgB (Γ : Gam) (o : Bool) (es : Es) (σ : VS) (Q : KV) (X : KX) (x : Val) : Bool → VH → Prop
  | true => fun h => if o = true then wpL Γ o es σ h Q X else Q x h
  | false => fun h => if o = false then wpL Γ o es σ h Q X else Q x h
def kLg (Γ : Gam) (o : Bool) (es : Es) (σ : VS) (Q : KV) (X : KX) : KV := fun x h => (truB x h).wp (kTB (kLgB Γ o es σ Q X x) h)
def kOi (Q : Option Int → VH → Prop) (h : VH) : Option Int → Prop
  | some i => Q (some i) h
  | none => False
def kO (Q : Option Int → VH → Prop) : KV := fun x h => kOi Q h (intO x)
def kR (R : List Val → (VH → Prop) → VH → Prop) (h : VH) : List Val → (VH → Prop) → Prop := fun xs ok => R xs ok h
def kPl (R : List Val → (VH → Prop) → VH → Prop) : KV := fun x h => (srcOf x h).wp (kR R h)
def kR1 (R : List Val → (VH → Prop) → VH → Prop) : KV := fun x h => (src1 x).wp (kR R h)
def kR22 (x : Val) (R : List Val → (VH → Prop) → VH → Prop) : KV := fun y h => (src2 x y).wp (kR R h)
def kR21 (Γ : Gam) (b : E) (σ : VS) (R : List Val → (VH → Prop) → VH → Prop) (X : KX) : KV := fun x h => wpE Γ b σ h (kR22 x R) X
def kR33 (x y : Val) (R : List Val → (VH → Prop) → VH → Prop) : KV := fun z h => (src3 x y z).wp (kR R h)
def kR32 (Γ : Gam) (x : Val) (c : E) (σ : VS) (R : List Val → (VH → Prop) → VH → Prop) (X : KX) : KV := fun y h => wpE Γ c σ h (kR33 x y R) X
def kR31 (Γ : Gam) (b c : E) (σ : VS) (R : List Val → (VH → Prop) → VH → Prop) (X : KX) : KV := fun x h => wpE Γ b σ h (kR32 Γ x c σ R X) X
def kZp2 (x : Val) (R : List Val → (VH → Prop) → VH → Prop) : KV := fun y h => (srcZ x y h).wp fun xs ok => R xs ok h
def kZp1 (Γ : Gam) (b : E) (σ : VS) (R : List Val → (VH → Prop) → VH → Prop) (X : KX) : KV := fun x h => wpE Γ b σ h (kZp2 x R) X
def kEn (R : List Val → (VH → Prop) → VH → Prop) : KV := fun x h => (srcE x h).wp (kR R h)
def kItems (R : List Val → (VH → Prop) → VH → Prop) : KV := fun x h => (srcI x h).wp (kR R h)
def kRv (R : List Val → (VH → Prop) → VH → Prop) : KV := fun x h => (srcR x).wp (kR R h)
/-! statements -/
def Ds.seq (D : Ds) (Γ : Gam) (ss : Ss) : Ds := { D with nx := fun σ h => wpSs Γ ss σ h D }
def Ds.into (D : Ds) (k : VS → VH → Prop) : Ds := { D with nx := k }
def kX (D : Ds) (σ : VS) : KX := fun x h => D.ex x σ h
def kNx (D : Ds) (σ : VS) : KV := fun _ h => D.nx σ h
def kSet (D : Ds) (i : Nat) (σ : VS) : KV := fun v h => D.nx (sset σ i (some v)) h
def ssets (σ : VS) : List Nat → List Val → VS
  | i :: is, x :: xs => ssets (sset σ i (some x)) is xs
  | _, _ => σ
def kTupT (D : Ds) (is : List Nat) (σ : VS) (h : VH) : Val → Prop
  | .tup xs => xs.length = is.length ∧ D.nx (ssets σ is xs) h
  | _ => False
def kSetT (D : Ds) (is : List Nat) (σ : VS) : KV := fun v h => kTupT D is σ h v
def kRes (D : Ds) (σ : VS) : KV := fun _ h => D.nx σ h
def kSfl2 (Γ : Gam) (D : Ds) (f : String) (v : Val) (σ : VS) : KV := fun x h => (sflR Γ.fld x f v h).wp h (kRes D σ)
def kSfl1 (Γ : Gam) (D : Ds) (o : E) (f : String) (σ : VS) : KV := fun v h => wpE Γ o σ h (kSfl2 Γ D f v σ) (kX D σ)
def kSsb3 (D : Ds) (x v : Val) (σ : VS) : KV := fun y h => (setR x y v h).wp h (kRes D σ)
def kSsb2 (Γ : Gam) (D : Ds) (i : E) (v : Val) (σ : VS) : KV := fun x h => wpE Γ i σ h (kSsb3 D x v σ) (kX D σ)
def kSsb1 (Γ : Gam) (D : Ds) (o i : E) (σ : VS) : KV := fun v h => wpE Γ o σ h (kSsb2 Γ D i v σ) (kX D σ)
def kAug2 (D : Ds) (op : Bop) (i : Nat) (x : Val) (σ : VS) : KV := fun y h => (augR op x y h).wp h (kSet D i σ)
def kAug1 (Γ : Gam) (D : Ds) (op : Bop) (i : Nat) (e : E) (σ : VS) (h : VH) : Option Val → Prop
  | some x => wpE Γ e σ h (kAug2 D op i x σ) (kX D σ)
  | none => False
def kIf (Γ : Gam) (a b : Ss) (σ : VS) (D : Ds) : Bool → VH → Prop
  | true => fun h => wpSs Γ a σ h D
  | false => fun h => wpSs Γ b σ h D
def lBody (Γ : Gam) (g : G) (body : Ss) (D : Ds) : Val → VS → VH → (VS → VH → Prop) → Prop := fun v σ h k => gset g v σ fun σ' => wpSs Γ body σ' h (D.into k)
def kLoop (Γ : Gam) (g : G) (body : Ss) (D : Ds) (σ : VS) : List Val → (VH → Prop) → VH → Prop := fun items ok h => fgo (lBody Γ g body D) ok D.nx items σ h
def wTest (Γ : Gam) (c : E) (D : Ds) : VS → VH → (Bool → VH → Prop) → Prop := fun σ h k => wpE Γ c σ h (kT k) (kX D σ)
def wBody (Γ : Gam) (body : Ss) (D : Ds) : VS → VH → (VS → VH → Prop) → Prop := fun σ h k => wpSs Γ body σ h (D.into k)
def kRai (Γ : Gam) (D : Ds) (c : String) (σ : VS) : List Val → VH → Prop := fun vs h => raiK (Γ.exc c) c vs h (kX D σ)
def Gam.at (Γ : Gam) (c : Nat × Nat × Exc) : Gam := { Γ with cur := some c }
def Ds.su (D : Ds) (i : Nat) : Ds := { nx := fun σ' h' => D.nx (sset σ' i none) h', rt := D.rt, ex := fun _ _ _ => False }
def kHs (Γ : Gam) (i : Nat) (b : Ss) (hs : Hs) (e : Exc) (σ : VS) (h : VH) (D : Ds) : Option Bool → Prop
  | some true => ∀ a, h a = none → wpSs (Γ.at (i, a, e)) b (sset σ i (some (.ref a))) h (D.su i)
  | some false => wpHs Γ hs e σ h D
  | none => False
def kFz2 (D : Ds) (i : Nat) (σ : VS) (h : VH) : Option (Nat × List Val) → Prop
  | some (a, xs) => D.nx (sset σ i (some (.rls xs))) (del h a)
  | none => D.nx σ h
def kFz (D : Ds) (i : Nat) (σ : VS) (h : VH) : Option Val → Prop
  | some v => kFz2 D i σ h (frzV v h)
  | none => D.nx σ h
def Ds.trR (D : Ds) (Γ : Gam) (c c2 : String) (j : Nat) (els : Ss) : Ds := { nx := fun σ h => wpSs Γ els σ h D, rt := D.rt, ex := fun e σ h => rkK (Γ.sub e.cls c) (sget σ j) (Γ.exc c2) c2 (fun e2 h2 => D.ex e2 σ h2) (D.ex e σ) h }
def Ds.tr (D : Ds) (Γ : Gam) (hs : Hs) (els : Ss) : Ds := { nx := fun σ h => wpSs Γ els σ h D, rt := D.rt, ex := fun e σ h => wpHs Γ hs e σ h D }
/-! sorted by keys, dicts walked under a lock, a default -/
def kyE (Γ : Gam) (m : E) (n : Nat) : Val → VH → KV → Prop := fun v h Q => wpE Γ m (some v :: List.replicate (n - 1) none) h Q (fun _ _ => False)
def kyF (Γ : Gam) (f : String) : Val → VH → KV → Prop := fun v h Q => Γ.call f [v] h Q (fun _ _ => False)
def kSrL (key : Val → VH → KV → Prop) (Q : KV) (h : VH) : Option (List Val) → Prop
  | some xs => kgo key (srtK Q xs) xs [] h
  | none => False
def kSrt (key : Val → VH → KV → Prop) (Q : KV) : KV := fun x h => kSrL key Q h (lstV x h)
def kCld (Γ : Gam) (f : String) (ds : List Val) (Q : KV) (X : KX) : List Val → VH → Prop := fun vs h => Γ.call f (vs ++ ds) h Q X
def okL (a : Nat) (kt : Bool) (kvs : List (Val × Val)) : VH → Prop := fun h' => h' a = some (.lck kt kvs)
def Ds.lk (D : Ds) (a : Nat) (kt : Bool) (kvs : List (Val × Val)) : Ds := { nx := D.nx, rt := fun v h => h a = some (.lck kt kvs) ∧ D.rt v (up h a (.dic kt kvs)), ex := D.ex }
def nxL (D : Ds) (a : Nat) (kt : Bool) (kvs : List (Val × Val)) : VS → VH → Prop := fun σ h => D.nx σ (up h a (.dic kt kvs))
def kLoD (Γ : Gam) (g : G) (body : Ss) (D : Ds) (σ : VS) (h : VH) : Option (Nat × Bool × List (Val × Val)) → Prop
  | some (a, kt, kvs) => fgo (lBody Γ g body (D.lk a kt kvs)) (okL a kt kvs) (nxL D a kt kvs) (itemsD kvs) σ (up h a (.lck kt kvs))
  | none => False
def kLpD (Γ : Gam) (g : G) (body : Ss) (D : Ds) (σ : VS) : KV := fun x h => kLoD Γ g body D σ h (lckV x h)
def kFiL (Q : KV) (p a : Nat) (kt : Bool) (kvs : List (Val × Val)) : VH → Prop := fun h' => Q (.ref p) (up h' a (.dic kt kvs))
def kCoD (Γ : Gam) (el : E) (t : G) (c : O) (vs : List Nat) (σ : VS) (Q : KV) (h : VH) : Option (Nat × Bool × List (Val × Val)) → Prop
  | some (a, kt, kvs) => ∀ p, up h a (.lck kt kvs) p = none → cgo (cbody Γ el t c vs σ) (okL a kt kvs) p (kFiL Q p a kt kvs) (itemsD kvs) (up (up h a (.lck kt kvs)) p (.lst []))
  | none => False
def kCmD (Γ : Gam) (el : E) (t : G) (c : O) (vs : List Nat) (σ : VS) (Q : KV) : KV := fun x h => kCoD Γ el t c vs σ Q h (lckV x h)
/-! ### the equations -/
theorem ssets_eq : ∀ (is : List Nat) (xs : List Val) (σ : VS), (is.zip xs).foldl (fun σ p => sset σ p.1 (some p.2)) σ = ssets σ is xs
  | [], _, _ => rfl
  | _ :: _, [], _ => rfl
  | i :: is, x :: xs, σ => by rw [List.zip_cons_cons, List.foldl_cons]; exact ssets_eq is xs _
variable {e a b c o' el : E} {es : Es} {o : Bop} {p q : Cop} {f m ty : String} {x y v : Val} {i : Nat} {lo hi : O} {t : G} {it : It} {oc : O} {vs : List Nat} {cs : List String} {R : List Val → (VH → Prop) → VH → Prop} {Ql : List Val → VH → Prop} {Qo : Option Int → VH → Prop} {k : Bool → VH → Prop} {bm : Bmt} {bf : Bif} {bb : Bool} {st : S} {ss sa sb : Ss} {is : List Nat} {hs : Hs} {vl : List Val} {xs : List Val} {ok : VH → Prop} {ns : List String} {P : Prog} {cl : String → List Val → VH → KV → KX → Prop} {zi : Int} {zs : List Nat}
theorem E_lit_1 : wpE Γ .non σ h Q X = Q .non h := by rw [wpE]
theorem E_lit_2 : wpE Γ (.bl bb) σ h Q X = Q (.bl bb) h := by rw [wpE]
theorem E_lit_3 : wpE Γ (.int zi) σ h Q X = Q (.int zi) h := by rw [wpE]
theorem E_lit_4 : wpE Γ (.str zs) σ h Q X = Q (.str zs) h := by rw [wpE]
theorem E_var : wpE Γ (.var i) σ h Q X = kVar Q h (sget σ i) := by rw [wpE]; cases sget σ i <;> rfl
theorem E_glb : wpE Γ (.glb f) σ h Q X = kVar Q h (Γ.con f) := by rw [wpE]; cases Γ.con f <;> rfl
theorem kVar_some : kVar Q h (some v) = Q v h := rfl
theorem E_bop : wpE Γ (.bop o a b) σ h Q X = wpE Γ a σ h (kBop1 Γ o b σ Q X) X := by rw [wpE]; rfl
theorem E_neg : wpE Γ (.neg a) σ h Q X = wpE Γ a σ h (kNeg Q) X := by rw [wpE]; rfl
theorem E_inv : wpE Γ (.inv a) σ h Q X = wpE Γ a σ h (kInv Q) X := by rw [wpE]; rfl
theorem E_not : wpE Γ (.not a) σ h Q X = wpE Γ a σ h (kT (kNotB Q)) X := by rw [wpE]; rfl
theorem E_lg : wpE Γ (.lg bb es) σ h Q X = wpL Γ bb es σ h Q X := by rw [wpE]
theorem E_cmp : wpE Γ (.cmp p a b) σ h Q X = wpE Γ a σ h (kCmp1 Γ p b σ Q X) X := by rw [wpE]; rfl
theorem E_chn : wpE Γ (.chn p q a b c) σ h Q X = wpE Γ a σ h (kChn1 Γ p q b c σ Q X) X := by
  rw [wpE]
  have e1 : ∀ (h : VH) (y : Val), (fun t : Bool => if t = true then wpE Γ c σ h (fun z h3 => (cmpR q y z h3).wp fun t => Q (.bl t) h3) X else Q (.bl false) h) = kTB (kChnB Γ q y c σ Q X) h := fun h y => by
    funext t
    cases t <;> rfl
  simp only [e1]
  rfl
theorem E_isn : wpE Γ (.isn a) σ h Q X = wpE Γ a σ h (kIsn true Q) X := by
  rw [wpE]
  have : (fun x h1 => Q (.bl (isN x)) h1) = kIsn true Q := by funext x h1; unfold kIsn; rw [show (isN x == true) = isN x by cases isN x <;> rfl]
  rw [this]
theorem E_ntn : wpE Γ (.ntn a) σ h Q X = wpE Γ a σ h (kIsn false Q) X := by
  rw [wpE]
  have : (fun x h1 => Q (.bl (!isN x)) h1) = kIsn false Q := by funext x h1; unfold kIsn; rw [show (isN x == false) = !isN x by cases isN x <;> rfl]
  rw [this]
theorem E_ife : wpE Γ (.ife c a b) σ h Q X = wpE Γ c σ h (kT (kIfe Γ a b σ Q X)) X := by
  rw [wpE]
  have : (onT fun t h1 => if t = true then wpE Γ a σ h1 Q X else wpE Γ b σ h1 Q X) = kT (kIfe Γ a b σ Q X) := by
    unfold onT kT
    have : (fun t (h1 : VH) => if t = true then wpE Γ a σ h1 Q X else wpE Γ b σ h1 Q X) = kIfe Γ a b σ Q X := by funext t h1; cases t <;> rfl
    rw [this]
    rfl
  rw [this]
theorem E_call : wpE Γ (.call f es) σ h Q X = wpEs Γ es σ h (kCall Γ f Q X) X := by rw [wpE]; rfl
theorem E_bif : wpE Γ (.bif bf es) σ h Q X = wpEs Γ es σ h (kBif bf Q) X := by rw [wpE]; rfl
theorem E_mth : wpE Γ (.mth o' m es) σ h Q X = wpE Γ o' σ h (kMth1 Γ m es σ Q X) X := by
  rw [wpE]
  have : (fun x h1 => match mthC x m h1 with
    | some c => (match Γ.mth c m with
      | some l => wpEs Γ es σ h1 (fun vs h2 => Γ.call l (x :: vs) h2 Q X) X
      | none => False)
    | none => False) = kMth1 Γ m es σ Q X := by
    funext x h1
    unfold kMth1
    cases mthC x m h1 with
    | none => rfl
    | some c =>
      show _ = kMth3 Γ es σ Q X x h1 (Γ.mth c m)
      dsimp only
      cases Γ.mth c m <;> rfl
  exact congrArg (fun k => wpE Γ o' σ h k X) this
theorem E_bmt : wpE Γ (.bmt bm ty o' es) σ h Q X = wpE Γ o' σ h (kBmt1 Γ bm ty es σ Q X) X := by rw [wpE]; rfl
theorem E_fld : wpE Γ (.fld o' f) σ h Q X = wpE Γ o' σ h (kFld f Q) X := by rw [wpE]; rfl
theorem E_idx : wpE Γ (.idx a b) σ h Q X = wpE Γ a σ h (kIdx1 Γ b σ Q X) X := by rw [wpE]; rfl
theorem E_slc : wpE Γ (.slc a lo hi) σ h Q X = wpE Γ a σ h (kSlc1 Γ lo hi σ Q X) X := by rw [wpE]; rfl
theorem E_lst : wpE Γ (.lst es) σ h Q X = wpEs Γ es σ h (kLst Q) X := by rw [wpE]; rfl
theorem E_tup : wpE Γ (.tup es) σ h Q X = wpEs Γ es σ h (kTup Q) X := by rw [wpE]; rfl
theorem E_dct : wpE Γ (.dct es) σ h Q X = ∀ p, h p = none → wpEs Γ es σ (up h p (.dic false [])) (kDct p Q) X := by rw [wpE]; rfl
theorem E_dctT : wpE Γ .dctT σ h Q X = ∀ p, h p = none → Q (.ref p) (up h p (.dic true [])) := by rw [wpE]
theorem E_cmpr : wpE Γ (.cmpr el t it oc vs) σ h Q X = wpIt Γ it σ h (kCmpr Γ el t oc vs σ Q) X := by rw [wpE]; rfl
theorem E_lrng : wpE Γ (.lrng a) σ h Q X = wpE Γ a σ h (kLrng Q) X := by rw [wpE]; rfl
theorem E_revl : wpE Γ (.revl a) σ h Q X = wpE Γ a σ h (kRev Q) X := by rw [wpE]; rfl
theorem E_srtd : wpE Γ (.srtd a) σ h Q X = wpE Γ a σ h (kSrd Q) X := by rw [wpE]; rfl
theorem E_isi : wpE Γ (.isi a cs) σ h Q X = wpE Γ a σ h (kIsi Γ cs Q) X := by rw [wpE]; rfl
theorem Es_nil : wpEs Γ .nil σ h Ql X = Ql [] h := by rw [wpEs]
theorem Es_cons : wpEs Γ (.cons e es) σ h Ql X = wpE Γ e σ h (kEs1 Γ es σ Ql X) X := by rw [wpEs]; rfl
theorem L_one : wpL Γ bb (.cons e .nil) σ h Q X = wpE Γ e σ h Q X := by rw [wpL]
theorem L_two : wpL Γ bb (.cons e (.cons a es)) σ h Q X = wpE Γ e σ h (kLg Γ bb (.cons a es) σ Q X) X := by
  rw [wpL]
  have : (fun x h1 => (truB x h1).wp fun t => if t = bb then wpL Γ bb (.cons a es) σ h1 Q X else Q x h1) = kLg Γ bb (.cons a es) σ Q X := by
    funext x h1
    unfold kLg
    have : (fun t => if t = bb then wpL Γ bb (.cons a es) σ h1 Q X else Q x h1) = kTB (kLgB Γ bb (.cons a es) σ Q X x) h1 := by
      funext t
      cases t <;> cases bb <;> rfl
    rw [this]
  exact congrArg (fun k => wpE Γ e σ h k X) this
theorem E_frz : wpE Γ (.frz e) σ h Q X = wpE Γ e σ h (frzK Q) X := by rw [wpE]
theorem O_no : wpO Γ .no σ h Qo X = Qo none h := by rw [wpO]
theorem O_some : wpO Γ (.some e) σ h Qo X = wpE Γ e σ h (kO Qo) X := by
  rw [wpO]
  have : (fun x h1 => match intO x with
    | some i => Qo (some i) h1
    | none => False) = kO Qo := by
    funext x h1
    unfold kO
    cases intO x <;> rfl
  exact congrArg (fun k => wpE Γ e σ h k X) this
theorem I_pl : wpIt Γ (.pl e) σ h R X = wpE Γ e σ h (kPl R) X := by rw [wpIt]; rfl
theorem I_r1 : wpIt Γ (.r1 e) σ h R X = wpE Γ e σ h (kR1 R) X := by rw [wpIt]; rfl
theorem I_r2 : wpIt Γ (.r2 a b) σ h R X = wpE Γ a σ h (kR21 Γ b σ R X) X := by rw [wpIt]; rfl
theorem I_r3 : wpIt Γ (.r3 a b c) σ h R X = wpE Γ a σ h (kR31 Γ b c σ R X) X := by rw [wpIt]; rfl
theorem k_11_1 : kR31 Γ b c σ R X x h = wpE Γ b σ h (kR32 Γ x c σ R X) X := rfl
theorem k_11_2 : kR32 Γ x c σ R X y h = wpE Γ c σ h (kR33 x y R) X := rfl
theorem k_11_3 : kR33 x y R v h = (src3 x y v).wp (kR R h) := rfl
theorem I_zp : wpIt Γ (.zp a b) σ h R X = wpE Γ a σ h (kZp1 Γ b σ R X) X := by rw [wpIt]; rfl
theorem k_11_7 : kZp1 Γ b σ R X x h = wpE Γ b σ h (kZp2 x R) X := rfl
theorem k_11_8 : kZp2 x R y h = (srcZ x y h).wp (kR R h) := rfl
theorem I_en : wpIt Γ (.en e) σ h R X = wpE Γ e σ h (kEn R) X := by rw [wpIt]; rfl
theorem I_items : wpIt Γ (.items e) σ h R X = wpE Γ e σ h (kItems R) X := by rw [wpIt]; rfl
theorem I_rv : wpIt Γ (.rv e) σ h R X = wpE Γ e σ h (kRv R) X := by rw [wpIt]; rfl
theorem S_exp : wpS Γ (.exp e) σ h D = wpE Γ e σ h (kNx D σ) (kX D σ) := by rw [wpS]; rfl
theorem S_asg : wpS Γ (.asg (.nm i) e) σ h D = wpE Γ e σ h (kSet D i σ) (kX D σ) := by rw [wpS]; rfl
theorem S_asgT : wpS Γ (.asg (.tp is) e) σ h D = wpE Γ e σ h (kSetT D is σ) (kX D σ) := by
  rw [wpS]
  have : (fun v h1 => gset (.tp is) v σ fun σ' => D.nx σ' h1) = kSetT D is σ := by
    funext v h1
    unfold gset kSetT kTupT
    cases v <;> first | rfl | (dsimp only; rw [ssets_eq])
  exact congrArg (fun k => wpE Γ e σ h k (kX D σ)) this
theorem S_sfl : wpS Γ (.sfl o' f e) σ h D = wpE Γ e σ h (kSfl1 Γ D o' f σ) (kX D σ) := by rw [wpS]; rfl
theorem S_ssb : wpS Γ (.ssb o' a e) σ h D = wpE Γ e σ h (kSsb1 Γ D o' a σ) (kX D σ) := by rw [wpS]; rfl
theorem S_aug : wpS Γ (.aug i o e) σ h D = kAug1 Γ D o i e σ h (sget σ i) := by rw [wpS]; cases sget σ i <;> rfl
theorem S_ret : wpS Γ (.ret e) σ h D = wpE Γ e σ h D.rt (kX D σ) := by rw [wpS]; rfl
theorem kIf_eq : (fun t (h1 : VH) => if t = true then wpSs Γ sa σ h1 D else wpSs Γ sb σ h1 D) = kIf Γ sa sb σ D := by funext t h1; cases t <;> rfl
theorem S_ife : wpS Γ (.ife c sa sb) σ h D = wpE Γ c σ h (kT (kIf Γ sa sb σ D)) (kX D σ) := by rw [wpS, wpT, kIf_eq]; rfl
theorem S_loop : wpS Γ (.loop t it ss) σ h D = wpIt Γ it σ h (kLoop Γ t ss D σ) (kX D σ) := by rw [wpS]; rfl
theorem S_whl : wpS Γ (.whl c ss) σ h D = ∃ n, wgo (wTest Γ c D) (wBody Γ ss D) D.nx n σ h := by rw [wpS]; rfl
theorem S_rai : wpS Γ (.rai f es) σ h D = (raiC (litEs es) (Γ.exc f) ∧ wpEs Γ es σ h (kRai Γ D f σ) (kX D σ)) := by rw [wpS]; rfl
theorem E_xisi {c : Nat × Nat × Exc} : wpE (Γ.at c) (.xisi cs) σ h Q X = (sget σ c.1 = some (.ref c.2.1) ∧ (xiR Γ.sub c.2.2 cs h).wp h Q) := by
  rw [wpE]
  refine propext ⟨fun ⟨i, a, e, h1, h2, h3⟩ => ?_, fun ⟨h1, h2⟩ => ⟨c.1, c.2.1, c.2.2, rfl, h1, h2⟩⟩
  cases h1
  exact ⟨h2, h3⟩
theorem E_xfld {c : Nat × Nat × Exc} : wpE (Γ.at c) (.xfld f) σ h Q X = (sget σ c.1 = some (.ref c.2.1) ∧ (xfR Γ.exc c.2.2 f h).wp h Q) := by
  rw [wpE]
  refine propext ⟨fun ⟨i, a, e, h1, h2, h3⟩ => ?_, fun ⟨h1, h2⟩ => ⟨c.1, c.2.1, c.2.2, rfl, h1, h2⟩⟩
  cases h1
  exact ⟨h2, h3⟩
theorem kSrL_eq {key : Val → VH → KV → Prop} {r : Option (List Val)} : (match r with
    | some xs => kgo key (srtK Q xs) xs [] h
    | none => False) = kSrL key Q h r := by cases r <;> rfl
theorem E_srtk {n : Nat} : wpE Γ (.srtk a n b) σ h Q X = wpE Γ a σ h (kSrt (kyE Γ b n) Q) X := by
  rw [wpE]
  exact congrArg (fun k => wpE Γ a σ h k X) (funext fun x => funext fun h1 => kSrL_eq)
theorem E_srtf : wpE Γ (.srtf a f) σ h Q X = wpE Γ a σ h (kSrt (kyF Γ f) Q) X := by
  rw [wpE]
  exact congrArg (fun k => wpE Γ a σ h k X) (funext fun x => funext fun h1 => kSrL_eq)
theorem E_calld {ds : List Val} : wpE Γ (.calld f es ds) σ h Q X = wpEs Γ es σ h (kCld Γ f ds Q X) X := by rw [wpE]; rfl
theorem E_cmprD : wpE Γ (.cmprD el t a oc vs) σ h Q X = wpE Γ a σ h (kCmD Γ el t oc vs σ Q) X := by
  rw [wpE]
  refine congrArg (fun k => wpE Γ a σ h k X) (funext fun x => funext fun h1 => ?_)
  unfold kCmD lckK
  cases lckV x h1 with
  | none => rfl
  | some p => obtain ⟨a, kt, kvs⟩ := p; rfl
theorem S_loopD : wpS Γ (.loopD t e ss) σ h D = wpE Γ e σ h (kLpD Γ t ss D σ) (kX D σ) := by
  rw [wpS]
  refine congrArg (fun k => wpE Γ e σ h k (kX D σ)) (funext fun x => funext fun h1 => ?_)
  unfold kLpD lckK
  cases lckV x h1 with
  | none => rfl
  | some p => obtain ⟨a, kt, kvs⟩ := p; rfl
theorem k_13_1 {key : Val → VH → KV → Prop} : kSrt key Q x h = kSrL key Q h (lstV x h) := by intros; rfl
theorem k_13_2 {key : Val → VH → KV → Prop} : kSrL key Q h (some xs) = kgo key (srtK Q xs) xs [] h := by intros; rfl
theorem k_13_3 {ds : List Val} : kCld Γ f ds Q X vl h = Γ.call f (vl ++ ds) h Q X := by intros; rfl
theorem k_13_4 : kLpD Γ t ss D σ x h = kLoD Γ t ss D σ h (lckV x h) := by intros; rfl
theorem k_13_5 {kt : Bool} {kvs : List (Val × Val)} : kLoD Γ t ss D σ h (some (i, kt, kvs)) = fgo (lBody Γ t ss (D.lk i kt kvs)) (okL i kt kvs) (nxL D i kt kvs) (itemsD kvs) σ (up h i (.lck kt kvs)) := by intros; rfl
theorem k_13_6 : kCmD Γ el t oc vs σ Q x h = kCoD Γ el t oc vs σ Q h (lckV x h) := by intros; rfl
theorem k_13_7 {kt : Bool} {kvs : List (Val × Val)} : kCoD Γ el t oc vs σ Q h (some (i, kt, kvs)) = ∀ p, up h i (.lck kt kvs) p = none → cgo (cbody Γ el t oc vs σ) (okL i kt kvs) p (kFiL Q p i kt kvs) (itemsD kvs) (up (up h i (.lck kt kvs)) p (.lst [])) := by intros; rfl
theorem k_13_8 {kt : Bool} {kvs : List (Val × Val)} : (D.lk i kt kvs).ex = D.ex := by intros; rfl
theorem k_13_9 {kt : Bool} {kvs : List (Val × Val)} : (D.lk i kt kvs).rt v h = (h i = some (.lck kt kvs) ∧ D.rt v (up h i (.dic kt kvs))) := by intros; rfl
theorem k_13_10 {kt : Bool} {kvs : List (Val × Val)} : nxL D i kt kvs σ h = D.nx σ (up h i (.dic kt kvs)) := by intros; rfl
theorem k_13_11 {kt : Bool} {kvs : List (Val × Val)} {p : Nat} : kFiL Q p i kt kvs h = Q (.ref p) (up h i (.dic kt kvs)) := by intros; rfl
theorem k_13_12 {kt : Bool} {kvs : List (Val × Val)} : okL i kt kvs h = (h i = some (.lck kt kvs)) := by intros; rfl
theorem lk_1 : lstV (.rls xs) h = some xs := by intros; rfl
theorem lk_2 (e : h i = some (.lst xs)) : lstV (.ref i) h = some xs := by simp [lstV, e]
theorem lk_3 {kt : Bool} {kvs : List (Val × Val)} (e : h i = some (.dic kt kvs)) : lckV (.ref i) h = some (i, kt, kvs) := by simp [lckV, e]
/-- keys that change nothing -/
theorem kgo_map {key : Val → VH → KV → Prop} {fin : List Val → VH → Prop} {f : Val → Val} : ∀ (xs ks : List Val) (h : VH), (∀ v ∈ xs, ∀ Q : KV, Q (f v) h → key v h Q) → fin (ks ++ xs.map f) h → kgo key fin xs ks h
  | [], ks, h, _, q => by rw [List.map_nil, List.append_nil] at q; exact q
  | v :: r, ks, h, H, q => H v List.mem_cons_self _ (kgo_map r (ks ++ [f v]) h (fun u hu => H u (List.mem_cons_of_mem _ hu)) (by rw [List.append_assoc]; exact q))
theorem srt_1 : bifR .sorted [.rls xs] h = .new (SrtOk xs) (.lst (isort ltV xs)) := by intros; rfl
theorem srt_2 (e : h i = some (.lst xs)) : bifR .sorted [.ref i] h = .new (SrtOk xs) (.lst (isort ltV xs)) := by simp [bifR, e]
theorem srt_3 {kvs : List (Val × Val)} (e : h i = some (.dic true kvs)) : bifR .sorted [.ref i] h = .new (SrtOk (kvs.map (·.1))) (.lst (isort ltV (kvs.map (·.1)))) := by simp [bifR, e]
theorem rev_1 : revR (.rls xs) h = .new True (.lst xs.reverse) := by intros; rfl
theorem rev_2 (e : h i = some (.lst xs)) : revR (.ref i) h = .new True (.lst xs.reverse) := by simp [revR, lstV, e]
theorem srd_1 {kvs : List (Val × Val)} (e : h i = some (.dic true kvs)) : srtdR (.ref i) h = .new (SrtOk (kvs.map (·.1))) (.lst (isort ltV (kvs.map (·.1)))) := by simp [srtdR, e]
theorem cnt_1 {A B : List Nat} : bmtR .count (.str A) [.str B] h = .ok (.int (PySem.Txt.count ⟨A.toArray⟩ ⟨B.toArray⟩)) := by intros; rfl
theorem clr_1 (e : h i = some (.lst xs)) : bmtR .clear (.ref i) [] h = .put True i (.lst []) .non := by simp [bmtR, lstA, e]
theorem H_nil {x : Exc} : wpHs Γ .nil x σ h D = D.ex x σ h := by rw [wpHs]
theorem H_cons {x : Exc} : wpHs Γ (.cons f i ss hs) x σ h D = kHs Γ i ss hs x σ h D (Γ.sub x.cls f) := by
  rw [wpHs]
  cases Γ.sub x.cls f with
  | none => rfl
  | some b => cases b <;> rfl
theorem S_try : wpS Γ (.try_ sa hs sb) σ h D = wpSs Γ sa σ h (D.tr Γ hs sb) := by rw [wpS]; rfl
theorem S_frz : wpS Γ (.frz i) σ h D = kFz D i σ h (sget σ i) := by rw [wpS]; cases sget σ i <;> rfl
theorem S_tryR {c c2 : String} {j : Nat} : wpS Γ (.tryR sa c c2 j sb) σ h D = (excN (Γ.exc c2) ∧ wpSs Γ sa σ h (D.trR Γ c c2 j sb)) := by rw [wpS]; rfl
theorem S_thru : wpS Γ (.thru sa sb) σ h D = wpSs Γ sa σ h ⟨fun σ h => wpSs Γ sb σ h D, D.rt, fun _ _ _ => False⟩ := by rw [wpS]
theorem S_nev : wpS Γ .nev σ h D = False := by rw [wpS]
theorem S_pas : wpS Γ .pas σ h D = D.nx σ h := by rw [wpS]
theorem Ss_nil : wpSs Γ .nil σ h D = D.nx σ h := by rw [wpSs]
theorem Ss_cons : wpSs Γ (.cons st ss) σ h D = wpS Γ st σ h (D.seq Γ ss) := by rw [wpSs]; rfl
/-! continuations at values -/
theorem k_1_1 : kBop1 Γ o b σ Q X x h = wpE Γ b σ h (kBop2 o x Q) X := by intros; rfl
theorem k_1_2 : kBop2 o x Q y h = (bopR o x y h).wp h Q := by intros; rfl
theorem k_1_3 : kNeg Q x h = (negR x).wp h Q := by intros; rfl
theorem k_1_4 : kInv Q x h = (invR x).wp h Q := by intros; rfl
theorem k_1_5 : kTB k h bb = k bb h := by intros; rfl
theorem k_1_6 : kT k x h = (truB x h).wp (kTB k h) := by intros; rfl
theorem k_1_7 : kNotB Q bb h = Q (.bl (!bb)) h := by intros; rfl
theorem k_1_8 : kBl Q bb h = Q (.bl bb) h := by intros; rfl
theorem k_2_1 : kCmp1 Γ p b σ Q X x h = wpE Γ b σ h (kCmp2 p x Q) X := by intros; rfl
theorem k_2_2 : kCmp2 p x Q y h = (cmpR p x y h).wp (kTB (kBl Q) h) := by intros; rfl
theorem k_2_3 : kChn1 Γ p q b c σ Q X x h = wpE Γ b σ h (kChn2 Γ p q x c σ Q X) X := by intros; rfl
theorem k_2_4 : kChn2 Γ p q x c σ Q X y h = (cmpR p x y h).wp (kTB (kChnB Γ q y c σ Q X) h) := by intros; rfl
theorem k_2_5 : kChnB Γ q y c σ Q X true h = wpE Γ c σ h (kCmp2 q y Q) X := by intros; rfl
theorem k_2_6 : kChnB Γ q y c σ Q X false h = Q (.bl false) h := by intros; rfl
theorem k_2_7 : kIsn bb Q x h = Q (.bl (isN x == bb)) h := by intros; rfl
theorem k_2_8 : kIfe Γ a b σ Q X true h = wpE Γ a σ h Q X := by intros; rfl
theorem k_2_9 : kIfe Γ a b σ Q X false h = wpE Γ b σ h Q X := by intros; rfl
theorem k_3_1 : kCall Γ f Q X vl h = Γ.call f vl h Q X := by intros; rfl
theorem k_3_2 : kBif bf Q vl h = (bifR bf vl h).wp h Q := by intros; rfl
theorem k_3_3 : kMth1 Γ m es σ Q X x h = kMth2 Γ m es σ Q X x h (mthC x m h) := by intros; rfl
theorem k_3_4 : kMth2 Γ m es σ Q X x h (some f) = kMth3 Γ es σ Q X x h (Γ.mth f m) := by intros; rfl
theorem k_3_5 : kMth3 Γ es σ Q X x h (some f) = wpEs Γ es σ h (kMth4 Γ f x Q X) X := by intros; rfl
theorem k_3_6 : kMth4 Γ f x Q X vl h = Γ.call f (x :: vl) h Q X := by intros; rfl
theorem k_3_7 : kBmt1 Γ bm ty es σ Q X x h = (kindV ty x h ∧ wpEs Γ es σ h (kBmt2 bm x Q) X) := by intros; rfl
theorem k_3_8 : kBmt2 bm x Q vl h = (bmtR bm x vl h).wp h Q := by intros; rfl
theorem k_3_9 : kFld f Q x h = (fldR x f h).wp h Q := by intros; rfl
theorem k_4_1 : kIdx1 Γ b σ Q X x h = wpE Γ b σ h (kIdx2 x Q) X := by intros; rfl
theorem k_4_2 : kIdx2 x Q y h = (idxR x y h).wp h Q := by intros; rfl
theorem k_4_3 : ∀ l u, kSlc3 x l Q u h = (slcR x l u h).wp h Q := by intros; rfl
theorem k_4_4 : ∀ l, kSlc2 Γ hi σ x Q X l h = wpO Γ hi σ h (kSlc3 x l Q) X := by intros; rfl
theorem k_4_5 : kSlc1 Γ lo hi σ Q X x h = wpO Γ lo σ h (kSlc2 Γ hi σ x Q X) X := by intros; rfl
theorem k_4_6 : kLst Q vl h = (vl.length ≤ SZ ∧ ∀ p, h p = none → Q (.ref p) (up h p (.lst vl))) := by intros; rfl
theorem k_4_7 : kTup Q vl h = (vl.length ≤ SZ ∧ Q (.tup vl) h) := by intros; rfl
theorem k_4_8 {p : Nat} : kDct p Q vl h = dctK p Q h (pairsOf vl) := by intros; rfl
theorem k_4_9 : kFin Q i h = Q (.ref i) h := by intros; rfl
theorem k_5_1 : kCmpr Γ el t oc vs σ Q xs ok h = ∀ D, h D = none → cgo (cbody Γ el t oc vs σ) ok D (kFin Q D) xs (up h D (.lst [])) := by intros; rfl
theorem k_5_2 : kLrng Q x h = (lrngR x).wp h Q := by intros; rfl
theorem k_14_1 : kRev Q x h = (revR x h).wp h Q := by intros; rfl
theorem k_14_2 : kSrd Q x h = (srtdR x h).wp h Q := by intros; rfl
theorem k_5_3 : kIsi Γ cs Q x h = (isiR Γ.isi x h cs).wp h Q := by intros; rfl
theorem k_5_4 : kEs1 Γ es σ Ql X x h = wpEs Γ es σ h (kEs2 x Ql) X := by intros; rfl
theorem k_5_5 : kEs2 x Ql vl h = Ql (x :: vl) h := by intros; rfl
theorem k_5_6 : kLg Γ bb es σ Q X x h = (truB x h).wp (kTB (kLgB Γ bb es σ Q X x) h) := by intros; rfl
theorem k_6_1 : kLgB Γ true es σ Q X x true h = wpL Γ true es σ h Q X := by intros; rfl
theorem k_6_2 : kLgB Γ true es σ Q X x false h = Q x h := by intros; rfl
theorem k_6_3 : kLgB Γ false es σ Q X x true h = Q x h := by intros; rfl
theorem k_6_4 : kLgB Γ false es σ Q X x false h = wpL Γ false es σ h Q X := by intros; rfl
theorem k_6_5 : kO Qo (.int zi) h = Qo (some zi) h := by intros; rfl
theorem k_7_1 : kR R h xs ok = R xs ok h := by intros; rfl
theorem k_7_2 : kPl R x h = (srcOf x h).wp (kR R h) := by intros; rfl
theorem k_7_3 : kR1 R x h = (src1 x).wp (kR R h) := by intros; rfl
theorem k_7_4 : kR22 x R y h = (src2 x y).wp (kR R h) := by intros; rfl
theorem k_7_5 : kR21 Γ b σ R X x h = wpE Γ b σ h (kR22 x R) X := by intros; rfl
theorem k_7_6 : kEn R x h = (srcE x h).wp (kR R h) := by intros; rfl
theorem k_7_7 : kItems R x h = (srcI x h).wp (kR R h) := by intros; rfl
theorem k_7_8 : kRv R x h = (srcR x).wp (kR R h) := by intros; rfl
variable {kk : VS → VH → Prop}
theorem k_8_1 : (D.seq Γ ss).nx σ h = wpSs Γ ss σ h D := by intros; rfl
theorem k_8_2 : (D.seq Γ ss).rt = D.rt := by intros; rfl
theorem k_8_3 : (D.seq Γ ss).ex = D.ex := by intros; rfl
theorem k_8_4 : (D.into kk).nx = kk := by intros; rfl
theorem k_8_5 : (D.into kk).rt = D.rt := by intros; rfl
theorem k_8_6 : (D.into kk).ex = D.ex := by intros; rfl
theorem k_8_7R {c c2 : String} {j : Nat} : (D.trR Γ c c2 j ss).nx σ h = wpSs Γ ss σ h D := by intros; rfl
theorem k_8_8R {c c2 : String} {j : Nat} : (D.trR Γ c c2 j ss).rt = D.rt := by intros; rfl
theorem k_8_9R {c c2 : String} {j : Nat} : ∀ e, (D.trR Γ c c2 j ss).ex e σ h = rkK (Γ.sub e.cls c) (sget σ j) (Γ.exc c2) c2 (fun e2 h2 => D.ex e2 σ h2) (D.ex e σ) h := by intros; rfl
theorem k_8_7 : (D.tr Γ hs ss).nx σ h = wpSs Γ ss σ h D := by intros; rfl
theorem k_8_8 : (D.tr Γ hs ss).rt = D.rt := by intros; rfl
theorem k_8_9 : ∀ e, (D.tr Γ hs ss).ex e σ h = wpHs Γ hs e σ h D := by intros; rfl
theorem k_9_1 : kNx D σ x h = D.nx σ h := by intros; rfl
theorem k_9_2 : kSet D i σ x h = D.nx (sset σ i (some x)) h := by intros; rfl
theorem k_9_3 : kSetT D is σ x h = kTupT D is σ h x := by intros; rfl
theorem k_9_4 : kTupT D is σ h (.tup xs) = (xs.length = is.length ∧ D.nx (ssets σ is xs) h) := by intros; rfl
theorem k_9_5 : kRes D σ x h = D.nx σ h := by intros; rfl
theorem k_9_6 : kSfl1 Γ D a f σ x h = wpE Γ a σ h (kSfl2 Γ D f x σ) (kX D σ) := by intros; rfl
theorem k_9_7 : kSfl2 Γ D f y σ x h = (sflR Γ.fld x f y h).wp h (kRes D σ) := by intros; rfl
theorem k_9_8 : kSsb1 Γ D a b σ v h = wpE Γ a σ h (kSsb2 Γ D b v σ) (kX D σ) := by intros; rfl
theorem k_9_9 : kSsb2 Γ D b v σ x h = wpE Γ b σ h (kSsb3 D x v σ) (kX D σ) := by intros; rfl
theorem k_9_10 : kSsb3 D x v σ y h = (setR x y v h).wp h (kRes D σ) := by intros; rfl
theorem k_10_1 : kAug1 Γ D o i e σ h (some x) = wpE Γ e σ h (kAug2 D o i x σ) (kX D σ) := by intros; rfl
theorem k_10_2 : kAug2 D o i x σ y h = (augR o x y h).wp h (kSet D i σ) := by intros; rfl
theorem k_10_3 : kIf Γ sa sb σ D true h = wpSs Γ sa σ h D := by intros; rfl
theorem k_10_4 : kIf Γ sa sb σ D false h = wpSs Γ sb σ h D := by intros; rfl
theorem k_10_5 : kLoop Γ t ss D σ xs ok h = fgo (lBody Γ t ss D) ok D.nx xs σ h := by intros; rfl
theorem k_10_6 : kRai Γ D f σ vl h = raiK (Γ.exc f) f vl h (kX D σ) := by intros; rfl
theorem k_12_1 : (D.su i).nx σ h = D.nx (sset σ i none) h := by intros; rfl
theorem k_12_2 : (D.su i).rt = D.rt := by intros; rfl
variable {ct : Nat × Nat × Exc}
theorem k_12_3 : (Γ.at ct).con = Γ.con := by intros; rfl
theorem k_12_4 : (Γ.at ct).call = Γ.call := by intros; rfl
theorem k_12_5 : (Γ.at ct).mth = Γ.mth := by intros; rfl
theorem k_12_6 : (Γ.at ct).isi = Γ.isi := by intros; rfl
theorem k_12_7 : (Γ.at ct).exc = Γ.exc := by intros; rfl
theorem k_12_8 : (Γ.at ct).sub = Γ.sub := by intros; rfl
theorem k_12_9 : (Γ.at ct).fld = Γ.fld := by intros; rfl
theorem k_12_10 : litEs .nil = true := rfl
theorem k_12_11 : litEs (.cons (.str zs) .nil) = true := rfl
theorem k_10_8 : ∀ e, kX D σ e h = D.ex e σ h := by intros; rfl
theorem g_1_1 : (P.gam cl).call = cl := by intros; rfl
theorem g_1_2 : (P.gam cl).con = P.con := by intros; rfl
theorem g_1_3 : (P.gam cl).mth = P.mth := by intros; rfl
theorem g_1_4 : (P.gam cl).isi = P.isi := by intros; rfl
theorem g_1_5 : (P.gam cl).exc = P.exc := by intros; rfl
theorem g_1_6 : (P.gam cl).sub = P.sub := by intros; rfl
theorem g_1_7 : (P.gam cl).fld = P.fld := by intros; rfl
/-! results -/
variable {rv : Val → Prop} {cc : Prop} {ob : Obj}
theorem r_1_1 : (Res.ok v).wp h Q = Q v h := by intros; rfl
theorem r_1_2 : (Res.if_ cc v).wp h Q = (cc ∧ Q v h) := by intros; rfl
theorem r_1_3 : (Res.new cc ob).wp h Q = (cc ∧ ∀ p, h p = none → Q (.ref p) (up h p ob)) := by intros; rfl
theorem r_1_4 : (Res.put cc i ob v).wp h Q = (cc ∧ Q v (up h i ob)) := by intros; rfl
theorem r_1_5 : (Res.any rv).wp h Q = ((∃ v, rv v) ∧ ∀ v, rv v → Q v h) := by intros; rfl
theorem r_1_6 : (Res.ex rv).wp h Q = ∃ v, rv v ∧ Q v h := by intros; rfl
variable {kb : Bool → Prop} {rb : Bool → Prop}
theorem r_2_1 : (Bes.ok bb).wp kb = kb bb := by intros; rfl
theorem r_2_2 : (Bes.ex rb).wp kb = ∃ t, rb t ∧ kb t := by intros; rfl
theorem r_2_3 : (Bes.ok bb).not = .ok (!bb) := by intros; rfl
theorem r_3 {c : Prop} {R' : List Val → (VH → Prop) → Prop} : (Src.ok c xs ok).wp R' = (c ∧ R' xs ok) := rfl
variable {w : Option Val}
theorem s_1_1 : sget (w :: σ) 0 = w := by intros; rfl
theorem s_1_2 : sget (w :: σ) (i + 1) = sget σ i := by intros; rfl
theorem s_1_3 : ∀ u, sset (w :: σ) 0 u = u :: σ := by intros; rfl
theorem s_1_4 : ∀ u, sset (w :: σ) (i + 1) u = w :: sset σ i u := by intros; rfl
theorem s_1_5 : ∀ j js u us, ssets σ (j :: js) (u :: us) = ssets (sset σ j (some u)) js us := by intros; rfl
theorem s_1_6 : ssets σ [] [] = σ := by intros; rfl
variable {js : List Nat}
theorem swipe_1_1 : swipe σ [] = σ := by intros; rfl
theorem swipe_1_2 : ∀ j, swipe σ (j :: js) = sset (swipe σ js) j none := by intros; rfl
/-! operators at values of a shape -/
variable {I J : Int} {A B : List Nat} {xa xb : List Val} {ba bb' : Bool}
theorem o_1_1 : bopR .add (.int I) (.int J) h = .ok (.int (I + J)) := by intros; rfl
theorem o_1_2 : bopR .sub (.int I) (.int J) h = .ok (.int (I - J)) := by intros; rfl
theorem o_1_3 : bopR .mul (.int I) (.int J) h = .if_ (CMul I J) (.int (I * J)) := by intros; rfl
theorem o_1_4 : bopR .fdiv (.int I) (.int J) h = .if_ (CDiv J) (.int (I / J)) := by intros; rfl
theorem o_1_5 : bopR .mod (.int I) (.int J) h = .if_ (0 < J) (.int (I % J)) := by intros; rfl
theorem o_1_6 : bopR .shl (.int I) (.int J) h = .if_ (CShl I J) (.int (I * 2 ^ J.toNat)) := by intros; rfl
theorem o_1_7 : bopR .shr (.int I) (.int J) h = .if_ (0 ≤ J) (.int (I / 2 ^ J.toNat)) := by intros; rfl
theorem o_1_8 : bopR .band (.int I) (.int J) h = .ok (.int (PySem.Builtin.bitAnd I J)) := by intros; rfl
theorem o_1_9 : bopR .bor (.int I) (.int J) h = .ok (.int (PySem.Builtin.bitOr I J)) := by intros; rfl
theorem o_1_10 : bopR .bxor (.int I) (.int J) h = .ok (.int (PySem.Builtin.bitXor I J)) := by intros; rfl
theorem o_1_11 : bopR .pow (.int I) (.int J) h = .if_ (CPow I J) (.int (I ^ J.toNat)) := by intros; rfl
theorem o_2_1 : bopR .add (.str A) (.str B) h = .if_ (A.length + B.length ≤ SZ) (.str (A ++ B)) := by intros; rfl
theorem o_2_2 : bopR .add (.tup xa) (.tup xb) h = .if_ (xa.length + xb.length ≤ SZ) (.tup (xa ++ xb)) := by intros; rfl
theorem o_2_3 : negR (.int I) = .ok (.int (-I)) := by intros; rfl
theorem o_2_4 : invR (.int I) = .ok (.int (-I - 1)) := by intros; rfl
theorem o_2_5 : augR .add (.int I) (.int J) h = .ok (.int (I + J)) := by intros; rfl
theorem o_2_6 : augR .sub (.int I) (.int J) h = .ok (.int (I - J)) := by intros; rfl
theorem o_3_1 : cmpR .eq (.int I) (.int J) h = .ok (decide (I = J)) := by intros; rfl
theorem o_3_2 : cmpR .ne (.int I) (.int J) h = .ok (!decide (I = J)) := by intros; rfl
theorem o_3_3 : cmpR .lt (.int I) (.int J) h = .ok (decide (I < J)) := by intros; rfl
theorem o_3_4 : cmpR .le (.int I) (.int J) h = .ok (decide (I ≤ J)) := by intros; rfl
theorem o_3_5 : cmpR .gt (.int I) (.int J) h = .ok (decide (J < I)) := by intros; rfl
theorem o_3_6 : cmpR .ge (.int I) (.int J) h = .ok (decide (J ≤ I)) := by intros; rfl
theorem o_3_7 : cmpR .eq (.str A) (.str B) h = .ok (decide (A = B)) := by intros; rfl
theorem o_3_8 : cmpR .ne (.str A) (.str B) h = .ok (!decide (A = B)) := by intros; rfl
theorem o_3_9 : cmpR .eq (.bl ba) (.bl bb') h = .ok (decide (ba = bb')) := by intros; rfl
theorem o_3_10 : cmpR .ne (.bl ba) (.bl bb') h = .ok (!decide (ba = bb')) := by intros; rfl
theorem o_3_11 : ∀ z : Nat, cmpR .mem (.str [z]) (.str A) h = .ok (decide (z ∈ A)) := by intros; rfl
theorem o_3_12 : ∀ z : Nat, cmpR .nmem (.str [z]) (.str A) h = .ok (!decide (z ∈ A)) := by intros; rfl
theorem o_4_1 : truB .non h = .ok false := by intros; rfl
theorem o_4_2 : truB (.bl ba) h = .ok ba := by intros; rfl
theorem o_4_3 : truB (.int I) h = .ok (I != 0) := by intros; rfl
theorem o_4_4 : truB (.str A) h = .ok (!A.isEmpty) := by intros; rfl
theorem o_4_5 : truB (.tup xa) h = .ok (!xa.isEmpty) := by intros; rfl
theorem o_4_6 : truB (.rls xa) h = .ok (!xa.isEmpty) := by intros; rfl
theorem o_4_7 : isN .non = true := by intros; rfl
theorem o_4_8 : isN (.int I) = false := by intros; rfl
theorem o_4_9 : isN (.bl ba) = false := by intros; rfl
theorem o_4_10 : isN (.str A) = false := by intros; rfl
theorem o_4_11 : isN (.tup xa) = false := by intros; rfl
theorem o_4_12 : isN (.ref i) = false := by intros; rfl
theorem o_5_1 : src1 (.int I) = .ok (B62 I) (rangeV 0 I.toNat) tt := by intros; rfl
theorem o_5_2 : src2 (.int I) (.int J) = .ok (B62 I ∧ B62 J) (rangeV I (J - I).toNat) tt := by intros; rfl
theorem o_5_3 : srcR (.int I) = .ok (B62 I) (rangeV 0 I.toNat).reverse tt := by intros; rfl
theorem o_5_4 : srcOf (.tup xa) h = .ok True xa tt := by intros; rfl
theorem o_5_5 : srcOf (.rls xa) h = .ok True xa tt := by intros; rfl
theorem o_5_6 : srcOf (.str A) h = .ok True (A.map fun c => .str [c]) tt := by intros; rfl
theorem o_5_7 : lrngR (.int I) = .new (B62 I ∧ I ≤ 16777216) (.lst (rangeV 0 I.toNat)) := by intros; rfl
theorem o_6_1 : bifR .len [.str A] h = .ok (.int (A.length : Nat)) := by intros; rfl
theorem o_6_2 : bifR .len [.tup xa] h = .ok (.int (xa.length : Nat)) := by intros; rfl
theorem o_6_3 : bifR .len [.rls xa] h = .ok (.int (xa.length : Nat)) := by intros; rfl
theorem o_6_4 : bifR .min [.int I, .int J] h = .ok (.int (if J < I then J else I)) := by intros; rfl
theorem o_6_5 : bifR .max [.int I, .int J] h = .ok (.int (if J > I then J else I)) := by intros; rfl
theorem o_6_6 : bifR .abs [.int I] h = .ok (.int (if I < 0 then -I else I)) := by intros; rfl
theorem o_6_7 : bifR .int [.bl ba] h = .ok (.int (if ba = true then 1 else 0)) := by intros; rfl
theorem o_6_8 : bifR .int [.int I] h = .ok (.int I) := by intros; rfl
theorem o_7_1 : idxR (.str A) (.int I) h = .ex fun v => ∃ c, at_ A I = some c ∧ v = .str [c] := by intros; rfl
theorem o_7_2 : idxR (.tup xa) (.int I) h = .ex fun v => at_ xa I = some v := by intros; rfl
theorem o_7_3 : idxR (.rls xa) (.int I) h = .ex fun v => at_ xa I = some v := by intros; rfl
theorem o_7_4 : ∀ l u, slcR (.str A) l u h = .ok (.str (cut A l u)) := by intros; rfl
theorem o_7_5 : ∀ l u, slcR (.tup xa) l u h = .ok (.tup (cut xa l u)) := by intros; rfl
theorem o_7_6 : ∀ l u, slcR (.rls xa) l u h = .new True (.lst (cut xa l u)) := by intros; rfl
/-! what stands at an address -/
theorem h_1_1 (e : h i = some (.lst xa)) : truB (.ref i) h = .ok (!xa.isEmpty) := by
  intros
  simp [truB, srcOf, srcE, bifR, lenV, idxR, idxL, slcR, kindV, bmtR, lstA, tyN, itemsOf, e]
theorem h_1_2 (e : h i = some (.lst xa)) : srcOf (.ref i) h = .ok True xa fun h' => h' i = some (.lst xa) := by
  intros
  simp [truB, srcOf, srcE, bifR, lenV, idxR, idxL, slcR, kindV, bmtR, lstA, tyN, itemsOf, e]
theorem h_1_3 (e : h i = some (.lst xa)) : srcE (.ref i) h = .ok True (enumFrom 0 xa) fun h' => h' i = some (.lst xa) := by
  intros
  simp [truB, srcOf, srcE, bifR, lenV, idxR, idxL, slcR, kindV, bmtR, lstA, tyN, itemsOf, e]
theorem h_1_4 (e : h i = some (.lst xa)) : bifR .len [.ref i] h = .ok (.int (xa.length : Nat)) := by
  intros
  simp [truB, srcOf, srcE, bifR, lenV, idxR, idxL, slcR, kindV, bmtR, lstA, tyN, itemsOf, e]
theorem h_1_5 (e : h i = some (.lst xa)) : idxR (.ref i) (.int I) h = .ex fun v => at_ xa I = some v := by
  intros
  simp [truB, srcOf, srcE, bifR, lenV, idxR, idxL, slcR, kindV, bmtR, lstA, tyN, itemsOf, e]
theorem h_1_6 (e : h i = some (.lst xa)) : ∀ l u, slcR (.ref i) l u h = .new True (.lst (cut xa l u)) := by
  intros
  simp [truB, srcOf, srcE, bifR, lenV, idxR, idxL, slcR, kindV, bmtR, lstA, tyN, itemsOf, e]
theorem h_1_7 (e : h i = some (.lst xa)) : kindV "list" (.ref i) h = True := by
  intros
  simp [truB, srcOf, srcE, bifR, lenV, idxR, idxL, slcR, kindV, bmtR, lstA, tyN, itemsOf, e]
theorem h_1_8 (e : h i = some (.lst xa)) : bmtR .append (.ref i) [v] h = .put (xa.length < SZ) i (.lst (xa ++ [v])) .non := by
  intros
  simp [truB, srcOf, srcE, bifR, lenV, idxR, idxL, slcR, kindV, bmtR, lstA, tyN, itemsOf, e]
theorem h_1_9 (e : h i = some (.lst xa)) : tyN (.ref i) h = some "list" := by
  intros
  simp [truB, srcOf, srcE, bifR, lenV, idxR, idxL, slcR, kindV, bmtR, lstA, tyN, itemsOf, e]
theorem h_1_10 (e : h i = some (.lst xa)) : bifR .list [.ref i] h = .new True (.lst xa) := by
  intros
  simp [truB, srcOf, srcE, bifR, lenV, idxR, idxL, slcR, kindV, bmtR, lstA, tyN, itemsOf, e]
theorem h_1_11 (e : h i = some (.lst xa)) : bifR .tuple [.ref i] h = .ok (.tup xa) := by
  intros
  simp [truB, srcOf, srcE, bifR, lenV, idxR, idxL, slcR, kindV, bmtR, lstA, tyN, itemsOf, e]
theorem up_same {ob : Obj} : up h i ob i = some ob := if_pos rfl
theorem up_ne {ob : Obj} {j : Nat} (hne : j ≠ i) : up h i ob j = h j := if_neg hne
theorem up_old {ob ob' : Obj} {j : Nat} (hi : h i = none) (hj : h j = some ob') : up h i ob j = some ob' := by
  rw [up_ne (fun e => by rw [e, hi] at hj; cases hj)]
  exact hj
end
end MP
end
section
set_option maxHeartbeats 4000000
/-! MpV: whole numbers from 0; loops, comprehensions, calls. -/
namespace MP
/-! ### whole numbers from 0 -/
section
variable {h : VH} {a b : Nat} {Q : KV}
theorem n_add : bopR .add (.int (a : Int)) (.int (b : Int)) h = .ok (.int ((a + b : Nat) : Int)) := by rw [o_1_1, Int.natCast_add]
theorem n_mul : bopR .mul (.int (a : Int)) (.int (b : Int)) h = .if_ (CMul a b) (.int ((a * b : Nat) : Int)) := by rw [o_1_3, Int.natCast_mul]
theorem n_fdiv : bopR .fdiv (.int (a : Int)) (.int (b : Int)) h = .if_ (CDiv b) (.int ((a / b : Nat) : Int)) := by rw [o_1_4, Int.natCast_ediv]
theorem n_mod : bopR .mod (.int (a : Int)) (.int (b : Int)) h = .if_ (0 < b) (.int ((a % b : Nat) : Int)) := by
  rw [o_1_5, Int.natCast_emod]
  congr 1
  exact propext (Int.natCast_pos)
theorem pow_cast (a b : Nat) : ((a : Int) ^ b) = ((a ^ b : Nat) : Int) := (Int.natCast_pow a b).symm
theorem two_cast (b : Nat) : ((2 : Int) ^ b) = ((2 ^ b : Nat) : Int) := by rw [Int.natCast_pow]; rfl
theorem n_shl : bopR .shl (.int (a : Int)) (.int (b : Int)) h = .if_ (CShl a b) (.int ((a * 2 ^ b : Nat) : Int)) := by rw [o_1_6, Int.toNat_natCast, Int.natCast_mul, two_cast]
theorem n_shr : (bopR .shr (.int (a : Int)) (.int (b : Int)) h).wp h Q = Q (.int ((a / 2 ^ b : Nat) : Int)) h := by
  rw [o_1_7, Int.toNat_natCast, two_cast, ← Int.natCast_ediv]
  exact propext ⟨fun z => z.2, fun z => ⟨Int.natCast_nonneg b, z⟩⟩
theorem and_cast (a b : Nat) : PySem.Builtin.bitAnd (a : Int) (b : Int) = ((a &&& b : Nat) : Int) := by
  rw [PyProof.Rows.bitAnd_pp (Int.natCast_nonneg _) (Int.natCast_nonneg _), Int.toNat_natCast, Int.toNat_natCast]
theorem or_cast (a b : Nat) : PySem.Builtin.bitOr (a : Int) (b : Int) = ((a ||| b : Nat) : Int) := by
  rw [L2.bitOr_nn (Int.natCast_nonneg _) (Int.natCast_nonneg _), Int.toNat_natCast, Int.toNat_natCast]
theorem xor_sum : ∀ (n a b : Nat), a + b ≤ n → a ||| b = (a ^^^ b) + (a &&& b)
  | 0, a, b, h => by
    obtain rfl : a = 0 := by omega
    obtain rfl : b = 0 := by omega
    rfl
  | n + 1, a, b, h => by
    by_cases z : a + b = 0
    · obtain rfl : a = 0 := by omega
      obtain rfl : b = 0 := by omega
      rfl
    · have ih := xor_sum n (a / 2) (b / 2) (by omega)
      have e1 := Nat.or_div_two (a := a) (b := b)
      have e2 := Nat.xor_div_two (a := a) (b := b)
      have e3 := Nat.and_div_two (a := a) (b := b)
      have f1 := Nat.or_mod_two_eq_one (a := a) (b := b)
      have f2 := Nat.xor_mod_two_eq_one (a := a) (b := b)
      have f3 := Nat.and_mod_two_eq_one (a := a) (b := b)
      generalize a ||| b = x at *
      generalize a ^^^ b = y at *
      generalize a &&& b = w at *
      omega
theorem xor_cast (a b : Nat) : PySem.Builtin.bitXor (a : Int) (b : Int) = ((a ^^^ b : Nat) : Int) := by
  unfold PySem.Builtin.bitXor
  rw [or_cast, and_cast, xor_sum _ a b (Nat.le_refl _), Int.natCast_add]
  omega
theorem n_band : bopR .band (.int (a : Int)) (.int (b : Int)) h = .ok (.int ((a &&& b : Nat) : Int)) := by rw [o_1_8, and_cast]
theorem n_bor : bopR .bor (.int (a : Int)) (.int (b : Int)) h = .ok (.int ((a ||| b : Nat) : Int)) := by rw [o_1_9, or_cast]
theorem n_bxor : bopR .bxor (.int (a : Int)) (.int (b : Int)) h = .ok (.int ((a ^^^ b : Nat) : Int)) := by rw [o_1_10, xor_cast]
theorem n_pow : bopR .pow (.int (a : Int)) (.int (b : Int)) h = .if_ (CPow a b) (.int ((a ^ b : Nat) : Int)) := by rw [o_1_11, Int.toNat_natCast, pow_cast]
theorem n_lt : cmpR .lt (.int (a : Int)) (.int (b : Int)) h = .ok (decide (a < b)) := by rw [o_3_3]; congr 1; exact decide_eq_decide.mpr Int.ofNat_lt
theorem n_le : cmpR .le (.int (a : Int)) (.int (b : Int)) h = .ok (decide (a ≤ b)) := by rw [o_3_4]; congr 1; exact decide_eq_decide.mpr Int.ofNat_le
theorem n_gt : cmpR .gt (.int (a : Int)) (.int (b : Int)) h = .ok (decide (b < a)) := by rw [o_3_5]; congr 1; exact decide_eq_decide.mpr Int.ofNat_lt
theorem n_ge : cmpR .ge (.int (a : Int)) (.int (b : Int)) h = .ok (decide (b ≤ a)) := by rw [o_3_6]; congr 1; exact decide_eq_decide.mpr Int.ofNat_le
theorem n_eq : cmpR .eq (.int (a : Int)) (.int (b : Int)) h = .ok (decide (a = b)) := by rw [o_3_1]; congr 1; exact decide_eq_decide.mpr Int.ofNat_inj
theorem n_ne : cmpR .ne (.int (a : Int)) (.int (b : Int)) h = .ok (!decide (a = b)) := by rw [o_3_2]; congr 2; exact decide_eq_decide.mpr Int.ofNat_inj
theorem n_tru : truB (.int (a : Int)) h = .ok (!decide (a = 0)) := by
  rw [o_4_3]
  congr 1
  by_cases z : a = 0
  · subst z; rfl
  · rw [decide_eq_false z]
    simpa using z
theorem n_min : bifR .min [.int (a : Int), .int (b : Int)] h = .ok (.int ((min a b : Nat) : Int)) := by
  rw [o_6_4]
  congr 2
  by_cases z : b < a
  · rw [if_pos (Int.ofNat_lt.mpr z)]; congr 1; omega
  · rw [if_neg (fun q => z (Int.ofNat_lt.mp q))]; congr 1; omega
theorem n_max : bifR .max [.int (a : Int), .int (b : Int)] h = .ok (.int ((max a b : Nat) : Int)) := by
  rw [o_6_5]
  congr 2
  by_cases z : b > a
  · rw [if_pos (Int.ofNat_lt.mpr z)]; congr 1; omega
  · rw [if_neg (fun q => z (Int.ofNat_lt.mp q))]; congr 1; omega
theorem n_aug : augR .add (.int (a : Int)) (.int (b : Int)) h = .ok (.int ((a + b : Nat) : Int)) := by rw [o_2_5, Int.natCast_add]
theorem n_sub (z : b ≤ a) : bopR .sub (.int (a : Int)) (.int (b : Int)) h = .ok (.int ((a - b : Nat) : Int)) := by rw [o_1_2, Int.ofNat_sub z]
theorem n_subp : bopR .sub (.int ((2 ^ a : Nat) : Int)) (.int ((1 : Nat) : Int)) h = .ok (.int ((2 ^ a - 1 : Nat) : Int)) := n_sub Nat.one_le_two_pow
theorem n_src1 : src1 (.int (a : Int)) = .ok (B62 a) (rangeV 0 a) tt := by rw [o_5_1, Int.toNat_natCast]
theorem n_rv : srcR (.int (a : Int)) = .ok (B62 a) (rangeV 0 a).reverse tt := by rw [o_5_3, Int.toNat_natCast]
theorem b62_nat (z : a < 4611686018427387904) : B62 a := by unfold B62; omega
theorem at_nat {α : Type} {xs : List α} {i : Nat} : at_ xs (i : Int) = xs[i]? := by
  unfold at_
  rw [if_pos (Int.natCast_nonneg i), Int.toNat_natCast]
theorem range_get {n i : Nat} (z : i < (rangeV 0 n).length) : (rangeV 0 n)[i] = .int (i : Int) := by
  have : (rangeV 0 n)[i]? = some (.int (i : Int)) := by
    unfold rangeV at z ⊢
    rw [List.length_map, List.length_range] at z
    rw [List.getElem?_map, List.getElem?_range z]
    simp
  exact (List.getElem?_eq_some_iff.mp this).2
theorem range_len {lo : Int} {n : Nat} : (rangeV lo n).length = n := by unfold rangeV; rw [List.length_map, List.length_range]
theorem cshl_ok {i : Int} {k n j : Nat} (z : i.natAbs < 2 ^ k) (w : k + j ≤ 134217728) : CShl i j := by
  have := PyProof.Rows.intBits_le z
  exact ⟨Int.natCast_nonneg _, by omega⟩
theorem cshl1 {j : Nat} (w : j ≤ 134217727) : CShl ((1 : Nat) : Int) j := cshl_ok (k := 1) (n := 0) (by decide) (by omega)
theorem cdiv_ok {j : Int} (z : 0 < j) (w : j < 2 ^ 64) : CDiv j := by
  refine ⟨z, ?_⟩
  have : j.natAbs < 2 ^ 64 := by omega
  exact Nat.lt_of_lt_of_le (PySem.Flt.log2_lt_of (by decide) this) (by decide)
theorem cmul_ok {i j : Int} {n m : Nat} (hi : i.natAbs < 2 ^ n) (hj : j.natAbs < 2 ^ m) (hn : 0 < n) (hm : 0 < m) (z : n + m ≤ 134217728) : CMul i j := L2.mulx_ok hi hj z
theorem n_isn1 {x : Val} : kIsn true Q x h = Q (.bl (isN x)) h := by unfold kIsn; cases isN x <;> rfl
theorem n_isn2 {x : Val} : kIsn false Q x h = Q (.bl (!isN x)) h := by unfold kIsn; cases isN x <;> rfl
end
/-! ### calls -/
theorem Sem_fn {P : Prog} {d : Nat} {f : String} {n N : Nat} {m : Ss} {vs : List Val} {h : VH} {Q : KV} {X : KX} (hP : P.fn f = some (.fn n N m)) (hl : vs.length = n) (w : wpSs (P.gam (Sem P d)) m (vs.map some ++ List.replicate (N - vs.length) none) h ⟨fun _ h => Q .non h, Q, fun e _ h => X e h⟩) : Sem P (d + 1) f vs h Q X := by
  rw [Sem_fnE hP]
  exact ⟨hl, w⟩
theorem Sem_fl {P : Prog} {d : Nat} {f : String} {n N : Nat} {m : Ss} {vs : List Val} {h : VH} {Q : KV} {X : KX} (hP : P.fn f = some (.fn n N m true)) (hl : vs.length = n) (w : wpSs (P.gam (Sem P d)) m (vs.map some ++ List.replicate (N - vs.length) none) h ⟨fun _ h => Q .non h, Q, fun e _ h => X e h⟩) : Sem P (d + 2) f vs h Q X := by
  rw [Sem_fnL hP]
  exact ⟨hl, w⟩
/-! ### loops -/
section
variable {Γ : Gam} {σ : VS} {h : VH} {D : Ds}
theorem gset_of {g : G} {v : Val} {σ : VS} {k : VS → Prop} (w : gset g v σ k) {k' : VS → Prop} (i : ∀ σ, k σ → k' σ) : gset g v σ k' := gset_mono i w
/-- a for by an invariant -/
theorem loop_inv (L : Le Γ Γ) {g : G} {body : Ss} {ok : VH → Prop} {nx : VS → VH → Prop} {items : List Val} (I : Nat → VS → VH → Prop) (h0 : I 0 σ h) (step : ∀ i σ h (hi : i < items.length), I i σ h → ok h ∧ lBody Γ g body D items[i] σ h (I (i + 1))) (done : ∀ σ h, I items.length σ h → ok h ∧ nx σ h) :
    fgo (lBody Γ g body D) ok nx items σ h := by
  have key : ∀ (n i : Nat) (σ : VS) (h : VH), items.length - i = n → i ≤ items.length → I i σ h → fgo (lBody Γ g body D) ok nx (items.drop i) σ h := by
    intro n
    induction n with
    | zero =>
      intro i σ h e hle hI
      obtain rfl : i = items.length := by omega
      rw [List.drop_length]
      exact done σ h hI
    | succ n ih =>
      intro i σ h e hle hI
      have hi : i < items.length := by omega
      rw [List.drop_eq_getElem_cons hi]
      obtain ⟨h1, h2⟩ := step i σ h hi hI
      refine ⟨h1, gset_mono (fun σ' z => wpSs_mono L body σ' h (D.into (I (i + 1))) (D.into fun σ h => fgo (lBody Γ g body D) ok nx (items.drop (i + 1)) σ h) ⟨fun σ2 h2 q => ?_, fun _ _ q => q, fun _ _ _ q => q⟩ z) h2⟩
      exact ih (i + 1) σ2 h2 (by omega) hi q
  have := key _ 0 σ h rfl (Nat.zero_le _) h0
  rwa [List.drop_zero] at this
/-- what follows a while's test -/
def kWh (Γ : Gam) (body : Ss) (D : Ds) (K nx : VS → VH → Prop) (σ : VS) : Bool → VH → Prop
  | true => fun h => wpSs Γ body σ h (D.into K)
  | false => fun h => nx σ h
theorem kWh_t {body : Ss} {K nx : VS → VH → Prop} : kWh Γ body D K nx σ true h = wpSs Γ body σ h (D.into K) := rfl
theorem kWh_f {body : Ss} {K nx : VS → VH → Prop} : kWh Γ body D K nx σ false h = nx σ h := rfl
/-- a while by an invariant and a measure -/
theorem while_inv (L : Le Γ Γ) {c : E} {body : Ss} {nx : VS → VH → Prop} (I : Nat → VS → VH → Prop) (n : Nat) (h0 : I n σ h) (step : ∀ m σ h, I m σ h → wpE Γ c σ h (kT (kWh Γ body D (fun σ' h' => ∃ m', m' < m ∧ I m' σ' h') nx σ)) (kX D σ)) :
    ∃ n, wgo (wTest Γ c D) (wBody Γ body D) nx n σ h := by
  refine ⟨n + 1, ?_⟩
  have up : ∀ (k : Nat) (σ : VS) (h : VH), wgo (wTest Γ c D) (wBody Γ body D) nx k σ h → ∀ j, k ≤ j → wgo (wTest Γ c D) (wBody Γ body D) nx j σ h := by
    intro k
    induction k with
    | zero => intro σ h z; exact z.elim
    | succ k ih =>
      intro σ h z j hj
      obtain ⟨j, rfl⟩ : ∃ i, j = i + 1 := ⟨j - 1, by omega⟩
      refine wpE_mono L c σ h _ _ _ _ (fun v h' q => ?_) (fun _ _ q => q) z
      refine Bes.mono (fun t q => ?_) q
      cases t with
      | true => exact wpSs_mono L body σ h' { D with nx := fun σ h => wgo (wTest Γ c D) (wBody Γ body D) nx k σ h } { D with nx := fun σ h => wgo (wTest Γ c D) (wBody Γ body D) nx j σ h } ⟨fun σ2 h2 q => ih σ2 h2 q j (by omega), fun _ _ q => q, fun _ _ _ q => q⟩ q
      | false => exact q
  have key : ∀ (m : Nat) (σ : VS) (h : VH), I m σ h → wgo (wTest Γ c D) (wBody Γ body D) nx (m + 1) σ h := by
    intro m
    induction m using Nat.strongRecOn with
    | _ m ih =>
      intro σ h hI
      refine wpE_mono L c σ h _ _ _ _ (fun v h' q => ?_) (fun _ _ q => q) (step m σ h hI)
      refine Bes.mono (fun t q => ?_) q
      cases t with
      | true => exact wpSs_mono L body σ h' (D.into fun σ' h' => ∃ m', m' < m ∧ I m' σ' h') { D with nx := fun σ h => wgo (wTest Γ c D) (wBody Γ body D) nx m σ h } ⟨fun σ2 h2 ⟨m', hm, q⟩ => up _ _ _ (ih m' hm σ2 h2 q) _ hm, fun _ _ q => q, fun _ _ _ q => q⟩ q
      | false => exact q
  exact key n σ h h0
/-! the body's begin -/
theorem lBody_nm {i : Nat} {body : Ss} {v : Val} {k : VS → VH → Prop} : lBody Γ (.nm i) body D v σ h k = wpSs Γ body (sset σ i (some v)) h (D.into k) := rfl
theorem lBody_tp {is : List Nat} {body : Ss} {xs : List Val} {k : VS → VH → Prop} : lBody Γ (.tp is) body D (.tup xs) σ h k = (xs.length = is.length ∧ wpSs Γ body (ssets σ is xs) h (D.into k)) := by
  unfold lBody gset
  dsimp only
  rw [ssets_eq]
/-- an if whose test comes out one way, whatever the ways there -/
theorem ife_cut (L : Le Γ Γ) {c : E} {sa sb : Ss} {b : Bool} (R : VH → Prop) (hc : wpE Γ c σ h (kT fun t h' => t = b ∧ R h') (kX D σ)) (hn : ∀ h', R h' → kIf Γ sa sb σ D b h') : wpS Γ (.ife c sa sb) σ h D := by
  rw [S_ife]
  refine wpE_mono L c σ h _ _ _ _ (fun v h' q => Bes.mono (fun t q => ?_) q) (fun _ _ q => q) hc
  obtain ⟨e, q2⟩ := (show t = b ∧ R h' from q)
  subst e
  exact hn h' q2
/-! ### comprehensions -/
def k0 : KX := fun _ _ => False
def kSome (k : Option Val → VH → Prop) : KV := fun y h => k (some y) h
def kCnd (Γ : Gam) (el : E) (σ : VS) (k : Option Val → VH → Prop) : Bool → VH → Prop
  | true => fun h => wpE Γ el σ h (kSome k) k0
  | false => fun h => k none h
variable {el e : E} {vs : List Nat} {v : Val} {k : Option Val → VH → Prop} {i : Nat} {is : List Nat} {xs : List Val}
theorem kSome_eq : kSome k v h = k (some v) h := rfl
theorem kCnd_t : kCnd Γ el σ k true h = wpE Γ el σ h (kSome k) k0 := rfl
theorem kCnd_f : kCnd Γ el σ k false h = k none h := rfl
theorem c_nm : cbody Γ el (.nm i) .no vs σ v h k = wpE Γ el (sset (swipe σ vs) i (some v)) h (kSome k) k0 := by
  unfold cbody gset
  dsimp only
  rw [wpC]
  exact if_pos rfl
theorem cnd_eq : (onT fun b h2 => if b = true then wpE Γ el σ h2 (fun y h3 => k (some y) h3) (fun _ _ => False) else k none h2) = kT (kCnd Γ el σ k) := by
  unfold onT kT
  have : (fun (b : Bool) h2 => if b = true then wpE Γ el σ h2 (fun y h3 => k (some y) h3) (fun _ _ => False) else k none h2) = kCnd Γ el σ k := by
    funext b h2
    cases b <;> rfl
  rw [this]
  rfl
theorem c_nmI : cbody Γ el (.nm i) (.some e) vs σ v h k = wpE Γ e (sset (swipe σ vs) i (some v)) h (kT (kCnd Γ el (sset (swipe σ vs) i (some v)) k)) k0 := by
  unfold cbody gset
  dsimp only
  rw [wpC, cnd_eq]
  rfl
theorem c_tp : cbody Γ el (.tp is) .no vs σ (.tup xs) h k = (xs.length = is.length ∧ wpE Γ el (ssets (swipe σ vs) is xs) h (kSome k) k0) := by
  unfold cbody gset
  dsimp only
  rw [wpC, ssets_eq]
  rfl
theorem c_tpI : cbody Γ el (.tp is) (.some e) vs σ (.tup xs) h k = (xs.length = is.length ∧ wpE Γ e (ssets (swipe σ vs) is xs) h (kT (kCnd Γ el (ssets (swipe σ vs) is xs) k)) k0) := by
  unfold cbody gset
  dsimp only
  rw [wpC, ssets_eq, cnd_eq]
  rfl
theorem up_up {p : Nat} {x y : Obj} : up (up h p x) p y = up h p y := by
  funext b
  unfold up
  by_cases z : b = p
  · rw [if_pos z, if_pos z]
  · rw [if_neg z, if_neg z, if_neg z]
/-- a comprehension's turn hands on to more -/
theorem cbody_mono (L : Le Γ Γ) {t : G} {c : O} {k k' : Option Val → VH → Prop} (H : ∀ o h, k o h → k' o h) (w : cbody Γ el t c vs σ v h k) : cbody Γ el t c vs σ v h k' := by
  refine gset_mono (fun σ' z => ?_) w
  cases c with
  | no =>
    simp only [wpC, if_true] at z ⊢
    exact wpE_mono L el σ' h _ _ _ _ (fun _ _ q => H _ _ q) (fun _ _ q => q) z
  | some e =>
    simp only [wpC] at z ⊢
    refine wpE_mono L e σ' h _ _ _ _ (fun u h2 q => onT_mono (fun b h3 q => ?_) q) (fun _ _ q => q) z
    cases b with
    | true => exact wpE_mono L el σ' h3 _ _ _ _ (fun _ _ q => H _ _ q) (fun _ _ q => q) q
    | false => exact H _ _ q
/-- a comprehension whose turns leave the heap as it is -/
theorem comp_pure (L : Le Γ Γ) {t : G} {c : O} {ok fin : VH → Prop} {D : Nat} {items : List Val} (f : Val → Option Val) (hl : items.length < SZ) (hok : ∀ acc, ok (up h D (.lst acc))) (step : ∀ x ∈ items, ∀ (acc : List Val) (k : Option Val → VH → Prop), k (f x) (up h D (.lst acc)) → cbody Γ el t c vs σ x (up h D (.lst acc)) k)
    (hf : fin (up h D (.lst (items.filterMap f)))) : cgo (cbody Γ el t c vs σ) ok D fin items (up h D (.lst [])) := by
  have key : ∀ (r acc : List Val), (∀ x ∈ r, x ∈ items) → acc.length + r.length ≤ items.length → fin (up h D (.lst (acc ++ r.filterMap f))) → cgo (cbody Γ el t c vs σ) ok D fin r (up h D (.lst acc)) := by
    intro r
    induction r with
    | nil =>
      intro acc _ _ hf
      rw [List.filterMap_nil, List.append_nil] at hf
      exact ⟨hok _, hf⟩
    | cons x r ih =>
      intro acc hx hlen hf
      refine ⟨hok _, step x (hx x List.mem_cons_self) acc _ ?_⟩
      rw [List.length_cons] at hlen
      cases q : f x with
      | none =>
        rw [List.filterMap_cons_none q] at hf
        exact ih acc (fun y hy => hx y (List.mem_cons_of_mem _ hy)) (by omega) hf
      | some y =>
        rw [List.filterMap_cons_some q] at hf
        refine ⟨acc, up_same, by omega, ?_⟩
        rw [up_up]
        exact ih (acc ++ [y]) (fun y hy => hx y (List.mem_cons_of_mem _ hy)) (by rw [List.length_append, List.length_singleton]; omega) (by rw [List.append_assoc]; exact hf)
  exact key items [] (fun _ h => h) (by rw [List.length_nil]; omega) hf
/-- a comprehension by an invariant: the new list, the heap -/
theorem comp_inv (L : Le Γ Γ) {t : G} {c : O} {ok fin : VH → Prop} {D : Nat} {items : List Val} (hl : items.length < SZ) (I : Nat → List Val → VH → Prop) (h0 : I 0 [] h) (hI : ∀ i acc h, I i acc h → h D = some (.lst acc) ∧ acc.length ≤ i)
    (step : ∀ i (hi : i < items.length) (acc : List Val) (h : VH), I i acc h → ok h ∧ cbody Γ el t c vs σ items[i] h fun o h' => match o with
      | some y => h' D = some (.lst acc) ∧ I (i + 1) (acc ++ [y]) (up h' D (.lst (acc ++ [y])))
      | none => I (i + 1) acc h') (done : ∀ acc h, I items.length acc h → ok h ∧ fin h) : cgo (cbody Γ el t c vs σ) ok D fin items h := by
  have key : ∀ (n i : Nat) (acc : List Val) (h : VH), items.length - i = n → i ≤ items.length → I i acc h → cgo (cbody Γ el t c vs σ) ok D fin (items.drop i) h := by
    intro n
    induction n with
    | zero =>
      intro i acc h e hle q
      obtain rfl : i = items.length := by omega
      rw [List.drop_length]
      exact done acc h q
    | succ n ih =>
      intro i acc h e hle q
      have hi : i < items.length := by omega
      rw [List.drop_eq_getElem_cons hi]
      obtain ⟨h1, h2⟩ := step i hi acc h q
      refine ⟨h1, cbody_mono L (fun o h' q' => ?_) h2⟩
      cases o with
      | none => exact ih (i + 1) acc h' (by omega) hi q'
      | some y => exact ⟨acc, q'.1, by have := (hI _ _ _ q).2; omega, ih (i + 1) _ _ (by omega) hi q'.2⟩
  have := key _ 0 [] h rfl (Nat.zero_le _) h0
  rwa [List.drop_zero] at this
end
/-! ### isinstance -/
section
variable {b : Bool} {I : Int} {A : List Nat} {xs : List Val} {h : VH} {i : Nat} {t : Tabl} {l : List (String × String × Bool)}
theorem z_0 : (Tabl.prog t).isi = isiX t.isx := rfl
theorem z_1 : isiR (isiX l) .non h ["bool"] = .ok (.bl false) := rfl
theorem z_2 : isiR (isiX l) .non h ["int"] = .ok (.bl false) := rfl
theorem z_3 : isiR (isiX l) .non h ["str"] = .ok (.bl false) := rfl
theorem z_4 : isiR (isiX l) .non h ["tuple"] = .ok (.bl false) := rfl
theorem z_5 : isiR (isiX l) .non h ["list"] = .ok (.bl false) := rfl
theorem z_6 : isiR (isiX l) .non h ["dict"] = .ok (.bl false) := rfl
theorem z_7 : isiR (isiX l) (.bl b) h ["bool"] = .ok (.bl true) := rfl
theorem z_8 : isiR (isiX l) (.bl b) h ["int"] = .ok (.bl true) := rfl
theorem z_9 : isiR (isiX l) (.bl b) h ["str"] = .ok (.bl false) := rfl
theorem z_10 : isiR (isiX l) (.bl b) h ["tuple"] = .ok (.bl false) := rfl
theorem z_11 : isiR (isiX l) (.bl b) h ["list"] = .ok (.bl false) := rfl
theorem z_12 : isiR (isiX l) (.bl b) h ["dict"] = .ok (.bl false) := rfl
theorem z_13 : isiR (isiX l) (.int I) h ["bool"] = .ok (.bl false) := rfl
theorem z_14 : isiR (isiX l) (.int I) h ["int"] = .ok (.bl true) := rfl
theorem z_15 : isiR (isiX l) (.int I) h ["str"] = .ok (.bl false) := rfl
theorem z_16 : isiR (isiX l) (.int I) h ["tuple"] = .ok (.bl false) := rfl
theorem z_17 : isiR (isiX l) (.int I) h ["list"] = .ok (.bl false) := rfl
theorem z_18 : isiR (isiX l) (.int I) h ["dict"] = .ok (.bl false) := rfl
theorem z_19 : isiR (isiX l) (.str A) h ["bool"] = .ok (.bl false) := rfl
theorem z_20 : isiR (isiX l) (.str A) h ["int"] = .ok (.bl false) := rfl
theorem z_21 : isiR (isiX l) (.str A) h ["str"] = .ok (.bl true) := rfl
theorem z_22 : isiR (isiX l) (.str A) h ["tuple"] = .ok (.bl false) := rfl
theorem z_23 : isiR (isiX l) (.str A) h ["list"] = .ok (.bl false) := rfl
theorem z_24 : isiR (isiX l) (.str A) h ["dict"] = .ok (.bl false) := rfl
theorem z_25 : isiR (isiX l) (.tup xs) h ["bool"] = .ok (.bl false) := rfl
theorem z_26 : isiR (isiX l) (.tup xs) h ["int"] = .ok (.bl false) := rfl
theorem z_27 : isiR (isiX l) (.tup xs) h ["str"] = .ok (.bl false) := rfl
theorem z_28 : isiR (isiX l) (.tup xs) h ["tuple"] = .ok (.bl true) := rfl
theorem z_29 : isiR (isiX l) (.tup xs) h ["list"] = .ok (.bl false) := rfl
theorem z_30 : isiR (isiX l) (.tup xs) h ["dict"] = .ok (.bl false) := rfl
theorem z_31 : isiR (isiX l) (.rls xs) h ["bool"] = .ok (.bl false) := rfl
theorem z_32 : isiR (isiX l) (.rls xs) h ["int"] = .ok (.bl false) := rfl
theorem z_33 : isiR (isiX l) (.rls xs) h ["str"] = .ok (.bl false) := rfl
theorem z_34 : isiR (isiX l) (.rls xs) h ["tuple"] = .ok (.bl false) := rfl
theorem z_35 : isiR (isiX l) (.rls xs) h ["list"] = .ok (.bl true) := rfl
theorem z_36 : isiR (isiX l) (.rls xs) h ["dict"] = .ok (.bl false) := rfl
theorem z_37 (e : h i = some (.lst xs)) : isiR (isiX l) (.ref i) h ["bool"] = .ok (.bl false) := by
  unfold isiR tyN
  dsimp only
  rw [e]
  rfl
theorem z_38 (e : h i = some (.lst xs)) : isiR (isiX l) (.ref i) h ["int"] = .ok (.bl false) := by
  unfold isiR tyN
  dsimp only
  rw [e]
  rfl
theorem z_39 (e : h i = some (.lst xs)) : isiR (isiX l) (.ref i) h ["str"] = .ok (.bl false) := by
  unfold isiR tyN
  dsimp only
  rw [e]
  rfl
theorem z_40 (e : h i = some (.lst xs)) : isiR (isiX l) (.ref i) h ["tuple"] = .ok (.bl false) := by
  unfold isiR tyN
  dsimp only
  rw [e]
  rfl
theorem z_41 (e : h i = some (.lst xs)) : isiR (isiX l) (.ref i) h ["list"] = .ok (.bl true) := by
  unfold isiR tyN
  dsimp only
  rw [e]
  rfl
theorem z_42 (e : h i = some (.lst xs)) : isiR (isiX l) (.ref i) h ["dict"] = .ok (.bl false) := by
  unfold isiR tyN
  dsimp only
  rw [e]
  rfl
theorem h_add {a b : Nat} {xa xb : List Val} (e : h a = some (.lst xa)) (e2 : h b = some (.lst xb)) : bopR .add (.ref a) (.ref b) h = .new (xa.length + xb.length ≤ SZ) (.lst (xa ++ xb)) := by
  unfold bopR addR lstV
  dsimp only
  rw [e, e2]
end
theorem mem_range {x : Val} {n : Nat} (h : x ∈ rangeV 0 n) : ∃ j : Nat, j < n ∧ x = .int (j : Int) := by
  unfold rangeV at h
  obtain ⟨j, hj, rfl⟩ := List.mem_map.mp h
  exact ⟨j, List.mem_range.mp hj, by rw [Int.zero_add]⟩
theorem int_nat {z : Int} {n : Nat} (h0 : 0 < n) : ∃ k : Nat, k < n ∧ z % (n : Int) = (k : Int) := by
  have h1 := Int.emod_nonneg z (show (n : Int) ≠ 0 by omega)
  have h2 := Int.emod_lt_of_pos z (show (0 : Int) < n by omega)
  exact ⟨(z % n).toNat, by omega, by omega⟩
/-- a comprehension over a range of ints -/
theorem range_map (g : Nat → Int) (f : Val → Option Val) (hf : ∀ j : Nat, f (.int (j : Int)) = some (.int (g j))) (n : Nat) : (rangeV 0 n).filterMap f = ((List.range n).map g).map .int := by
  unfold rangeV
  rw [List.filterMap_map, List.map_map, ← List.filterMap_eq_map]
  congr 1
  funext j
  show f (.int (0 + (j : Int))) = _
  rw [Int.zero_add, hf]
  rfl
end MP
end
section
set_option maxHeartbeats 4000000
/-! MpW: masks, plain: lists of settings in one number. -/
namespace MP
/-- the number whose bits below n are p's -/
def msk (p : Nat → Bool) : Nat → Nat
  | 0 => 0
  | n + 1 => msk p n + (if p n = true then 2 ^ n else 0)
theorem msk_lt (p : Nat → Bool) : ∀ n, msk p n < 2 ^ n
  | 0 => by show 0 < 1; decide
  | n + 1 => by
    have := msk_lt p n
    unfold msk
    rw [Nat.pow_succ]
    split <;> omega
theorem msk_bit (p : Nat → Bool) : ∀ (n s : Nat), (msk p n).testBit s = (decide (s < n) && p s)
  | 0, s => by simp [msk]
  | n + 1, s => by
    have hl := msk_lt p n
    have ih := msk_bit p n s
    unfold msk
    by_cases hp : p n = true
    · rw [if_pos hp, show msk p n + 2 ^ n = 2 ^ n * 1 + msk p n by omega, Nat.testBit_two_pow_mul_add _ hl]
      by_cases hs : s < n
      · rw [if_pos hs, ih]
        rw [decide_eq_true hs, decide_eq_true (show s < n + 1 by omega)]
      · rw [if_neg hs]
        by_cases e : s = n
        · subst e
          simp [hp]
        · have h1 : ¬ s < n + 1 := by omega
          rw [decide_eq_false h1, Bool.false_and]
          exact Nat.testBit_lt_two_pow (Nat.one_lt_two_pow (by omega))
    · rw [if_neg hp, Nat.add_zero, ih]
      by_cases e : s = n
      · subst e
        simp [hp]
      · have : decide (s < n) = decide (s < n + 1) := decide_eq_decide.mpr (by omega)
        rw [this]
theorem msk_ext {p : Nat → Bool} {n m : Nat} (h : ∀ s, m.testBit s = (decide (s < n) && p s)) : m = msk p n := Nat.eq_of_testBit_eq fun s => by rw [h, msk_bit]
theorem msk_true (n : Nat) : msk (fun _ => true) n = 2 ^ n - 1 := by
  symm
  refine msk_ext fun s => ?_
  rw [Nat.testBit_two_pow_sub_one, Bool.and_true]
/-- bit k of s + 2 ^ j, and below -/
theorem bit_sub {s j k : Nat} (h : 2 ^ j ≤ s) (hk : k < j) : (s - 2 ^ j).testBit k = s.testBit k := by
  obtain ⟨t, rfl⟩ : ∃ t, s = 2 ^ j + t := ⟨s - 2 ^ j, by omega⟩
  rw [Nat.add_sub_cancel_left, Nat.testBit_two_pow_add_gt hk]
theorem bit_low {s k : Nat} (h : s < 2 ^ (k + 1)) : s.testBit k = decide (2 ^ k ≤ s) := by
  by_cases hs : 2 ^ k ≤ s
  · rw [decide_eq_true hs]
    obtain ⟨t, rfl⟩ : ∃ t, s = 2 ^ k + t := ⟨s - 2 ^ k, by omega⟩
    rw [Nat.pow_succ] at h
    rw [Nat.testBit_two_pow_add_eq, Nat.testBit_lt_two_pow (show t < 2 ^ k by omega)]
    rfl
  · rw [decide_eq_false hs]
    exact Nat.testBit_lt_two_pow (by omega)
theorem shr_bit (m s : Nat) : (m / 2 ^ s) % 2 = (m.testBit s).toNat := by
  rw [← Nat.shiftRight_eq_div_pow, Nat.testBit_eq_decide_div_mod_eq, Nat.shiftRight_eq_div_pow]
  have : m / 2 ^ s % 2 < 2 := Nat.mod_lt _ (by decide)
  by_cases e : m / 2 ^ s % 2 = 1
  · rw [e]; rfl
  · rw [decide_eq_false e]; show _ = 0; omega
theorem msk_step (p : Nat → Bool) (i b : Nat) (h : b = (p i).toNat) : msk p i + b * 2 ^ i = msk p (i + 1) := by
  subst h
  show _ = msk p i + (if p i = true then 2 ^ i else 0)
  cases p i <;> simp
/-- the settings in which switch k is on -/
def swm (k n : Nat) : Nat := msk (fun s => s.testBit k) (2 ^ n)
theorem swm_lt (k n : Nat) : swm k n < 2 ^ 2 ^ n := msk_lt _ _
theorem swm_bit (k n s : Nat) : (swm k n).testBit s = (decide (s < 2 ^ n) && s.testBit k) := msk_bit _ _ _
theorem swm_first (k : Nat) : (2 ^ 2 ^ k - 1) * 2 ^ 2 ^ k = swm k (k + 1) := by
  refine msk_ext fun s => ?_
  rw [Nat.mul_comm, Nat.testBit_two_pow_mul, Nat.testBit_two_pow_sub_one]
  by_cases h : s < 2 ^ (k + 1)
  · rw [bit_low h, decide_eq_true h, Bool.true_and]
    rw [Nat.pow_succ] at h
    by_cases z : 2 ^ k ≤ s
    · rw [decide_eq_true (show s ≥ 2 ^ k from z), decide_eq_true (show s - 2 ^ k < 2 ^ k by omega)]; rfl
    · rw [decide_eq_false (show ¬ s ≥ 2 ^ k from z)]; rfl
  · rw [decide_eq_false h, Bool.false_and]
    rw [Nat.pow_succ] at h
    rw [decide_eq_false (show ¬ s - 2 ^ k < 2 ^ k by omega), Bool.and_false]
theorem swm_next {k j : Nat} (h : k < j) : swm k j ||| swm k j * 2 ^ 2 ^ j = swm k (j + 1) := by
  refine msk_ext fun s => ?_
  rw [Nat.testBit_or, Nat.mul_comm, Nat.testBit_two_pow_mul, swm_bit, swm_bit, Nat.pow_succ]
  by_cases z : s < 2 ^ j
  · rw [decide_eq_true z, decide_eq_true (show s < 2 ^ j * 2 by omega), decide_eq_false (show ¬ s ≥ 2 ^ j by omega)]; simp
  · rw [decide_eq_false z, decide_eq_true (show s ≥ 2 ^ j by omega), bit_sub (by omega) h]
    have : decide (s - 2 ^ j < 2 ^ j) = decide (s < 2 ^ j * 2) := decide_eq_decide.mpr (by omega)
    rw [this]
    simp
end MP
end
section
set_option maxHeartbeats 4000000
/-! MpX: the settings of a mask, plain. -/
namespace MP
theorem low_bit : ∀ (m : Nat), m ≠ 0 → ∃ s r, m = 2 ^ s * (2 * r + 1)
  | m, h => by
    by_cases e : m % 2 = 1
    · exact ⟨0, m / 2, by omega⟩
    · obtain ⟨s, r, e2⟩ := low_bit (m / 2) (by omega)
      exact ⟨s + 1, r, by rw [Nat.pow_succ, Nat.mul_assoc, Nat.mul_comm 2, Nat.mul_comm _ 2, ← Nat.mul_assoc, Nat.mul_comm _ 2, Nat.mul_assoc, ← e2]; omega⟩
decreasing_by omega
theorem low_testBit (s r j : Nat) : (2 ^ s * (2 * r + 1)).testBit j = (decide (j = s) || (decide (s < j) && r.testBit (j - s - 1))) := by
  rw [Nat.testBit_two_pow_mul]
  by_cases h : j < s
  · rw [decide_eq_false (show ¬ j ≥ s by omega), decide_eq_false (show ¬ j = s by omega), decide_eq_false (show ¬ s < j by omega)]; rfl
  · rw [decide_eq_true (show j ≥ s by omega), Bool.true_and]
    by_cases e : j = s
    · subst e
      rw [Nat.sub_self, decide_eq_true rfl, Bool.true_or, Nat.testBit_zero]
      simp
    · rw [decide_eq_false e, decide_eq_true (show s < j by omega), Bool.false_or, Bool.true_and]
      obtain ⟨k, hk⟩ : ∃ k, j - s = k + 1 := ⟨j - s - 1, by omega⟩
      rw [hk, Nat.testBit_succ, show (2 * r + 1) / 2 = r by omega, Nat.add_sub_cancel]
theorem low_pred (s r j : Nat) : (2 ^ s * (2 * r + 1) - 1).testBit j = (decide (j < s) || (decide (s < j) && r.testBit (j - s - 1))) := by
  have hp := Nat.two_pow_pos s
  rw [show 2 ^ s * (2 * r + 1) - 1 = 2 ^ s * (2 * r) + (2 ^ s - 1) by rw [Nat.mul_add, Nat.mul_one]; omega, Nat.testBit_two_pow_mul_add _ (by omega)]
  by_cases h : j < s
  · rw [if_pos h, decide_eq_true h, Nat.testBit_two_pow_sub_one, decide_eq_true h]; rfl
  · rw [if_neg h, decide_eq_false h, Bool.false_or]
    by_cases e : j = s
    · subst e
      rw [Nat.sub_self, decide_eq_false (Nat.lt_irrefl _), Nat.testBit_zero]
      simp
    · rw [decide_eq_true (show s < j by omega), Bool.true_and]
      obtain ⟨k, hk⟩ : ∃ k, j - s = k + 1 := ⟨j - s - 1, by omega⟩
      rw [hk, Nat.testBit_succ, show (2 * r) / 2 = r by omega, Nat.add_sub_cancel]
theorem low_clear (s r j : Nat) : ((2 ^ s * (2 * r + 1)) &&& (2 ^ s * (2 * r + 1) - 1)).testBit j = ((2 ^ s * (2 * r + 1)).testBit j && decide (j ≠ s)) := by
  rw [Nat.testBit_and, low_pred, low_testBit]
  by_cases e : j = s
  · subst e; simp
  · by_cases h : s < j
    · simp [e, h]
      exact fun z => .inr z
    · simp [e, h]
theorem low_xor (s r : Nat) : (2 ^ s * (2 * r + 1)) ^^^ ((2 ^ s * (2 * r + 1)) &&& (2 ^ s * (2 * r + 1) - 1)) = 2 ^ s := by
  refine Nat.eq_of_testBit_eq fun j => ?_
  rw [Nat.testBit_xor, low_clear, Nat.testBit_two_pow]
  by_cases e : j = s
  · subst e
    rw [low_testBit]
    simp
  · have : ¬ s = j := fun q => e q.symm
    simp [e, this]
theorem clear_lt {m : Nat} (h : m ≠ 0) : m &&& (m - 1) < m := Nat.lt_of_le_of_lt Nat.and_le_right (by omega)
/-- the settings of a mask below n, rising -/
def setl (m n : Nat) : List Nat := (List.range n).filter fun s => m.testBit s
theorem setl_zero (n : Nat) : setl 0 n = [] := by
  unfold setl
  rw [List.filter_eq_nil_iff]
  intro a _
  simp
theorem filter_low {p q : Nat → Bool} {n s : Nat} (hs : s < n) (hp : p s = true) (hl : ∀ i, i < s → p i = false) (hq : ∀ i, q i = (p i && decide (i ≠ s))) : (List.range n).filter p = s :: (List.range n).filter q := by
  have e : List.range n = List.range s ++ (s :: List.range' (s + 1) (n - s - 1)) := by
    rw [List.range_eq_range', List.range_eq_range', ← List.range'_succ, show n - s - 1 + 1 = n - s by omega]
    have := List.range'_append (s := 0) (m := s) (n := n - s) (step := 1)
    rw [Nat.one_mul, Nat.zero_add, show s + (n - s) = n by omega] at this
    exact this.symm
  rw [e, List.filter_append, List.filter_append]
  have e1 : (List.range s).filter p = [] := by
    rw [List.filter_eq_nil_iff]
    intro a ha
    rw [hl a (List.mem_range.mp ha)]
    simp
  have e2 : (List.range s).filter q = [] := by
    rw [List.filter_eq_nil_iff]
    intro a ha
    rw [hq, hl a (List.mem_range.mp ha)]
    simp
  have e3 : q s = false := by rw [hq]; simp
  rw [e1, e2, List.nil_append, List.nil_append, List.filter_cons_of_pos hp, List.filter_cons_of_neg (by rw [e3]; decide)]
  congr 1
  refine List.filter_congr fun a ha => ?_
  have := (List.mem_range'_1.mp ha).1
  rw [hq, decide_eq_true (show a ≠ s by omega), Bool.and_true]
/-- a mask's first setting, and what is left -/
theorem setl_step {m n : Nat} (h : m ≠ 0) (hn : m < 2 ^ n) : ∃ s, s < n ∧ setl m n = s :: setl (m &&& (m - 1)) n ∧ m ^^^ (m &&& (m - 1)) = 2 ^ s := by
  obtain ⟨s, r, rfl⟩ := low_bit m h
  have hb : (2 ^ s * (2 * r + 1)).testBit s = true := by rw [low_testBit]; simp
  have hs : s < n := by
    rcases Nat.lt_or_ge s n with z | z
    · exact z
    · have := Nat.testBit_lt_two_pow (Nat.lt_of_lt_of_le hn (Nat.pow_le_pow_right (by decide) z))
      rw [hb] at this
      cases this
  refine ⟨s, hs, filter_low hs hb (fun i hi => ?_) (fun i => ?_), low_xor s r⟩
  · rw [low_testBit]
    simp
    omega
  · exact low_clear s r i
theorem setl_len (m n : Nat) : (setl m n).length ≤ n := by
  have := List.length_filter_le (fun s => m.testBit s) (List.range n)
  rw [List.length_range] at this
  exact this
theorem setl_mem {m n s : Nat} : s ∈ setl m n ↔ s < n ∧ m.testBit s = true := by
  unfold setl
  rw [List.mem_filter, List.mem_range]
theorem bits_two (s : Nat) : PySem.Builtin.Int.intBits ((2 ^ s : Nat) : Int) = s + 1 := by
  unfold PySem.Builtin.Int.intBits
  have : ((2 ^ s : Nat) : Int) ≠ 0 := by have := Nat.two_pow_pos s; omega
  rw [if_neg (by simpa using this), Int.natAbs_natCast, Nat.log2_two_pow]
theorem toNat_dec (b : Bool) : decide (b.toNat = 1) = b := by cases b <;> rfl
theorem range_filter (p : Nat → Bool) (f : Val → Option Val) (hf : ∀ j : Nat, f (.int (j : Int)) = if p j = true then some (.int (j : Int)) else none) (n : Nat) : (rangeV 0 n).filterMap f = ((List.range n).filter p).map fun (j : Nat) => .int (j : Int) := by
  unfold rangeV
  rw [List.filterMap_map]
  induction List.range n with
  | nil => rfl
  | cons a r ih =>
    rw [List.filterMap_cons, List.filter_cons]
    have e : (f ∘ fun (i : Nat) => Val.int (0 + (i : Int))) a = if p a = true then some (.int (a : Int)) else none := by
      show f (.int (0 + (a : Int))) = _
      rw [Int.zero_add, hf]
    rw [e, ih]
    cases p a <;> rfl
end MP
end
section
set_option maxHeartbeats 4000000
/-! MpY: == and in over values of whole numbers, texts, None, tuples of these, and lists of such. -/
namespace MP
open PySem
mutual
def toD : Val → PyData
  | .non => .none
  | .int i => .int i
  | .str x => .str ⟨x.toArray⟩
  | .tup xs => .tuple (toDs xs)
  | .rls xs => .list (toDs xs)
  | _ => .none
def toDs : List Val → List PyData
  | [] => []
  | x :: xs => toD x :: toDs xs
end
mutual
/-- a value of whole numbers, texts, None, tuples of these, so deep at most -/
def pv : Nat → Val → Bool
  | _, .non => true
  | _, .int _ => true
  | _, .str x => x.all fun c => decide (c < 0x110000)
  | k, .tup xs => pvs k xs
  | k, .rls xs => pvs k xs
  | _, _ => false
/-- the items of something one deeper -/
def pvs : Nat → List Val → Bool
  | _, [] => true
  | 0, _ :: _ => false
  | k + 1, x :: xs => pv k x && pvs (k + 1) xs
end
section
variable {h : VH}
mutual
theorem dv_toD : ∀ (k : Nat) (v : Val), pv k v = true → DV h v (toD v)
  | k, .non, _ => by rw [toD]; exact .non
  | k, .int i, _ => by rw [toD]; exact .int i
  | k, .str x, _ => by rw [toD]; exact .str x
  | k, .tup xs, p => by rw [toD]; rw [pv] at p; exact .tup (dvs_toD k xs p)
  | k, .rls xs, p => by rw [toD]; rw [pv] at p; exact .rls (dvs_toD k xs p)
  | k, .bl _, p => by simp [pv] at p
  | k, .ref _, p => by simp [pv] at p
  | k, .fn _, p => by simp [pv] at p
theorem dvs_toD : ∀ (k : Nat) (xs : List Val), pvs k xs = true → DVs h xs (toDs xs)
  | k, [], _ => by rw [toDs]; exact .nil
  | 0, x :: xs, p => by simp [pvs] at p
  | k + 1, x :: xs, p => by
    rw [pvs, Bool.and_eq_true] at p
    rw [toDs]
    exact .cons (dv_toD k x p.1) (dvs_toD (k + 1) xs p.2)
end
end
mutual
theorem toD_lay : ∀ (k : Nat) (v : Val), pv k v = true → (toD v).canLay0 = true ∧ (toD v).depth ≤ k + 1
  | k, .non, _ => by rw [toD]; exact ⟨rfl, Nat.zero_le _⟩
  | k, .int i, _ => by rw [toD]; exact ⟨rfl, Nat.zero_le _⟩
  | k, .str x, p => by
    rw [toD]
    rw [pv] at p
    refine ⟨?_, Nat.zero_le _⟩
    show PyData.strOk _ = true
    unfold PyData.strOk
    rw [← Array.all_toList]
    exact p
  | k, .tup xs, p => by
    rw [toD]
    rw [pv] at p
    obtain ⟨h1, h2⟩ := toDs_lay k xs p
    refine ⟨h1, ?_⟩
    show PyData.depthAll _ + 1 ≤ k + 1
    omega
  | k, .rls xs, p => by
    rw [toD]
    rw [pv] at p
    obtain ⟨h1, h2⟩ := toDs_lay k xs p
    refine ⟨h1, ?_⟩
    show PyData.depthAll _ + 1 ≤ k + 1
    omega
  | k, .bl _, p => by simp [pv] at p
  | k, .ref _, p => by simp [pv] at p
  | k, .fn _, p => by simp [pv] at p
theorem toDs_lay : ∀ (k : Nat) (xs : List Val), pvs k xs = true → PyData.canLayAll0 (toDs xs) = true ∧ PyData.depthAll (toDs xs) ≤ k
  | k, [], _ => by rw [toDs]; exact ⟨rfl, Nat.zero_le _⟩
  | 0, x :: xs, p => by simp [pvs] at p
  | k + 1, x :: xs, p => by
    rw [pvs, Bool.and_eq_true] at p
    rw [toDs]
    obtain ⟨h1, h2⟩ := toD_lay k x p.1
    obtain ⟨h3, h4⟩ := toDs_lay (k + 1) xs p.2
    refine ⟨?_, ?_⟩
    · show ((toD x).canLay0 && PyData.canLayAll0 (toDs xs)) = true
      rw [h1, h3]
      rfl
    · show max _ _ ≤ _
      omega
end
mutual
theorem eqv_toD : ∀ (k l : Nat) (x y : Val), pv k x = true → pv l y = true → (PyData.eqv (toD x) (toD y) = true ↔ x = y)
  | k, l, .non, y, p, q => by cases y <;> simp [toD, PyData.eqv, pv] at q ⊢
  | k, l, .int i, y, p, q => by cases y <;> simp [toD, PyData.eqv, pv] at q ⊢
  | k, l, .str a, y, p, q => by
    cases y <;> simp [toD, PyData.eqv, pv] at q ⊢
  | k, l, .tup xs, y, p, q => by
    cases y with
    | tup ys =>
      rw [pv] at p q
      rw [toD, toD]
      show PyData.eqvAll (toDs xs) (toDs ys) = true ↔ _
      rw [eqv_toDs k l xs ys p q]
      simp
    | non => simp [toD, PyData.eqv]
    | int i => simp [toD, PyData.eqv]
    | str i => simp [toD, PyData.eqv]
    | rls i => simp [toD, PyData.eqv]
    | bl _ => simp [pv] at q
    | ref _ => simp [pv] at q
    | fn _ => simp [pv] at q
    | ktp _ => simp [pv] at q
  | k, l, .rls xs, y, p, q => by
    cases y with
    | rls ys =>
      rw [pv] at p q
      rw [toD, toD]
      show PyData.eqvAll (toDs xs) (toDs ys) = true ↔ _
      rw [eqv_toDs k l xs ys p q]
      simp
    | non => simp [toD, PyData.eqv]
    | int i => simp [toD, PyData.eqv]
    | str i => simp [toD, PyData.eqv]
    | tup i => simp [toD, PyData.eqv]
    | bl _ => simp [pv] at q
    | ref _ => simp [pv] at q
    | fn _ => simp [pv] at q
    | ktp _ => simp [pv] at q
  | k, l, .bl _, y, p, q => by simp [pv] at p
  | k, l, .ref _, y, p, q => by simp [pv] at p
  | k, l, .fn _, y, p, q => by simp [pv] at p
theorem eqv_toDs : ∀ (k l : Nat) (xs ys : List Val), pvs k xs = true → pvs l ys = true → (PyData.eqvAll (toDs xs) (toDs ys) = true ↔ xs = ys)
  | k, l, [], [], p, q => by simp [toDs, PyData.eqvAll]
  | k, l, [], y :: ys, p, q => by simp [toDs, PyData.eqvAll]
  | k, l, x :: xs, [], p, q => by simp [toDs, PyData.eqvAll]
  | 0, l, x :: xs, y :: ys, p, q => by simp [pvs] at p
  | k + 1, 0, x :: xs, y :: ys, p, q => by simp [pvs] at q
  | k + 1, l + 1, x :: xs, y :: ys, p, q => by
    rw [pvs, Bool.and_eq_true] at p q
    rw [toDs, toDs]
    show (PyData.eqv (toD x) (toD y) && PyData.eqvAll (toDs xs) (toDs ys)) = true ↔ _
    rw [Bool.and_eq_true, eqv_toD k l x y p.1 q.1, eqv_toDs (k + 1) (l + 1) xs ys p.2 q.2]
    simp
end
theorem eqv_dec {k l : Nat} {x y : Val} (p : pv k x = true) (q : pv l y = true) : PyData.eqv (toD x) (toD y) = decide (x = y) := by
  rw [Bool.eq_iff_iff, eqv_toD k l x y p q, decide_eq_true_eq]
theorem eqvs_dec {k l : Nat} {x y : List Val} (p : pvs k x = true) (q : pvs l y = true) : PyData.eqvAll (toDs x) (toDs y) = decide (x = y) := by
  rw [Bool.eq_iff_iff, eqv_toDs k l x y p q, decide_eq_true_eq]
theorem shaped_of {k : Nat} {x : Val} (p : pv k x = true) (hk : k ≤ 60) : SeqAt.shaped (toD x) = true := by
  obtain ⟨h1, h2⟩ := toD_lay k x p
  unfold SeqAt.shaped
  rw [h1, decide_eq_true (by omega)]
  rfl
theorem shaped_l {k : Nat} {xs : List Val} (p : pvs k xs = true) (hk : k ≤ 60) : SeqAt.shaped (.list (toDs xs)) = true := by
  obtain ⟨h1, h2⟩ := toDs_lay k xs p
  unfold SeqAt.shaped
  have e : (PyData.list (toDs xs)).canLay0 = true := h1
  have e2 : (PyData.list (toDs xs)).depth = PyData.depthAll (toDs xs) + 1 := rfl
  rw [e, e2, decide_eq_true (by omega)]
  rfl
/-- what stands at an address, or a list of the script, as a list -/
def lstAt (h : VH) (x : Val) (xs : List Val) : Prop := x = .rls xs ∨ ∃ a, x = .ref a ∧ h a = some (.lst xs)
theorem lstAt.dv {h : VH} {x : Val} {xs : List Val} {k : Nat} (l : lstAt h x xs) (p : pvs k xs = true) : DV h x (.list (toDs xs)) := by
  rcases l with rfl | ⟨a, rfl, e⟩
  · exact .rls (dvs_toD k xs p)
  · exact .lst e (dvs_toD k xs p)
theorem lstAt.of {h : VH} {a : Nat} {xs : List Val} (e : h a = some (.lst xs)) : lstAt h (.ref a) xs := .inr ⟨a, rfl, e⟩
section
variable {h : VH} {k l : Nat}
theorem eq_data {x y : Val} {K : Bool → Prop} (e : cmpR .eq x y h = .ex (eqData x y h)) {d f : PyData} (dx : DV h x d) (dy : DV h y f) (sx : SeqAt.shaped d = true) (sy : SeqAt.shaped f = true) (q : K (PyData.eqv d f)) : (cmpR .eq x y h).wp K := by
  rw [e]
  exact ⟨_, ⟨d, f, dx, dy, sx, sy, rfl⟩, q⟩
theorem ne_data {x y : Val} {K : Bool → Prop} (e : cmpR .eq x y h = .ex (eqData x y h)) {d f : PyData} (dx : DV h x d) (dy : DV h y f) (sx : SeqAt.shaped d = true) (sy : SeqAt.shaped f = true) (q : K (!PyData.eqv d f)) : (cmpR .ne x y h).wp K := by
  have e : eqR x y h = .ex (eqData x y h) := e
  show ((eqR x y h).not).wp K
  rw [e]
  refine ⟨_, ?_, q⟩
  show eqData x y h (!(!PyData.eqv d f))
  rw [Bool.not_not]
  exact ⟨d, f, dx, dy, sx, sy, rfl⟩
theorem eq_tup {xs ys : List Val} {K : Bool → Prop} (p : pvs k xs = true) (q : pvs l ys = true) (hk : k ≤ 60) (hl : l ≤ 60) (w : K (decide (xs = ys))) : (cmpR .eq (.tup xs) (.tup ys) h).wp K := by
  refine eq_data rfl (dv_toD k _ p) (dv_toD l _ q) (shaped_of p hk) (shaped_of q hl) ?_
  rw [eqv_dec (k := k) (l := l) (x := .tup xs) (y := .tup ys) p q]
  have : decide (Val.tup xs = Val.tup ys) = decide (xs = ys) := decide_eq_decide.mpr ⟨fun e => by injection e, fun e => by rw [e]⟩
  rw [this]
  exact w
theorem ne_tup {xs ys : List Val} {K : Bool → Prop} (p : pvs k xs = true) (q : pvs l ys = true) (hk : k ≤ 60) (hl : l ≤ 60) (w : K (!decide (xs = ys))) : (cmpR .ne (.tup xs) (.tup ys) h).wp K := by
  refine ne_data rfl (dv_toD k _ p) (dv_toD l _ q) (shaped_of p hk) (shaped_of q hl) ?_
  rw [eqv_dec (k := k) (l := l) (x := .tup xs) (y := .tup ys) p q]
  have : decide (Val.tup xs = Val.tup ys) = decide (xs = ys) := decide_eq_decide.mpr ⟨fun e => by injection e, fun e => by rw [e]⟩
  rw [this]
  exact w
theorem lst_ex {x y : Val} {xs ys : List Val} (lx : lstAt h x xs) (ly : lstAt h y ys) : cmpR .eq x y h = .ex (eqData x y h) := by
  rcases lx with rfl | ⟨a, rfl, _⟩ <;> rcases ly with rfl | ⟨b, rfl, _⟩ <;> rfl
theorem eq_lst {x y : Val} {xs ys : List Val} {K : Bool → Prop} (lx : lstAt h x xs) (ly : lstAt h y ys) (p : pvs k xs = true) (q : pvs l ys = true) (hk : k ≤ 60) (hl : l ≤ 60) (w : K (decide (xs = ys))) : (cmpR .eq x y h).wp K := by
  refine eq_data (lst_ex lx ly) (lx.dv p) (ly.dv q) (shaped_l p hk) (shaped_l q hl) ?_
  show K (PyData.eqvAll (toDs xs) (toDs ys))
  rw [eqvs_dec p q]
  exact w
theorem ne_lst {x y : Val} {xs ys : List Val} {K : Bool → Prop} (lx : lstAt h x xs) (ly : lstAt h y ys) (p : pvs k xs = true) (q : pvs l ys = true) (hk : k ≤ 60) (hl : l ≤ 60) (w : K (!decide (xs = ys))) : (cmpR .ne x y h).wp K := by
  refine ne_data (lst_ex lx ly) (lx.dv p) (ly.dv q) (shaped_l p hk) (shaped_l q hl) ?_
  show K (!PyData.eqvAll (toDs xs) (toDs ys))
  rw [eqvs_dec p q]
  exact w
theorem any_mem {x : Val} : ∀ {k l : Nat} {xs : List Val}, pv k x = true → pvs l xs = true → ((toDs xs).any fun e => PyData.eqv e (toD x)) = decide (x ∈ xs)
  | k, l, [], p, q => by simp [toDs]
  | k, 0, y :: ys, p, q => by simp [pvs] at q
  | k, l + 1, y :: ys, p, q => by
    rw [pvs, Bool.and_eq_true] at q
    rw [toDs, List.any_cons, any_mem p q.2, eqv_dec q.1 p]
    by_cases e : y = x
    · subst e; simp
    · rw [decide_eq_false e, Bool.false_or]
      exact decide_eq_decide.mpr ⟨List.mem_cons_of_mem _, fun h => by
        rcases List.mem_cons.mp h with e2 | h
        · exact (e e2.symm).elim
        · exact h⟩
theorem mem_lst {x : Val} {a : Nat} {xs : List Val} {K : Bool → Prop} (e : h a = some (.lst xs)) (p : pv k x = true) (q : pvs l xs = true) (hk : k ≤ 60) (w : K (decide (x ∈ xs))) : (cmpR .mem x (.ref a) h).wp K := by
  have : cmpR .mem x (.ref a) h = .ex (memData x xs h) := by
    show inR x (.ref a) h = _
    unfold inR
    dsimp only
    rw [e]
  rw [this]
  refine ⟨_, ⟨toD x, toDs xs, dv_toD k x p, dvs_toD l xs q, shaped_of p hk, (toDs_lay l xs q).1, rfl⟩, ?_⟩
  rw [any_mem p q]
  exact w
end
theorem pvs_ints (k : Nat) : ∀ zs : List Int, pvs (k + 1) (zs.map .int) = true
  | [] => rfl
  | z :: zs => by rw [List.map_cons, pvs, pvs_ints k zs]; rfl
theorem pvs_nats (k : Nat) (zs : List Nat) : pvs (k + 1) (zs.map fun n => .int ((n : Nat) : Int)) = true := by
  have := pvs_ints k (zs.map fun n => ((n : Nat) : Int))
  rw [List.map_map] at this
  exact this
theorem nats_inj {xs ys : List Nat} : decide ((xs.map fun n => Val.int ((n : Nat) : Int)) = ys.map fun n => Val.int ((n : Nat) : Int)) = decide (xs = ys) := by
  refine decide_eq_decide.mpr ⟨fun e => ?_, fun e => by rw [e]⟩
  exact List.map_inj_right (f := fun n : Nat => Val.int ((n : Nat) : Int)) (fun a b e => by injection e with e; exact Int.ofNat_inj.mp e) |>.mp e
/-- the objects stay, more may stand beside them -/
def Ext (h h' : VH) : Prop := ∀ a o, h a = some o → h' a = some o
theorem Ext.refl {h : VH} : Ext h h := fun _ _ e => e
theorem Ext.trans {h h1 h2 : VH} (a : Ext h h1) (b : Ext h1 h2) : Ext h h2 := fun c o e => b c o (a c o e)
theorem Ext.up {h : VH} {p : Nat} {o : Obj} (hp : h p = none) : Ext h (up h p o) := fun a o' e => up_old hp e
theorem Ext.up2 {h h1 : VH} {p : Nat} {o : Obj} (e : Ext h h1) (hp : h p = none) : Ext h (MP.up h1 p o) := fun a o' e2 => by
  rw [up_ne (fun q => by rw [q, hp] at e2; cases e2)]
  exact e a o' e2
theorem cut_drop {α : Type} (xs : List α) (k : Nat) : cut xs (some ((k : Nat) : Int)) none = xs.drop k := by
  unfold cut clip
  dsimp only
  rw [if_neg (show ¬ ((k : Nat) : Int) < 0 by omega), Int.toNat_natCast]
  by_cases h : k ≤ xs.length
  · rw [Nat.min_eq_left h, List.take_of_length_le (by rw [List.length_drop]; exact Nat.le_refl _)]
  · rw [Nat.min_eq_right (by omega), List.drop_eq_nil_of_le (show xs.length ≤ k by omega), List.drop_length, List.take_nil]
theorem cut_take {α : Type} (xs : List α) (k : Nat) : cut xs none (some ((k : Nat) : Int)) = xs.take k := by
  unfold cut clip
  dsimp only
  rw [if_neg (show ¬ ((k : Nat) : Int) < 0 by omega), Int.toNat_natCast, Nat.sub_zero, List.drop_zero]
  by_cases h : k ≤ xs.length
  · rw [Nat.min_eq_left h]
  · rw [Nat.min_eq_right (by omega), List.take_length, List.take_of_length_le (by omega)]
theorem rgc_nat {b c : Nat} (hc : 0 < c) (hc2 : c < 1073741824) (hb : b < 2 ^ 40) : L2.RgC 0 (b : Int) (c : Int) (PySem.Builtin.Range.rangeSize 0 b c).toNat := by
  have hp : (c : Int) > 0 := by omega
  have e : PySem.Builtin.Range.rangeSize 0 (b : Int) (c : Int) = if (0 : Int) < b then ((b : Int) - 0 - 1) / c + 1 else 0 := by
    unfold PySem.Builtin.Range.rangeSize
    rw [if_pos hp]
  have hd : (0 : Int) < b → 0 ≤ ((b : Int) - 0 - 1) / c ∧ ((b : Int) - 0 - 1) / c ≤ (b : Int) - 0 - 1 := fun q => ⟨Int.ediv_nonneg (by omega) (by omega), Int.ediv_le_self _ (by omega)⟩
  refine ⟨by omega, by omega, ?_, ?_⟩
  · unfold PySem.Builtin.Range.small
    rw [e]
    simp only [PySem.Builtin.Range.rangeFitsLong, Bool.and_eq_true, Bool.or_eq_true, decide_eq_true_eq, beq_iff_eq, hp, if_true]
    split
    · rename_i q
      have := hd q
      generalize ((b : Int) - 0 - 1) / c = t at *
      omega
    · omega
  · rw [e]
    split
    · rename_i q
      have := hd q
      omega
    · rfl
theorem boolsOf_map : ∀ bs : List Bool, boolsOf (bs.map .bl) = some bs
  | [] => rfl
  | b :: bs => by rw [List.map_cons, boolsOf, boolsOf_map bs]; rfl
theorem h_all {h : VH} {a : Nat} {bs : List Bool} (e : h a = some (.lst (bs.map .bl))) : bifR .all [.ref a] h = .ok (.bl (bs.all id)) := by
  unfold bifR lstV
  dsimp only
  rw [e]
  dsimp only
  rw [boolsOf_map]
theorem h_any {h : VH} {a : Nat} {bs : List Bool} (e : h a = some (.lst (bs.map .bl))) : bifR .any [.ref a] h = .ok (.bl (bs.any id)) := by
  unfold bifR lstV
  dsimp only
  rw [e]
  dsimp only
  rw [boolsOf_map]
end MP
end
section
set_option maxHeartbeats 4000000
/-! MqA: running code by simp with whole numbers by two heads: nv (from 0), zv (any); lists known as values. -/
namespace MP
def nv (a : Nat) : Val := .int (a : Int)
def zv (I : Int) : Val := .int I
def imod (I : Int) (b : Nat) : Nat := (I % (b : Int)).toNat
theorem imod_lt {I : Int} {b : Nat} (h : 0 < b) : imod I b < b := by
  have h1 := Int.emod_lt_of_pos I (show (0 : Int) < b by omega)
  unfold imod
  omega
theorem imod_eq {I : Int} {b : Nat} (h : 0 < b) : I % (b : Int) = (imod I b : Nat) := by
  have h1 := Int.emod_nonneg I (show (b : Int) ≠ 0 by omega)
  unfold imod
  omega
theorem nv_inj {a b : Nat} : nv a = nv b ↔ a = b := by
  unfold nv
  exact ⟨fun e => by injection e with e; exact Int.ofNat_inj.mp e, fun e => by rw [e]⟩
section
variable {Γ : Gam} {σ : VS} {h : VH} {Q : KV} {X : KX} {D : Ds} {a b c : Nat} {I J : Int} {xs ys : List Val} {A B : List Nat} {bb : Bool}
theorem q_lit : wpE Γ (.int ((a : Nat) : Int)) σ h Q X = Q (nv a) h := by rw [wpE]; rfl
theorem q_add_nn : bopR .add (nv a) (nv b) h = .ok (nv (a + b)) := n_add
theorem q_add_zn : bopR .add (zv I) (nv b) h = .ok (zv (I + b)) := rfl
theorem q_add_nz : bopR .add (nv a) (zv J) h = .ok (zv (a + J)) := rfl
theorem q_add_zz : bopR .add (zv I) (zv J) h = .ok (zv (I + J)) := rfl
theorem q_sub_nn (z : b ≤ a) : bopR .sub (nv a) (nv b) h = .ok (nv (a - b)) := n_sub z
theorem q_sub_p : bopR .sub (nv (2 ^ a)) (nv 1) h = .ok (nv (2 ^ a - 1)) := n_subp
theorem q_sub_lt (z : a < b) : bopR .sub (nv a) (nv b) h = .ok (zv ((a : Int) - b)) := rfl
theorem q_sub_zn : bopR .sub (zv I) (nv b) h = .ok (zv (I - b)) := rfl
theorem q_sub_nz : bopR .sub (nv a) (zv J) h = .ok (zv (a - J)) := rfl
theorem q_sub_zz : bopR .sub (zv I) (zv J) h = .ok (zv (I - J)) := rfl
theorem q_mul_nn : bopR .mul (nv a) (nv b) h = .if_ (CMul a b) (nv (a * b)) := n_mul
theorem q_mul_zn : bopR .mul (zv I) (nv b) h = .if_ (CMul I b) (zv (I * b)) := rfl
theorem q_mul_nz : bopR .mul (nv a) (zv J) h = .if_ (CMul a J) (zv (a * J)) := rfl
theorem q_mul_s {c : Nat} : bopR .mul (.str [c]) (nv a) h = .if_ (2 ≤ (a : Int) ∧ (a : Int) < 16777217) (.str (List.replicate a c)) := rfl
theorem q_mul_zz : bopR .mul (zv I) (zv J) h = .if_ (CMul I J) (zv (I * J)) := rfl
theorem q_div_nn : bopR .fdiv (nv a) (nv b) h = .if_ (CDiv b) (nv (a / b)) := n_fdiv
theorem q_div_zn : bopR .fdiv (zv I) (nv b) h = .if_ (CDiv b) (zv (I / b)) := rfl
theorem q_mod_nn : (bopR .mod (nv a) (nv b) h).wp h Q = (0 < b ∧ Q (nv (a % b)) h) := by unfold nv; rw [n_mod]; rfl
theorem q_mod_zn : (bopR .mod (zv I) (nv b) h).wp h Q = (0 < b ∧ Q (nv (imod I b)) h) := by
  unfold nv zv
  rw [o_1_5, r_1_2]
  refine propext ⟨fun ⟨z, q⟩ => ?_, fun ⟨z, q⟩ => ?_⟩
  · have z : 0 < b := by omega
    rw [imod_eq z] at q
    exact ⟨z, q⟩
  · rw [imod_eq z]
    exact ⟨by omega, q⟩
theorem q_shl_nn : bopR .shl (nv a) (nv b) h = .if_ (CShl a b) (nv (a * 2 ^ b)) := n_shl
theorem q_shr_nn : (bopR .shr (nv a) (nv b) h).wp h Q = Q (nv (a / 2 ^ b)) h := n_shr
theorem q_shr_zn : (bopR .shr (zv I) (nv b) h).wp h Q = Q (zv (I / ((2 ^ b : Nat) : Int))) h := by
  unfold nv zv
  rw [o_1_7, Int.toNat_natCast, two_cast]
  exact propext ⟨fun z => z.2, fun z => ⟨Int.natCast_nonneg b, z⟩⟩
theorem q_and_nn : bopR .band (nv a) (nv b) h = .ok (nv (a &&& b)) := n_band
theorem q_or_nn : bopR .bor (nv a) (nv b) h = .ok (nv (a ||| b)) := n_bor
theorem q_xor_nn : bopR .bxor (nv a) (nv b) h = .ok (nv (a ^^^ b)) := n_bxor
theorem q_pow_nn : bopR .pow (nv a) (nv b) h = .if_ (CPow a b) (nv (a ^ b)) := n_pow
theorem q_lt_nn : cmpR .lt (nv a) (nv b) h = .ok (decide (a < b)) := n_lt
theorem q_le_nn : cmpR .le (nv a) (nv b) h = .ok (decide (a ≤ b)) := n_le
theorem q_gt_nn : cmpR .gt (nv a) (nv b) h = .ok (decide (b < a)) := n_gt
theorem q_ge_nn : cmpR .ge (nv a) (nv b) h = .ok (decide (b ≤ a)) := n_ge
theorem q_eq_nn : cmpR .eq (nv a) (nv b) h = .ok (decide (a = b)) := n_eq
theorem q_ne_nn : cmpR .ne (nv a) (nv b) h = .ok (!decide (a = b)) := n_ne
theorem q_lt_zn : cmpR .lt (zv I) (nv b) h = .ok (decide (I < (b : Int))) := rfl
theorem q_le_zn : cmpR .le (zv I) (nv b) h = .ok (decide (I ≤ (b : Int))) := rfl
theorem q_gt_zn : cmpR .gt (zv I) (nv b) h = .ok (decide ((b : Int) < I)) := rfl
theorem q_ge_zn : cmpR .ge (zv I) (nv b) h = .ok (decide ((b : Int) ≤ I)) := rfl
theorem q_eq_zn : cmpR .eq (zv I) (nv b) h = .ok (decide (I = (b : Int))) := rfl
theorem q_ne_zn : cmpR .ne (zv I) (nv b) h = .ok (!decide (I = (b : Int))) := rfl
theorem q_tru_n : truB (nv a) h = .ok (!decide (a = 0)) := n_tru
theorem q_tru_z : truB (zv I) h = .ok (I != 0) := rfl
theorem q_neg_n : negR (nv a) = .ok (zv (-(a : Int))) := rfl
theorem q_neg_z : negR (zv I) = .ok (zv (-I)) := rfl
theorem q_inv_n : invR (nv a) = .ok (zv (-(a : Int) - 1)) := rfl
theorem q_isin0 {l : List (String × String × Bool)} : isiR (isiX l) (nv a) h ["bool"] = .ok (.bl false) := rfl
theorem q_isiz0 {l : List (String × String × Bool)} : isiR (isiX l) (zv I) h ["bool"] = .ok (.bl false) := rfl
theorem q_isin1 {l : List (String × String × Bool)} : isiR (isiX l) (nv a) h ["int"] = .ok (.bl true) := rfl
theorem q_isiz1 {l : List (String × String × Bool)} : isiR (isiX l) (zv I) h ["int"] = .ok (.bl true) := rfl
theorem q_isin2 {l : List (String × String × Bool)} : isiR (isiX l) (nv a) h ["str"] = .ok (.bl false) := rfl
theorem q_isiz2 {l : List (String × String × Bool)} : isiR (isiX l) (zv I) h ["str"] = .ok (.bl false) := rfl
theorem q_isin3 {l : List (String × String × Bool)} : isiR (isiX l) (nv a) h ["tuple"] = .ok (.bl false) := rfl
theorem q_isiz3 {l : List (String × String × Bool)} : isiR (isiX l) (zv I) h ["tuple"] = .ok (.bl false) := rfl
theorem q_isin4 {l : List (String × String × Bool)} : isiR (isiX l) (nv a) h ["list"] = .ok (.bl false) := rfl
theorem q_isiz4 {l : List (String × String × Bool)} : isiR (isiX l) (zv I) h ["list"] = .ok (.bl false) := rfl
theorem q_isin5 {l : List (String × String × Bool)} : isiR (isiX l) (nv a) h ["dict"] = .ok (.bl false) := rfl
theorem q_isiz5 {l : List (String × String × Bool)} : isiR (isiX l) (zv I) h ["dict"] = .ok (.bl false) := rfl
theorem q_isN_n : isN (nv a) = false := rfl
theorem q_isN_z : isN (zv I) = false := rfl
theorem q_isN_r : isN (.rls xs) = false := rfl
theorem q_aug_nn : augR .add (nv a) (nv b) h = .ok (nv (a + b)) := n_aug
theorem q_aug_zn : augR .add (zv I) (nv b) h = .ok (zv (I + b)) := rfl
theorem q_aug_sn (z : b ≤ a) : augR .sub (nv a) (nv b) h = .ok (nv (a - b)) := by
  show Res.ok _ = _
  unfold nv
  rw [Int.ofNat_sub z]
theorem rangeV_eq (n : Nat) : rangeV 0 n = (List.range n).map nv := by
  unfold rangeV
  refine List.map_congr_left fun i _ => ?_
  unfold nv
  rw [Int.zero_add]
theorem q_src1 : src1 (nv a) = .ok (B62 a) ((List.range a).map nv) tt := by unfold nv; rw [n_src1, rangeV_eq]; rfl
theorem q_src2 : src2 (nv a) (nv b) = .ok (B62 a ∧ B62 b) ((List.range (b - a)).map fun i => nv (a + i)) tt := by
  unfold nv
  show Src.ok _ (rangeV (a : Int) ((b : Int) - a).toNat) tt = _
  rw [show ((b : Int) - (a : Int)).toNat = b - a by omega]
  unfold rangeV
  congr 1
theorem q_srcR : srcR (nv a) = .ok (B62 a) ((List.range a).reverse.map nv) tt := by
  unfold nv
  rw [n_rv, rangeV_eq, ← List.map_reverse]
  rfl
theorem q_srcEt : srcE (.tup xs) h = .ok True (enumFrom 0 xs) tt := rfl
theorem q_srcZ1 {ys : List Val} : srcZ (.tup xs) (.rls ys) h = .ok True (zipV xs ys) (fun h' => tt h' ∧ tt h') := rfl
theorem q_srcZ2 {ys : List Val} : srcZ (.rls xs) (.tup ys) h = .ok True (zipV xs ys) (fun h' => tt h' ∧ tt h') := rfl
theorem q_srcZ3 {ys : List Val} : srcZ (.rls xs) (.rls ys) h = .ok True (zipV xs ys) (fun h' => tt h' ∧ tt h') := rfl
theorem q_srcZ4 {ys : List Val} : srcZ (.tup xs) (.tup ys) h = .ok True (zipV xs ys) (fun h' => tt h' ∧ tt h') := rfl
theorem q_srcE : srcE (.rls xs) h = .ok True (enumFrom 0 xs) tt := rfl
theorem enum_map {α : Type} (f : α → Val) : ∀ (xs : List α) (k : Nat), enumFrom k (xs.map f) = (xs.zipIdx k).map fun p => .tup [nv p.2, f p.1]
  | [], _ => rfl
  | x :: r, k => by
    rw [List.map_cons, enumFrom, enum_map f r (k + 1), List.zipIdx_cons, List.map_cons]
    rfl
theorem q_lrng : lrngR (nv a) = .new (B62 a ∧ a ≤ 16777216) (.lst ((List.range a).map nv)) := by
  unfold nv
  rw [o_5_7, Int.toNat_natCast, rangeV_eq]
  have : ((a : Int) ≤ 16777216) = (a ≤ 16777216) := propext (by omega)
  rw [this]
  rfl
theorem q_len_s : bifR .len [.str A] h = .ok (nv A.length) := rfl
theorem q_len_t : bifR .len [.tup xs] h = .ok (nv xs.length) := rfl
theorem q_len_r : bifR .len [.rls xs] h = .ok (nv xs.length) := rfl
theorem q_min_nn : bifR .min [nv a, nv b] h = .ok (nv (min a b)) := n_min
theorem q_max_nn : bifR .max [nv a, nv b] h = .ok (nv (max a b)) := n_max
theorem q_int_b : bifR .int [.bl bb] h = .ok (nv bb.toNat) := by cases bb <;> rfl
theorem q_int_n : bifR .int [nv a] h = .ok (nv a) := rfl
theorem q_list_r : bifR .list [.rls xs] h = .new True (.lst xs) := rfl
theorem q_list_t : bifR .list [.tup xs] h = .new True (.lst xs) := rfl
theorem q_tuple_r : bifR .tuple [.rls xs] h = .ok (.tup xs) := rfl
theorem q_tuple_t : bifR .tuple [.tup xs] h = .ok (.tup xs) := rfl
theorem q_cat_r : bopR .add (.rls xs) (.rls ys) h = .new (xs.length + ys.length ≤ SZ) (.lst (xs ++ ys)) := rfl
/-! indices -/
theorem q_idx_r : (idxR (.rls xs) (nv a) h).wp h Q = kVar Q h xs[a]? := by
  show (∃ v, at_ xs (a : Int) = some v ∧ Q v h) = _
  rw [at_nat]
  cases e : xs[a]? with
  | none => exact propext (Iff.intro (fun ⟨v, q, _⟩ => nomatch q) (fun q => False.elim q))
  | some v => exact propext ⟨fun ⟨w, q, z⟩ => by cases q; exact z, fun q => ⟨v, rfl, q⟩⟩
theorem q_idx_t : (idxR (.tup xs) (nv a) h).wp h Q = kVar Q h xs[a]? := q_idx_r (xs := xs)
theorem q_idx_s : (idxR (.str A) (nv a) h).wp h Q = kVar Q h (A[a]?.map fun c => .str [c]) := by
  show (∃ v, (∃ c, at_ A (a : Int) = some c ∧ v = .str [c]) ∧ Q v h) = _
  rw [at_nat]
  cases e : A[a]? with
  | none => exact propext (Iff.intro (fun ⟨v, ⟨_, q, _⟩, _⟩ => nomatch q) (fun q => False.elim q))
  | some v => exact propext ⟨fun ⟨w, ⟨_, q, e⟩, z⟩ => by cases q; subst e; exact z, fun q => ⟨_, ⟨v, rfl, rfl⟩, q⟩⟩
theorem at_last {α : Type} (xs : List α) : at_ xs (-((1 : Nat) : Int)) = xs.getLast? := by
  unfold at_
  rw [if_neg (by omega), List.getLast?_eq_getElem?]
  by_cases z : xs.length = 0
  · rw [if_neg (by omega)]
    have : xs = [] := List.eq_nil_of_length_eq_zero z
    rw [this]
    rfl
  · rw [if_pos (by omega), show (-((1 : Nat) : Int) + (xs.length : Int)).toNat = xs.length - 1 by omega]
theorem q_last_r : (idxR (.rls xs) (zv (-((1 : Nat) : Int))) h).wp h Q = kVar Q h xs.getLast? := by
  show (∃ v, at_ xs (-((1 : Nat) : Int)) = some v ∧ Q v h) = _
  rw [at_last]
  cases e : xs.getLast? with
  | none => exact propext (Iff.intro (fun ⟨v, q, _⟩ => nomatch q) (fun q => False.elim q))
  | some v => exact propext ⟨fun ⟨w, q, z⟩ => by cases q; exact z, fun q => ⟨v, rfl, q⟩⟩
theorem q_last_t : (idxR (.tup xs) (zv (-((1 : Nat) : Int))) h).wp h Q = kVar Q h xs.getLast? := q_last_r (xs := xs)
theorem q_kO {Qo : Option Int → VH → Prop} : kO Qo (nv a) h = Qo (some (a : Int)) h := rfl
theorem q_kOz {Qo : Option Int → VH → Prop} : kO Qo (zv I) h = Qo (some I) h := rfl
theorem cut_both {α : Type} (xs : List α) (j k : Nat) : cut xs (some (j : Int)) (some (k : Int)) = (xs.take k).drop j := by
  unfold cut clip
  dsimp only
  rw [if_neg (show ¬ ((j : Nat) : Int) < 0 by omega), if_neg (show ¬ ((k : Nat) : Int) < 0 by omega), Int.toNat_natCast, Int.toNat_natCast]
  rw [List.drop_take]
  by_cases h : k ≤ xs.length
  · rw [Nat.min_eq_left h]
    by_cases h2 : j ≤ xs.length
    · rw [Nat.min_eq_left h2]
    · rw [Nat.min_eq_right (by omega), show k - xs.length = 0 by omega, show k - j = 0 by omega, List.take_zero, List.take_zero]
  · rw [Nat.min_eq_right (show xs.length ≤ k by omega)]
    by_cases h2 : j ≤ xs.length
    · rw [Nat.min_eq_left h2, List.take_of_length_le (by rw [List.length_drop]; omega), List.take_of_length_le (by rw [List.length_drop]; omega)]
    · rw [Nat.min_eq_right (by omega), List.drop_length, List.take_nil, List.drop_eq_nil_of_le (by omega), List.take_nil]
theorem cut_init {α : Type} (xs : List α) : cut xs none (some (-((1 : Nat) : Int))) = xs.dropLast := by
  unfold cut clip
  dsimp only
  rw [if_pos (by omega), List.drop_zero, Nat.sub_zero, List.dropLast_eq_take]
  congr 1
  omega
theorem cut_all {α : Type} (xs : List α) : cut xs none none = xs := by
  unfold cut clip
  dsimp only
  rw [List.drop_zero, Nat.sub_zero, List.take_length]
theorem cut_tail {α : Type} (xs : List α) (k : Nat) : cut xs (some (-(k : Int))) none = xs.drop (if k = 0 then 0 else xs.length - k) := by
  unfold cut clip
  dsimp only
  by_cases z : k = 0
  · subst z
    simp
  · rw [if_neg z, if_pos (by omega), show (-(k : Int) + (xs.length : Int)).toNat = xs.length - k by omega]
    rw [List.take_of_length_le (by rw [List.length_drop]; exact Nat.le_refl _)]
/-! lists that are known as values -/
theorem del_up {p : Nat} {o : Obj} (hp : h p = none) : del (up h p o) p = h := by
  funext b
  unfold del up
  by_cases z : b = p
  · rw [if_pos z, z, hp]
  · rw [if_neg z, if_neg z]
theorem frz_up {p : Nat} (hp : h p = none) : frzK Q (.ref p) (up h p (.lst xs)) = Q (.rls xs) h := by
  unfold frzK frzV
  dsimp only
  rw [up_same]
  dsimp only
  rw [del_up hp]
theorem frz_n : frzK Q (nv a) h = Q (nv a) h := rfl
theorem frz_z : frzK Q (zv I) h = Q (zv I) h := rfl
theorem frz_s : frzK Q (.str A) h = Q (.str A) h := rfl
theorem frz_b : frzK Q (.bl bb) h = Q (.bl bb) h := rfl
theorem frz_t : frzK Q (.tup xs) h = Q (.tup xs) h := rfl
theorem frz_r : frzK Q (.rls xs) h = Q (.rls xs) h := rfl
theorem frz_0 : frzK Q .non h = Q .non h := rfl
theorem fz_up {p i : Nat} (hp : h p = none) : kFz D i σ (up h p (.lst xs)) (some (.ref p)) = D.nx (sset σ i (some (.rls xs))) h := by
  unfold kFz kFz2 frzV
  dsimp only
  rw [up_same]
  dsimp only
  rw [del_up hp]
theorem fz_r {i : Nat} : kFz D i σ h (some (.rls xs)) = D.nx σ h := rfl
theorem fz_t {i : Nat} : kFz D i σ h (some (.tup xs)) = D.nx σ h := rfl
theorem fz_n {i : Nat} : kFz D i σ h (some (nv a)) = D.nx σ h := rfl
theorem fz_s {i : Nat} : kFz D i σ h (some (.str A)) = D.nx σ h := rfl
theorem fz_none {i : Nat} : kFz D i σ h none = D.nx σ h := rfl
/-- a new list that is known as a value at once -/
theorem new_f {c : Prop} (hc : c) (q : Q (.rls xs) h) : (Res.new c (.lst xs)).wp h (frzK Q) := ⟨hc, fun p hp => by rw [frz_up hp]; exact q⟩
theorem new_r {c : Prop} {o : Obj} (hc : c) (q : ∀ p, h p = none → Q (.ref p) (up h p o)) : (Res.new c o).wp h Q := ⟨hc, q⟩
theorem lst_f {vs : List Val} (hc : vs.length ≤ SZ) (q : Q (.rls vs) h) : kLst (frzK Q) vs h := ⟨hc, fun p hp => by rw [frz_up hp]; exact q⟩
theorem lst_r {vs : List Val} (hc : vs.length ≤ SZ) (q : ∀ p, h p = none → Q (.ref p) (up h p (.lst vs))) : kLst Q vs h := ⟨hc, q⟩
/-! lists at an address that was just laid, or changed -/
variable {p : Nat}
theorem u_app {v : Val} : bmtR .append (.ref p) [v] (up h p (.lst xs)) = .put (xs.length < SZ) p (.lst (xs ++ [v])) .non := h_1_8 up_same
theorem u_kind : kindV "list" (.ref p) (up h p (.lst xs)) = True := h_1_7 up_same
theorem u_len : bifR .len [.ref p] (up h p (.lst xs)) = .ok (nv xs.length) := h_1_4 up_same
theorem u_tru : truB (.ref p) (up h p (.lst xs)) = .ok (!xs.isEmpty) := h_1_1 up_same
theorem u_idx : (idxR (.ref p) (nv a) (up h p (.lst xs))).wp h Q = kVar Q h xs[a]? := by
  unfold nv
  rw [h_1_5 up_same]
  exact q_idx_r (xs := xs)
theorem u_idx' : (idxR (.ref p) (nv a) (up h p (.lst xs))).wp (up h p (.lst xs)) Q = kVar Q (up h p (.lst xs)) xs[a]? := by
  unfold nv
  rw [h_1_5 up_same]
  exact q_idx_r (xs := xs)
theorem u_last : (idxR (.ref p) (zv (-((1 : Nat) : Int))) (up h p (.lst xs))).wp (up h p (.lst xs)) Q = kVar Q (up h p (.lst xs)) xs.getLast? := by
  unfold zv
  rw [h_1_5 up_same]
  exact q_last_r (xs := xs)
theorem u_cat : bopR .add (.ref p) (.rls ys) (up h p (.lst xs)) = .new (xs.length + ys.length ≤ SZ) (.lst (xs ++ ys)) := by
  show (match lstV (.ref p) (up h p (.lst xs)), lstV (.rls ys) (up h p (.lst xs)) with
    | some xs, some ys => Res.new (xs.length + ys.length ≤ SZ) (.lst (xs ++ ys))
    | _, _ => .bad) = _
  unfold lstV
  dsimp only
  rw [up_same]
theorem up_pop {v : Val} (e : xs.getLast? = some v) : bmtR .pop (.ref p) [] (up h p (.lst xs)) = .put True p (.lst xs.dropLast) v := by
  show lstA (.ref p) (up h p (.lst xs)) (fun a xs => (match xs.getLast? with
      | some y => .put True a (.lst xs.dropLast) y
      | none => .bad)) = _
  unfold lstA
  dsimp only
  rw [up_same]
  dsimp only
  rw [e]
theorem u_ext : bmtR .extend (.ref p) [.rls ys] (up h p (.lst xs)) = .put (xs.length + ys.length ≤ SZ) p (.lst (xs ++ ys)) .non := by
  show lstA (.ref p) (up h p (.lst xs)) (fun a xs => (match lstV (.rls ys) (up h p (.lst xs)) with
      | some ys => .put (xs.length + ys.length ≤ SZ) a (.lst (xs ++ ys)) .non
      | none => .bad)) = _
  unfold lstA lstV
  dsimp only
  rw [up_same]
theorem u_src : srcOf (.ref p) (up h p (.lst xs)) = .ok True xs fun h' => h' p = some (.lst xs) := h_1_2 up_same
/-! texts -/
theorem s_kind : kindV "str" (.str A) h = True := by simp [kindV]
theorem s_join {zs : List (List Nat)} : bmtR .join (.str A) [.rls (zs.map .str)] h = .if_ ((zs.map List.length).sum + zs.length * A.length ≤ SZ) (.str (joinC A zs)) := by
  have : ∀ zs : List (List Nat), strsOf (zs.map .str) = some zs := fun zs => by
    induction zs with
    | nil => rfl
    | cons z zs ih => rw [List.map_cons, strsOf, ih]; rfl
  show (match itemsOf (.rls (zs.map .str)) h with
      | some xs => (match strsOf xs with
        | some zs => Res.if_ ((zs.map List.length).sum + zs.length * A.length ≤ SZ) (.str (joinC A zs))
        | none => .bad)
      | none => .bad) = _
  unfold itemsOf
  dsimp only
  rw [this]
theorem s_split : bmtR .split (.str A) [.str [c]] h = .new (A.length + 2 ≤ SZ ∧ c < 256) (.lst ((splitC c A).map .str)) := rfl
theorem s_starts : bmtR .startswith (.str A) [.str B] h = .ok (.bl (B.isPrefixOf A)) := rfl
theorem s_bits_n : bmtR .bitlen (nv a) [] h = .ok (nv (PySem.Builtin.Int.intBits (a : Int))) := rfl
theorem s_kindI : kindV "int" (nv a) h = True := by simp [kindV, nv]
theorem boolsR {bs : List Bool} : lstV (.rls (bs.map .bl)) h = some (bs.map .bl) := rfl
theorem q_all {bs : List Bool} : bifR .all [.rls (bs.map .bl)] h = .ok (.bl (bs.all id)) := by
  show (match lstV (.rls (bs.map .bl)) h with
      | some xs => (match boolsOf xs with
        | some bs => Res.ok (.bl (bs.all id))
        | none => .bad)
      | none => .bad) = _
  unfold lstV
  dsimp only
  rw [boolsOf_map]
theorem q_any {bs : List Bool} : bifR .any [.rls (bs.map .bl)] h = .ok (.bl (bs.any id)) := by
  show (match lstV (.rls (bs.map .bl)) h with
      | some xs => (match boolsOf xs with
        | some bs => Res.ok (.bl (bs.any id))
        | none => .bad)
      | none => .bad) = _
  unfold lstV
  dsimp only
  rw [boolsOf_map]
/-! isinstance -/
variable {t : Tabl}
theorem y_1 : isiR isiBlt (nv a) h ["bool"] = .ok (.bl false) := rfl
theorem y_2 : isiR isiBlt (nv a) h ["int"] = .ok (.bl true) := rfl
theorem y_3 : isiR isiBlt (nv a) h ["str"] = .ok (.bl false) := rfl
theorem y_4 : isiR isiBlt (nv a) h ["tuple"] = .ok (.bl false) := rfl
theorem y_5 : isiR isiBlt (nv a) h ["list"] = .ok (.bl false) := rfl
theorem y_6 : isiR isiBlt (nv a) h ["dict"] = .ok (.bl false) := rfl
theorem y_7 : isiR isiBlt (zv I) h ["bool"] = .ok (.bl false) := rfl
theorem y_8 : isiR isiBlt (zv I) h ["int"] = .ok (.bl true) := rfl
theorem y_9 : isiR isiBlt (zv I) h ["str"] = .ok (.bl false) := rfl
theorem y_10 : isiR isiBlt (zv I) h ["tuple"] = .ok (.bl false) := rfl
theorem y_11 : isiR isiBlt (zv I) h ["list"] = .ok (.bl false) := rfl
/-! branches -/
variable {pp : Prop} [Decidable pp] {sa sb : Ss} {ea eb : E} {es : Es} {x : Val}
theorem if_not : kIf Γ sa sb σ D (!bb) h = kIf Γ sb sa σ D bb h := by cases bb <;> rfl
theorem ife_not : kIfe Γ ea eb σ Q X (!bb) h = kIfe Γ eb ea σ Q X bb h := by cases bb <;> rfl
theorem if_dec (p1 : pp → kIf Γ sa sb σ D true h) (p2 : ¬pp → kIf Γ sa sb σ D false h) : kIf Γ sa sb σ D (decide pp) h := by
  by_cases z : pp
  · rw [decide_eq_true z]; exact p1 z
  · rw [decide_eq_false z]; exact p2 z
theorem if_bool (p1 : bb = true → kIf Γ sa sb σ D true h) (p2 : bb = false → kIf Γ sa sb σ D false h) : kIf Γ sa sb σ D bb h := by
  cases bb
  · exact p2 rfl
  · exact p1 rfl
theorem ife_dec (p1 : pp → kIfe Γ ea eb σ Q X true h) (p2 : ¬pp → kIfe Γ ea eb σ Q X false h) : kIfe Γ ea eb σ Q X (decide pp) h := by
  by_cases z : pp
  · rw [decide_eq_true z]; exact p1 z
  · rw [decide_eq_false z]; exact p2 z
theorem lg_and {o : Val} : kLgB Γ true es σ Q X o bb h = (if bb = true then wpL Γ true es σ h Q X else Q o h) := by cases bb <;> rfl
theorem lg_or {o : Val} : kLgB Γ false es σ Q X o bb h = (if bb = false then wpL Γ false es σ h Q X else Q o h) := by cases bb <;> rfl
theorem lg_dec {o : Bool} (p1 : bb = true → kLgB Γ o es σ Q X x true h) (p2 : bb = false → kLgB Γ o es σ Q X x false h) : kLgB Γ o es σ Q X x bb h := by
  cases bb
  · exact p2 rfl
  · exact p1 rfl
theorem lgd {o : Bool} (p1 : pp → kLgB Γ o es σ Q X (.bl true) true h) (p2 : ¬pp → kLgB Γ o es σ Q X (.bl false) false h) : kLgB Γ o es σ Q X (.bl (decide pp)) (decide pp) h := by
  by_cases z : pp
  · rw [decide_eq_true z]; exact p1 z
  · rw [decide_eq_false z]; exact p2 z
theorem lgb {o : Bool} (p1 : bb = true → kLgB Γ o es σ Q X (.bl true) true h) (p2 : bb = false → kLgB Γ o es σ Q X (.bl false) false h) : kLgB Γ o es σ Q X (.bl bb) bb h := by
  cases bb
  · exact p2 rfl
  · exact p1 rfl
theorem chn_dec {q : Cop} (p1 : pp → kChnB Γ q x ea σ Q X true h) (p2 : ¬pp → kChnB Γ q x ea σ Q X false h) : kChnB Γ q x ea σ Q X (decide pp) h := by
  by_cases z : pp
  · rw [decide_eq_true z]; exact p1 z
  · rw [decide_eq_false z]; exact p2 z
variable {K nx : VS → VH → Prop} {k : Option Val → VH → Prop}
theorem wh_not : kWh Γ sa D K nx σ (!bb) h = (if bb = true then nx σ h else wpSs Γ sa σ h (D.into K)) := by cases bb <;> rfl
theorem wh_dec (p1 : pp → kWh Γ sa D K nx σ true h) (p2 : ¬pp → kWh Γ sa D K nx σ false h) : kWh Γ sa D K nx σ (decide pp) h := by
  by_cases z : pp
  · rw [decide_eq_true z]; exact p1 z
  · rw [decide_eq_false z]; exact p2 z
theorem wh_bool (p1 : bb = true → kWh Γ sa D K nx σ true h) (p2 : bb = false → kWh Γ sa D K nx σ false h) : kWh Γ sa D K nx σ bb h := by
  cases bb
  · exact p2 rfl
  · exact p1 rfl
theorem cnd_dec (p1 : pp → kCnd Γ ea σ k true h) (p2 : ¬pp → kCnd Γ ea σ k false h) : kCnd Γ ea σ k (decide pp) h := by
  by_cases z : pp
  · rw [decide_eq_true z]; exact p1 z
  · rw [decide_eq_false z]; exact p2 z
theorem cnd_bool (p1 : bb = true → kCnd Γ ea σ k true h) (p2 : bb = false → kCnd Γ ea σ k false h) : kCnd Γ ea σ k bb h := by
  cases bb
  · exact p2 rfl
  · exact p1 rfl
end
theorem range_split {n i : Nat} {pre post : List Nat} (e : List.range n = pre ++ i :: post) : i < n ∧ pre.length < n := by
  have h1 : i ∈ List.range n := by rw [e]; simp
  have h2 := congrArg List.length e
  simp at h2
  exact ⟨List.mem_range.mp h1, by omega⟩
theorem range_pre {n i : Nat} {pre post : List Nat} (e : List.range n = pre ++ i :: post) : i = pre.length ∧ pre = List.range i := by
  have h1 : (List.range n)[pre.length]? = some i := by rw [e]; simp
  have h2 := (range_split e).2
  rw [List.getElem?_range h2] at h1
  cases h1
  refine ⟨rfl, ?_⟩
  have := congrArg (List.take pre.length) e
  rw [List.take_left, List.take_range, Nat.min_eq_left (by omega)] at this
  exact this.symm
theorem if_join {Γ : Gam} {D : Ds} {sa sb ss : Ss} {σ : VS} {h : VH} {c : Bool} (L : Le Γ Γ) (R : VS → VH → Prop) (h1 : kIf Γ sa sb σ (D.into R) c h) (h2 : ∀ σ h, R σ h → wpSs Γ ss σ h D) : kIf Γ sa sb σ (D.seq Γ ss) c h := by
  have key : ∀ s : Ss, wpSs Γ s σ h (D.into R) → wpSs Γ s σ h (D.seq Γ ss) := fun s z => wpSs_mono L s σ h (D.into R) (D.seq Γ ss) ⟨fun σ h q => h2 σ h q, fun _ _ q => q, fun _ _ _ q => q⟩ z
  cases c
  · exact key sb h1
  · exact key sa h1
/-! side conditions -/
theorem cdivN {b : Nat} (h0 : 0 < b) (h1 : b < 18446744073709551616) : CDiv (b : Int) := cdiv_ok (by omega) (by omega)
theorem cdiv2 {k : Nat} (h1 : k ≤ 8000) : CDiv ((2 ^ k : Nat) : Int) := by
  refine ⟨by have := Nat.two_pow_pos k; omega, ?_⟩
  rw [Int.natAbs_natCast, Nat.log2_two_pow]
  omega
theorem cshlN {a b k : Nat} (z : a < 2 ^ k) (w : k + b ≤ 134217728) : CShl (a : Int) (b : Int) := cshl_ok (k := k) (n := 0) (by rw [Int.natAbs_natCast]; exact z) w
theorem cshl64 {a b : Nat} (z : a < 18446744073709551616) (w : b ≤ 134217000) : CShl (a : Int) (b : Int) := cshlN (k := 64) z (by omega)
theorem cmulN {a b k l : Nat} (z : a < 2 ^ k) (w : b < 2 ^ l) (u : k + l ≤ 134217728) : CMul (a : Int) (b : Int) := L2.mulx_ok (by rw [Int.natAbs_natCast]; exact z) (by rw [Int.natAbs_natCast]; exact w) u
theorem cmul64 {a b : Nat} (z : a < 18446744073709551616) (w : b < 18446744073709551616) : CMul (a : Int) (b : Int) := cmulN (k := 64) (l := 64) z w (by decide)
theorem cmulZ {I J : Int} (z : PySem.Builtin.Int.intBits I ≤ 67108864) (w : PySem.Builtin.Int.intBits J ≤ 67108864) : CMul I J := by unfold CMul; omega
theorem szv : SZ = 16777216 := rfl
/-! comprehensions by typed lists -/
inductive All2 {α β : Type} (R : α → β → Prop) : List α → List β → Prop
  | nil : All2 R [] []
  | cons {a : α} {b : β} {as : List α} {bs : List β} : R a b → All2 R as bs → All2 R (a :: as) (b :: bs)
theorem All2.length {α β : Type} {R : α → β → Prop} : ∀ {as : List α} {bs : List β}, All2 R as bs → as.length = bs.length
  | _, _, .nil => rfl
  | _, _, .cons _ r => by rw [List.length_cons, List.length_cons, r.length]
theorem All2.right {α β : Type} {R : α → β → Prop} {P : β → Prop} (i : ∀ a b, R a b → P b) : ∀ {as : List α} {bs : List β}, All2 R as bs → ∀ b ∈ bs, P b
  | _, _, .nil, b, h => nomatch h
  | _, _, .cons x r, b, h => by
    rcases List.mem_cons.mp h with rfl | h
    · exact i _ _ x
    · exact r.right i b h
section
variable {Γ : Gam} {σ : VS} {h : VH} {Q : KV} {el : E} {t : G} {c : O} {vs : List Nat} {ok : VH → Prop}
/-- a comprehension whose turns come to values, the heap as it was -/
theorem comp_mapR (L : Le Γ Γ) {α : Type} (xs : List α) (f : α → Val) (g : α → Option Val) (hl : xs.length < SZ) (hok : ok = tt)
    (step : ∀ x ∈ xs, ∀ (h' : VH) (k : Option Val → VH → Prop), k (g x) h' → cbody Γ el t c vs σ (f x) h' k) (hf : ∀ p, h p = none → Q (.ref p) (up h p (.lst (xs.filterMap g)))) : kCmpr Γ el t c vs σ Q (xs.map f) ok h := by
  subst hok
  intro D hD
  have hf := hf D hD
  have key : ∀ (r : List α) (acc : List Val), (∀ x ∈ r, x ∈ xs) → acc.length + r.length ≤ xs.length → Q (.ref D) (up h D (.lst (acc ++ r.filterMap g))) → cgo (cbody Γ el t c vs σ) tt D (kFin Q D) (r.map f) (up h D (.lst acc)) := by
    intro r
    induction r with
    | nil =>
      intro acc _ _ hf
      rw [List.filterMap_nil, List.append_nil] at hf
      exact ⟨True.intro, hf⟩
    | cons x r ih =>
      intro acc hx hlen hf
      refine ⟨True.intro, step x (hx x List.mem_cons_self) _ _ ?_⟩
      rw [List.length_cons] at hlen
      cases q : g x with
      | none =>
        rw [List.filterMap_cons_none q] at hf
        exact ih acc (fun y hy => hx y (List.mem_cons_of_mem _ hy)) (by omega) hf
      | some y =>
        rw [List.filterMap_cons_some q] at hf
        refine ⟨acc, up_same, by omega, ?_⟩
        rw [up_up]
        exact ih (acc ++ [y]) (fun y hy => hx y (List.mem_cons_of_mem _ hy)) (by rw [List.length_append, List.length_singleton]; omega) (by rw [List.append_assoc]; exact hf)
  exact key xs [] (fun _ h => h) (by rw [List.length_nil]; omega) hf
theorem comp_map (L : Le Γ Γ) {α : Type} (xs : List α) (f : α → Val) (g : α → Option Val) (hl : xs.length < SZ) (hok : ok = tt)
    (step : ∀ x ∈ xs, ∀ (h' : VH) (k : Option Val → VH → Prop), k (g x) h' → cbody Γ el t c vs σ (f x) h' k) (hf : Q (.rls (xs.filterMap g)) h) : kCmpr Γ el t c vs σ (frzK Q) (xs.map f) ok h :=
  comp_mapR L xs f g hl hok step fun p hp => by rw [frz_up hp]; exact hf
theorem filter_all {α β : Type} (f : α → β) : ∀ xs : List α, xs.filterMap (fun x => some (f x)) = xs.map f
  | [] => rfl
  | x :: r => by rw [List.filterMap_cons, filter_all f r, List.map_cons]
theorem filter_if {α β : Type} (p : α → Bool) (f : α → β) : ∀ xs : List α, xs.filterMap (fun x => if p x = true then some (f x) else none) = (xs.filter p).map f
  | [] => rfl
  | x :: r => by
    by_cases q : p x = true
    · rw [List.filterMap_cons, if_pos q, filter_if p f r, List.filter_cons_of_pos q, List.map_cons]
    · rw [List.filterMap_cons, if_neg q, filter_if p f r, List.filter_cons_of_neg q]
/-- the same, of what a turn comes to only some property being known -/
theorem comp_relR (L : Le Γ Γ) {α β : Type} (xs : List α) (f : α → Val) (eb : β → Val) (R : α → β → Prop) (hl : xs.length < SZ) (hok : ok = tt)
    (step : ∀ x ∈ xs, ∀ (h' : VH) (k : Option Val → VH → Prop), (∀ y, R x y → k (some (eb y)) h') → cbody Γ el t c vs σ (f x) h' k) (hf : ∀ ys : List β, All2 R xs ys → ∀ p, h p = none → Q (.ref p) (up h p (.lst (ys.map eb)))) : kCmpr Γ el t c vs σ Q (xs.map f) ok h := by
  subst hok
  intro D hD
  have key : ∀ (r : List α) (acc : List Val), (∀ x ∈ r, x ∈ xs) → acc.length + r.length ≤ xs.length → (∀ ys : List β, All2 R r ys → Q (.ref D) (up h D (.lst (acc ++ ys.map eb)))) → cgo (cbody Γ el t c vs σ) tt D (kFin Q D) (r.map f) (up h D (.lst acc)) := by
    intro r
    induction r with
    | nil =>
      intro acc _ _ hf
      have hf := hf [] .nil
      rw [List.map_nil, List.append_nil] at hf
      exact ⟨True.intro, hf⟩
    | cons x r ih =>
      intro acc hx hlen hf
      refine ⟨True.intro, step x (hx x List.mem_cons_self) _ _ fun y hy => ?_⟩
      rw [List.length_cons] at hlen
      refine ⟨acc, up_same, by omega, ?_⟩
      rw [up_up]
      exact ih (acc ++ [eb y]) (fun y hy => hx y (List.mem_cons_of_mem _ hy)) (by rw [List.length_append, List.length_singleton]; omega) (fun ys hys => by rw [List.append_assoc]; exact hf (y :: ys) (.cons hy hys))
  exact key xs [] (fun _ h => h) (by rw [List.length_nil]; omega) fun ys hys => hf ys hys D hD
theorem comp_rel (L : Le Γ Γ) {α β : Type} (xs : List α) (f : α → Val) (eb : β → Val) (R : α → β → Prop) (hl : xs.length < SZ) (hok : ok = tt)
    (step : ∀ x ∈ xs, ∀ (h' : VH) (k : Option Val → VH → Prop), (∀ y, R x y → k (some (eb y)) h') → cbody Γ el t c vs σ (f x) h' k) (hf : ∀ ys : List β, All2 R xs ys → Q (.rls (ys.map eb)) h) : kCmpr Γ el t c vs σ (frzK Q) (xs.map f) ok h :=
  comp_relR L xs f eb R hl hok step fun ys hys p hp => by rw [frz_up hp]; exact hf ys hys
end
/-! loops by typed lists -/
section
variable {Γ : Gam} {σ : VS} {h : VH} {D : Ds} {g : G} {body : Ss} {ok : VH → Prop} {nx : VS → VH → Prop}
/-- by what was walked so far -/
theorem loop_pre (L : Le Γ Γ) {α : Type} (xs : List α) (f : α → Val) (I : List α → VS → VH → Prop) (h0 : I [] σ h) (step : ∀ pre x post σ h, xs = pre ++ x :: post → I pre σ h → ok h ∧ lBody Γ g body D (f x) σ h (I (pre ++ [x]))) (done : ∀ σ h, I xs σ h → ok h ∧ nx σ h) :
    fgo (lBody Γ g body D) ok nx (xs.map f) σ h := by
  refine loop_inv L (fun i σ h => i ≤ xs.length ∧ I (xs.take i) σ h) ⟨Nat.zero_le _, by rw [List.take_zero]; exact h0⟩ (fun i σ h hi ⟨_, hI⟩ => ?_) (fun σ h ⟨_, hI⟩ => ?_)
  · rw [List.length_map] at hi
    have e : xs = xs.take i ++ xs[i] :: xs.drop (i + 1) := by rw [List.getElem_cons_drop, List.take_append_drop]
    obtain ⟨h1, h2⟩ := step _ _ _ σ h e hI
    rw [List.getElem_map]
    refine ⟨h1, gset_mono (fun σ' z => wpSs_mono L body σ' h (D.into (I (xs.take i ++ [xs[i]]))) (D.into _) ⟨fun σ2 h2 q => ⟨hi, ?_⟩, fun _ _ q => q, fun _ _ _ q => q⟩ z) h2⟩
    rw [List.take_succ_eq_append_getElem hi]
    exact q
  · rw [List.length_map, List.take_length] at hI
    exact done σ h hI
/-- by members alone: what holds ahead of a turn holds behind it -/
theorem loop_all (L : Le Γ Γ) {α : Type} (xs : List α) (f : α → Val) (I : VS → VH → Prop) (h0 : I σ h) (step : ∀ x ∈ xs, ∀ σ h, I σ h → ok h ∧ lBody Γ g body D (f x) σ h I) (done : ∀ σ h, I σ h → ok h ∧ nx σ h) : fgo (lBody Γ g body D) ok nx (xs.map f) σ h :=
  loop_pre L xs f (fun _ => I) h0 (fun pre x post σ h e hI => step x (by rw [e]; simp) σ h hI) done
end
theorem zip_mem {α : Type} {xs : List α} {p : α × Nat} (h : p ∈ xs.zipIdx) : ∃ hi : p.2 < xs.length, p.1 = xs[p.2] := by
  obtain ⟨_, h2, h3⟩ := List.mem_zipIdx h
  simp only [Nat.zero_add, Nat.sub_zero] at h2 h3
  exact ⟨h2, h3⟩
theorem zip_mem1 {α : Type} {xs : List α} {p : α × Nat} (h : p ∈ xs.zipIdx) : p.1 ∈ xs := by
  obtain ⟨hi, e⟩ := zip_mem h
  rw [e]
  exact List.getElem_mem hi
/-! == of data -/
theorem pvs_map {α : Type} {k : Nat} (f : α → Val) : ∀ (xs : List α), (∀ x ∈ xs, pv k (f x) = true) → pvs (k + 1) (xs.map f) = true
  | [], _ => rfl
  | x :: r, h => by rw [List.map_cons, pvs, h x List.mem_cons_self, pvs_map f r fun y hy => h y (List.mem_cons_of_mem _ hy)]; rfl
theorem pv_n {k a : Nat} : pv k (nv a) = true := by unfold nv; rw [pv]
theorem pv_z {k : Nat} {I : Int} : pv k (zv I) = true := by unfold zv; rw [pv]
theorem pv_s {k : Nat} {A : List Nat} (h : ∀ c ∈ A, c < 1114112) : pv k (.str A) = true := by
  rw [pv, List.all_eq_true]
  intro c hc
  exact decide_eq_true (h c hc)
theorem pv_t {k : Nat} {xs : List Val} (h : pvs k xs = true) : pv k (.tup xs) = true := by rw [pv]; exact h
theorem pv_r {k : Nat} {xs : List Val} (h : pvs k xs = true) : pv k (.rls xs) = true := by rw [pv]; exact h
theorem pvs_0 {k : Nat} : pvs k [] = true := by cases k <;> rfl
theorem pv0 : pvs 0 [] = true := rfl
theorem pvs_c {k : Nat} {x : Val} {xs : List Val} (h : pv k x = true) (r : pvs (k + 1) xs = true) : pvs (k + 1) (x :: xs) = true := by rw [pvs, h, r]; rfl
theorem pvs_nv {k : Nat} (xs : List Nat) : pvs (k + 1) (xs.map nv) = true := pvs_map nv xs fun x _ => pv_n
theorem map_inj {α β : Type} {f : α → β} (hf : ∀ a b, f a = f b → a = b) {xs ys : List α} : xs.map f = ys.map f ↔ xs = ys := List.map_inj_right hf
theorem nvs_inj {xs ys : List Nat} : xs.map nv = ys.map nv ↔ xs = ys := map_inj fun a b e => nv_inj.mp e
theorem dec_iff {p q : Prop} [Decidable p] [Decidable q] (h : p ↔ q) : decide p = decide q := decide_eq_decide.mpr h
section
variable {h : VH} {k l : Nat} {K : Bool → Prop} {xs ys : List Val} {p a : Nat}
theorem eq_r (hx : pvs k xs = true) (hy : pvs l ys = true) (w : K (decide (xs = ys))) (hk : k ≤ 60 := by decide) (hl : l ≤ 60 := by decide) : (cmpR .eq (.rls xs) (.rls ys) h).wp K := eq_lst (.inl rfl) (.inl rfl) hx hy hk hl w
theorem ne_r (hx : pvs k xs = true) (hy : pvs l ys = true) (w : K (!decide (xs = ys))) (hk : k ≤ 60 := by decide) (hl : l ≤ 60 := by decide) : (cmpR .ne (.rls xs) (.rls ys) h).wp K := ne_lst (.inl rfl) (.inl rfl) hx hy hk hl w
theorem eq_u (e : h p = some (.lst xs)) (hx : pvs k xs = true) (hy : pvs l ys = true) (w : K (decide (xs = ys))) (hk : k ≤ 60 := by decide) (hl : l ≤ 60 := by decide) : (cmpR .eq (.ref p) (.rls ys) h).wp K := eq_lst (.of e) (.inl rfl) hx hy hk hl w
theorem ne_u (e : h p = some (.lst xs)) (hx : pvs k xs = true) (hy : pvs l ys = true) (w : K (!decide (xs = ys))) (hk : k ≤ 60 := by decide) (hl : l ≤ 60 := by decide) : (cmpR .ne (.ref p) (.rls ys) h).wp K := ne_lst (.of e) (.inl rfl) hx hy hk hl w
end
/-- == of what stands for data -/
theorem eq_dv {h : VH} {x y x' y' : Val} {k l : Nat} {K : Bool → Prop} (e : cmpR .eq x y h = .ex (eqData x y h)) (dx : DV h x (toD x')) (dy : DV h y (toD y')) (p : pv k x' = true) (q : pv l y' = true) (w : K (decide (x' = y'))) (hk : k ≤ 60 := by decide) (hl : l ≤ 60 := by decide) : (cmpR .eq x y h).wp K := by
  refine eq_data e dx dy (shaped_of p hk) (shaped_of q hl) ?_
  rw [eqv_dec p q]
  exact w
theorem ne_dv {h : VH} {x y x' y' : Val} {k l : Nat} {K : Bool → Prop} (e : cmpR .eq x y h = .ex (eqData x y h)) (dx : DV h x (toD x')) (dy : DV h y (toD y')) (p : pv k x' = true) (q : pv l y' = true) (w : K (!decide (x' = y'))) (hk : k ≤ 60 := by decide) (hl : l ≤ 60 := by decide) : (cmpR .ne x y h).wp K := by
  refine ne_data e dx dy (shaped_of p hk) (shaped_of q hl) ?_
  rw [eqv_dec p q]
  exact w
theorem dv_ref {h : VH} {a : Nat} {xs ys : List Val} (e : h a = some (.lst xs)) (d : DVs h xs (toDs ys)) : DV h (.ref a) (toD (.rls ys)) := by rw [toD]; exact .lst e d
theorem dvs_nil {h : VH} : DVs h [] (toDs []) := by rw [toDs]; exact .nil
theorem dvs_cons {h : VH} {x x' : Val} {xs xs' : List Val} (d : DV h x (toD x')) (r : DVs h xs (toDs xs')) : DVs h (x :: xs) (toDs (x' :: xs')) := by rw [toDs]; exact .cons d r
theorem zip_range {α : Type} (xs : List α) (d : α) : xs.zipIdx = (List.range xs.length).map fun i => (xs.getD i d, i) := by
  refine List.ext_getElem (by simp) fun i h1 h2 => ?_
  simp at h1
  simp [h1]
theorem zip_filter {α : Type} (xs : List α) (d : α) (p : α → Bool) : (xs.zipIdx.filter fun q => p q.1).map (fun q => q.2) = (List.range xs.length).filter fun i => p (xs.getD i d) := by
  rw [zip_range xs d, List.filter_map, List.map_map]
  have : (((fun q : α × Nat => q.2)) ∘ fun i => (xs.getD i d, i)) = id := rfl
  rw [this, List.map_id]
  rfl
theorem getD_get {α : Type} {xs : List α} {i : Nat} (d : α) (h : i < xs.length) : xs.getD i d = xs[i] := by
  rw [List.getD_eq_getElem?_getD, List.getElem?_eq_getElem h]
  rfl
section
variable {h : VH} {Q : KV} {xs ys : List Val} {p a : Nat} {v : Val}
theorem j_idx (e : h p = some (.lst xs)) : (idxR (.ref p) (nv a) h).wp h Q = kVar Q h xs[a]? := by
  unfold nv
  rw [h_1_5 e]
  exact q_idx_r (xs := xs)
theorem j_last (e : h p = some (.lst xs)) : (idxR (.ref p) (zv (-((1 : Nat) : Int))) h).wp h Q = kVar Q h xs.getLast? := by
  unfold zv
  rw [h_1_5 e]
  exact q_last_r (xs := xs)
theorem j_len (e : h p = some (.lst xs)) : bifR .len [.ref p] h = .ok (nv xs.length) := h_1_4 e
theorem j_cat (e : h p = some (.lst xs)) : bopR .add (.ref p) (.rls ys) h = .new (xs.length + ys.length ≤ SZ) (.lst (xs ++ ys)) := by
  show (match lstV (.ref p) h, lstV (.rls ys) h with
    | some xs, some ys => Res.new (xs.length + ys.length ≤ SZ) (.lst (xs ++ ys))
    | _, _ => .bad) = _
  unfold lstV
  dsimp only
  rw [e]
end
/-! constants, instances -/
section
variable {Γ : Gam} {σ : VS} {h : VH} {Q : KV} {X : KX} {P : Prog} {x c m l f : String} {v w : Val} {fs : List (String × Val)} {p a b : Nat} {es : Es} {cl : String → List Val → VH → KV → KX → Prop}
theorem j_isi {tb : List (String × String × Bool)} {bb : Bool} (e : h p = some (.ins c fs)) (q : isiX tb c [m] = some bb) : isiR (isiX tb) (.ref p) h [m] = .ok (.bl bb) := by
  unfold isiR tyN
  dsimp only
  rw [e]
  dsimp only
  rw [q]
theorem u_isi {tb : List (String × String × Bool)} {bb : Bool} (q : isiX tb c [m] = some bb) : isiR (isiX tb) (.ref p) (up h p (.ins c fs)) [m] = .ok (.bl bb) := j_isi up_same q
theorem j_con (e : P.con x = some v) : kVar Q h (P.con x) = Q v h := by rw [e]; rfl
theorem fl_eq : flook f ((f, v) :: fs) = some v := if_pos rfl
theorem fl_ne {g : String} (e : f ≠ g) : flook f ((g, v) :: fs) = flook f fs := if_neg e
theorem fl_nil : flook f [] = none := rfl
theorem fp_eq : fput f w ((f, v) :: fs) = (f, w) :: fs := if_pos rfl
theorem fp_ne {g : String} (e : f ≠ g) : fput f w ((g, v) :: fs) = (g, v) :: fput f w fs := if_neg e
theorem fp_nil : fput f w [] = [(f, w)] := rfl
/-- the value of a field -/
def kFl (Q : KV) (h : VH) : Option Val → Prop
  | some v => Q v h
  | none => False
theorem kFl_some : kFl Q h (some v) = Q v h := rfl
theorem j_fld (e : h p = some (.ins c fs)) : (fldR (.ref p) f h).wp h Q = kFl Q h (flook f fs) := by
  unfold fldR
  dsimp only
  rw [e]
  dsimp only
  cases flook f fs <;> rfl
theorem u_fld : (fldR (.ref p) f (up h p (.ins c fs))).wp (up h p (.ins c fs)) Q = kFl Q (up h p (.ins c fs)) (flook f fs) := j_fld up_same
/-- the class of a method's object -/
def mthD (c : String) : Option Val → Option String
  | some _ => none
  | none => some c
theorem mthD_none : mthD c none = some c := rfl
theorem j_mth (e : h p = some (.ins c fs)) : mthC (.ref p) m h = mthD c (flook m fs) := by
  unfold mthC
  dsimp only
  rw [e]
  dsimp only
  cases flook m fs <;> rfl
theorem u_mth : mthC (.ref p) m (up h p (.ins c fs)) = mthD c (flook m fs) := j_mth up_same
theorem j_mtl (e : P.mth c m = some l) : kMth3 Γ es σ Q X v h (P.mth c m) = wpEs Γ es σ h (kMth4 Γ l v Q X) X := by rw [e]; rfl
theorem u_sfl : sflR P.fld (.ref p) f v (up h p (.ins c fs)) = .put (fs.length < 1000 ∧ P.fld c f = true) p (.ins c (fput f v fs)) .non := by
  unfold sflR
  dsimp only
  rw [up_same]
theorem j_sfl (e : h p = some (.ins c fs)) : sflR P.fld (.ref p) f v h = .put (fs.length < 1000 ∧ P.fld c f = true) p (.ins c (fput f v fs)) .non := by
  unfold sflR
  dsimp only
  rw [e]
theorem Sem_mk {d : Nat} {vs : List Val} {i : String} (hP : P.fn x = some (.mk c i)) (w : ∀ p, h p = none → Sem P d i (.ref p :: vs) (up h p (.ins c [])) (fun v h' => v = .non ∧ Q (.ref p) h') X) : Sem P (d + 1) x vs h Q X := by
  rw [Sem_mkE hP]
  exact w
theorem dec_sing {i : Decidable ([a] = [b])} : @decide ([a] = [b]) i = decide (a = b) := by
  by_cases z : a = b
  · subst z; simp
  · rw [decide_eq_false z]; simp [z]
theorem dec_cn {xs : List Nat} {i : Decidable (a :: xs = [])} : @decide (a :: xs = []) i = false := by simp
theorem dec_nc {xs : List Nat} {i : Decidable ([] = a :: xs)} : @decide ([] = a :: xs) i = false := by simp
end
section
variable {h : VH} {xs : List Val} {x : Val} {p : Nat}
theorem u_pop2 : bmtR .pop (.ref p) [] (up h p (.lst (xs ++ [x]))) = .put True p (.lst xs) x := by
  rw [up_pop (List.getLast?_concat), List.dropLast_concat]
theorem j_cat2 {ys : List Val} (e : h p = some (.lst ys)) : bopR .add (.rls xs) (.ref p) h = .new (xs.length + ys.length ≤ SZ) (.lst (xs ++ ys)) := by
  show (match lstV (.rls xs) h, lstV (.ref p) h with
    | some xs, some ys => Res.new (xs.length + ys.length ≤ SZ) (.lst (xs ++ ys))
    | _, _ => .bad) = _
  unfold lstV
  dsimp only
  rw [e]
theorem j_ext2 {q : Nat} {ys : List Val} (e : h p = some (.lst xs)) (e2 : h q = some (.lst ys)) : bmtR .extend (.ref p) [.ref q] h = .put (xs.length + ys.length ≤ SZ) p (.lst (xs ++ ys)) .non := by
  show lstA (.ref p) h (fun a xs => (match lstV (.ref q) h with
      | some ys => .put (xs.length + ys.length ≤ SZ) a (.lst (xs ++ ys)) .non
      | none => .bad)) = _
  unfold lstA lstV
  dsimp only
  rw [e, e2]
theorem j_pop2 (e : h p = some (.lst (xs ++ [x]))) : bmtR .pop (.ref p) [] h = .put True p (.lst xs) x := by
  show lstA (.ref p) h (fun a xs => (match xs.getLast? with
      | some y => .put True a (.lst xs.dropLast) y
      | none => .bad)) = _
  unfold lstA
  dsimp only
  rw [e]
  dsimp only
  rw [List.getLast?_concat, List.dropLast_concat]
theorem j_ext {ys : List Val} (e : h p = some (.lst xs)) : bmtR .extend (.ref p) [.rls ys] h = .put (xs.length + ys.length ≤ SZ) p (.lst (xs ++ ys)) .non := by
  show lstA (.ref p) h (fun a xs => (match lstV (.rls ys) h with
      | some ys => .put (xs.length + ys.length ≤ SZ) a (.lst (xs ++ ys)) .non
      | none => .bad)) = _
  unfold lstA lstV
  dsimp only
  rw [e]
theorem frz_at {Q : KV} (e : h p = some (.lst xs)) : frzK Q (.ref p) h = Q (.rls xs) (del h p) := by
  unfold frzK frzV
  dsimp only
  rw [e]
theorem fz_at {D : Ds} {σ : VS} {i : Nat} (e : h p = some (.lst xs)) : kFz D i σ h (some (.ref p)) = D.nx (sset σ i (some (.rls xs))) (del h p) := by
  unfold kFz kFz2 frzV
  dsimp only
  rw [e]
theorem Ext.del {h h' : VH} {p : Nat} (a : Ext h h') (hp : h p = none) : Ext h (MP.del h' p) := fun b o e => by
  have n : b ≠ p := fun q => by rw [q, hp] at e; cases e
  show (if b = p then none else h' b) = _
  rw [if_neg n]
  exact a b o e
theorem Ext.free {h h' : VH} {p : Nat} (a : Ext h h') (hp : h' p = none) : h p = none := by
  cases q : h p with
  | none => rfl
  | some o => rw [a p o q] at hp; cases hp
theorem Ext.ne {h h' : VH} {p q : Nat} {o : Obj} (hp : h p = none) (hq : h q = some o) : p ≠ q := fun e => by rw [e, hq] at hp; cases hp
end
section
variable {Γ : Gam} {el : E} {t : G} {c : O} {vs : List Nat} {σ : VS} {h : VH} {Q : KV} {ok : VH → Prop}
/-- a comprehension known as a value, the heap growing -/
theorem comp_ext (L : Le Γ Γ) {α β : Type} (xs : List α) (f : α → Val) (eb : β → Val) (R : α → β → Prop) (hl : xs.length < SZ) (hok : ok = tt)
    (step : ∀ x ∈ xs, ∀ (h' : VH) (k : Option Val → VH → Prop), Ext h h' → (∀ y h'', R x y → Ext h' h'' → k (some (eb y)) h'') → cbody Γ el t c vs σ (f x) h' k) (hf : ∀ (ys : List β) (h' : VH), All2 R xs ys → Ext h h' → Q (.rls (ys.map eb)) h') : kCmpr Γ el t c vs σ (frzK Q) (xs.map f) ok h := by
  subst hok
  intro D hD
  have key : ∀ (r : List α) (acc : List Val) (h1 : VH), Ext h h1 → h1 D = some (.lst acc) → (∀ x ∈ r, x ∈ xs) → acc.length + r.length ≤ xs.length → (∀ (ys : List β) (h' : VH), All2 R r ys → Ext h h' → Q (.rls (acc ++ ys.map eb)) h') → cgo (cbody Γ el t c vs σ) tt D (kFin (frzK Q) D) (r.map f) h1 := by
    intro r
    induction r with
    | nil =>
      intro acc h1 x1 e1 _ _ hf
      have hf := hf [] (MP.del h1 D) .nil (x1.del hD)
      rw [List.map_nil, List.append_nil] at hf
      refine ⟨True.intro, ?_⟩
      show frzK Q (.ref D) h1
      rw [frz_at e1]
      exact hf
    | cons x r ih =>
      intro acc h1 x1 e1 hx hlen hf
      refine ⟨True.intro, step x (hx x List.mem_cons_self) _ _ x1 fun y h'' hy x2 => ?_⟩
      rw [List.length_cons] at hlen
      refine ⟨acc, x2 _ _ e1, by omega, ?_⟩
      exact ih (acc ++ [eb y]) _ ((x1.trans x2).up2 hD) up_same (fun y hy => hx y (List.mem_cons_of_mem _ hy)) (by rw [List.length_append, List.length_singleton]; omega) (fun ys h' hys x3 => by rw [List.append_assoc]; exact hf (y :: ys) h' (.cons hy hys) x3)
  exact key xs [] _ (Ext.up hD) up_same (fun _ h => h) (by rw [List.length_nil]; omega) fun ys h' hys x => hf ys h' hys x
end
/-! ### exceptions -/
section
variable {P : Prog} {h : VH} {Q : KV} {k : Exc → VH → Prop} {c n f : String} {ns : List String} {vl : List Val} {b : Bool} {Γ : Gam} {i : Nat} {ss : Ss} {hs : Hs} {D : Ds} {σ : VS} {d : Nat} {fs : List (String × Val)} {od : Option Nat}
theorem j_rai0 (z : P.exc c = some []) : raiC true (P.exc c) = True := by rw [z]; exact eq_true rfl
theorem j_rai0k (z : P.exc c = some []) : raiK (P.exc c) c vl h k = k ⟨c, none⟩ h := by rw [z]; rfl
theorem j_rai1 (z : P.exc c = some [n]) : raiC b (P.exc c) = True := by rw [z]; exact eq_true (Nat.zero_le _)
theorem j_rai2 {n2 : String} (z : P.exc c = some [n, n2]) : raiC b (P.exc c) = True := by rw [z]; exact eq_true (by show 1 ≤ 5; decide)
theorem j_rai1k {v : Val} (z : P.exc c = some [n]) : raiK (P.exc c) c [v] h k = ∀ d, h d = none → k ⟨c, some d⟩ (up h d (.xd [(n, v)])) := by
  rw [z]
  exact propext ⟨fun ⟨_, q⟩ => q, fun q => ⟨rfl, q⟩⟩
theorem j_rai2k {v v2 : Val} {n2 : String} (z : P.exc c = some [n, n2]) : raiK (P.exc c) c [v, v2] h k = ∀ d, h d = none → k ⟨c, some d⟩ (up h d (.xd [(n2, v2), (n, v)])) := by
  rw [z]
  exact propext ⟨fun ⟨_, q⟩ => q, fun q => ⟨rfl, q⟩⟩
theorem j_hsT {cc : String} (z : P.sub cc c = some true) : kHs Γ i ss hs ⟨cc, od⟩ σ h D (P.sub cc c) = ∀ a, h a = none → wpSs (Γ.at (i, a, ⟨cc, od⟩)) ss (sset σ i (some (.ref a))) h (D.su i) := by rw [z]; rfl
theorem j_hsF {cc : String} (z : P.sub cc c = some false) : kHs Γ i ss hs ⟨cc, od⟩ σ h D (P.sub cc c) = wpHs Γ hs ⟨cc, od⟩ σ h D := by rw [z]; rfl
theorem j_xi0 (z : P.sub c n = some b) : (xiR P.sub ⟨c, none⟩ [n] h).wp h Q = Q (.bl b) h := by
  unfold xiR
  dsimp only
  rw [z]
  exact propext ⟨fun q => q.2, fun q => ⟨fun d hd => (by cases hd), q⟩⟩
theorem j_xi1 (z : P.sub c n = some b) (w : h d = some (.xd fs)) : (xiR P.sub ⟨c, some d⟩ [n] h).wp h Q = Q (.bl b) h := by
  unfold xiR
  dsimp only
  rw [z]
  exact propext ⟨fun q => q.2, fun q => ⟨fun d' hd => (by cases hd; exact ⟨fs, w⟩), q⟩⟩
theorem j_xiT {n2 : String} {cs : List String} (z : xiA P.sub c (n :: n2 :: cs) = some b) (w : h d = some (.xd fs)) : (xiR P.sub ⟨c, some d⟩ (n :: n2 :: cs) h).wp h Q = Q (.bl b) h := by
  unfold xiR
  dsimp only
  rw [z]
  exact propext ⟨fun q => q.2, fun q => ⟨fun d' hd => (by cases hd; exact ⟨fs, w⟩), q⟩⟩
theorem xiA_f {r : List String} (z : P.sub c n = some false) : xiA P.sub c (n :: r) = xiA P.sub c r := by rw [xiA, z]
theorem xiA_t {r : List String} (z : P.sub c n = some true) : xiA P.sub c (n :: r) = some true := by rw [xiA, z]
theorem j_xf (z : P.exc c = some ns) (w : h d = some (.xd fs)) (m : f ∈ ns) : (xfR P.exc ⟨c, some d⟩ f h).wp h Q = kVar Q h (flook f fs) := by
  unfold xfR
  dsimp only
  rw [w]
  dsimp only
  cases flook f fs with
  | none => rfl
  | some v => exact propext ⟨fun q => q.2, fun q => ⟨⟨ns, z, m⟩, q⟩⟩
end
/-! ### tuples put together, the last item put anew, texts in tuples and lists -/
section
variable {h : VH} {Q : KV} {xs ys : List Val} {x v : Val} {p : Nat} {a : List Nat} {K : Bool → Prop}
theorem q_cat_t : bopR .add (.tup xs) (.tup ys) h = .if_ (xs.length + ys.length ≤ SZ) (.tup (xs ++ ys)) := rfl
theorem set_last : (xs ++ [x]).set xs.length v = xs ++ [v] := by
  induction xs with
  | nil => rfl
  | cons y r ih => rw [List.length_cons, List.cons_append, List.set_cons_succ, ih]; rfl
theorem j_setl (e : h p = some (.lst (xs ++ [x]))) : setR (.ref p) (zv (-((1 : Nat) : Int))) v h = .put True p (.lst (xs ++ [v])) .non := by
  have i : L2.ixN (xs ++ [x]).length (-((1 : Nat) : Int)) = some xs.length := by
    unfold L2.ixN
    rw [List.length_append, List.length_singleton, if_neg (by omega), if_pos (by omega)]
    congr 1
    omega
  unfold setR zv
  dsimp only
  rw [e]
  dsimp only
  rw [i]
  dsimp only
  rw [set_last]
theorem u_setl : setR (.ref p) (zv (-((1 : Nat) : Int))) v (up h p (.lst (xs ++ [x]))) = .put True p (.lst (xs ++ [v])) .non := j_setl up_same
theorem cut_last : cut (xs ++ [x]) (some (-((1 : Nat) : Int))) none = [x] := by
  rw [cut_tail, if_neg (by decide), List.length_append, List.length_singleton, Nat.add_sub_cancel, List.drop_left]
theorem cut_lastN : cut ([] : List Val) (some (-((1 : Nat) : Int))) none = [] := rfl
/-- text characters -/
def tOk (a : List Nat) : Prop := ∀ c ∈ a, c < 1114112
theorem pvs_strs {k : Nat} {zs : List (List Nat)} (hz : ∀ z ∈ zs, tOk z) : pvs (k + 1) (zs.map .str) = true := pvs_map _ zs fun z h => pv_s (hz z h)
theorem str_mem {zs : List (List Nat)} : (Val.str a ∈ zs.map Val.str) = (a ∈ zs) := propext ⟨fun h => by obtain ⟨z, hz, e⟩ := List.mem_map.mp h; cases e; exact hz, fun h => List.mem_map.mpr ⟨a, h, rfl⟩⟩
theorem mem_data {zs : List (List Nat)} (ha : tOk a) (hz : ∀ z ∈ zs, tOk z) : memData (.str a) (zs.map .str) h (decide (a ∈ zs)) := by
  refine ⟨toD (.str a), toDs (zs.map .str), dv_toD 0 _ (pv_s ha), dvs_toD 1 _ (pvs_strs hz), shaped_of (k := 0) (pv_s ha) (by decide), (toDs_lay 1 _ (pvs_strs hz)).1, ?_⟩
  rw [any_mem (k := 0) (l := 1) (pv_s ha) (pvs_strs hz)]
  exact dec_iff (by rw [str_mem])
theorem in_t {zs : List (List Nat)} (ha : tOk a) (hz : ∀ z ∈ zs, tOk z) (w : K (decide (a ∈ zs))) : (cmpR .mem (.str a) (.tup (zs.map .str)) h).wp K := ⟨_, mem_data ha hz, w⟩
theorem in_r {zs : List (List Nat)} (ha : tOk a) (hz : ∀ z ∈ zs, tOk z) (w : K (decide (a ∈ zs))) : (cmpR .mem (.str a) (.rls (zs.map .str)) h).wp K := ⟨_, mem_data ha hz, w⟩
theorem in_u {zs : List (List Nat)} (e : h p = some (.lst (zs.map .str))) (ha : tOk a) (hz : ∀ z ∈ zs, tOk z) (w : K (decide (a ∈ zs))) : (cmpR .mem (.str a) (.ref p) h).wp K := by
  have : cmpR .mem (.str a) (.ref p) h = .ex (memData (.str a) (zs.map .str) h) := by
    show inR (.str a) (.ref p) h = _
    unfold inR
    dsimp only
    rw [e]
  rw [this]
  exact ⟨_, mem_data ha hz, w⟩
theorem nin_u {zs : List (List Nat)} (e : h p = some (.lst (zs.map .str))) (ha : tOk a) (hz : ∀ z ∈ zs, tOk z) (w : K (!decide (a ∈ zs))) : (cmpR .nmem (.str a) (.ref p) h).wp K := by
  have : cmpR .nmem (.str a) (.ref p) h = .ex (fun t => memData (.str a) (zs.map .str) h (!t)) := by
    show (inR (.str a) (.ref p) h).not = _
    unfold inR
    dsimp only
    rw [e]
    rfl
  rw [this]
  exact ⟨_, by show memData _ _ _ (!(!decide (a ∈ zs))); rw [Bool.not_not]; exact mem_data ha hz, w⟩
theorem nin_r {zs : List (List Nat)} (ha : tOk a) (hz : ∀ z ∈ zs, tOk z) (w : K (!decide (a ∈ zs))) : (cmpR .nmem (.str a) (.rls (zs.map .str)) h).wp K := ⟨_, by show memData _ _ _ (!(!decide (a ∈ zs))); rw [Bool.not_not]; exact mem_data ha hz, w⟩
end
/-! ### values that stand for data, the heap's lists among them, of a set of addresses -/
mutual
inductive VAt (C : Nat → Prop) (h : VH) : Val → Val → Prop
  | pure {k : Nat} {v : Val} : pv k v = true → VAt C h v v
  | tup {xs ys : List Val} : VAts C h xs ys → VAt C h (.tup xs) (.tup ys)
  | ref {a : Nat} {xs ys : List Val} : C a → h a = some (.lst xs) → VAts C h xs ys → VAt C h (.ref a) (.rls ys)
inductive VAts (C : Nat → Prop) (h : VH) : List Val → List Val → Prop
  | nil : VAts C h [] []
  | cons {x y : Val} {xs ys : List Val} : VAt C h x y → VAts C h xs ys → VAts C h (x :: xs) (y :: ys)
end
mutual
theorem VAt.mono {C C' : Nat → Prop} {h h' : VH} (i : ∀ a o, C a → h a = some o → C' a ∧ h' a = some o) : ∀ {x y : Val}, VAt C h x y → VAt C' h' x y
  | _, _, .pure p => .pure p
  | _, _, .tup r => .tup (r.mono i)
  | _, _, .ref c e r => .ref (i _ _ c e).1 (i _ _ c e).2 (r.mono i)
theorem VAts.mono {C C' : Nat → Prop} {h h' : VH} (i : ∀ a o, C a → h a = some o → C' a ∧ h' a = some o) : ∀ {x y : List Val}, VAts C h x y → VAts C' h' x y
  | _, _, .nil => .nil
  | _, _, .cons a r => .cons (a.mono i) (r.mono i)
end
mutual
theorem VAt.dv {C : Nat → Prop} {h : VH} : ∀ {x y : Val}, VAt C h x y → DV h x (toD y)
  | _, _, .pure p => dv_toD _ _ p
  | _, _, .tup r => by rw [toD]; exact .tup r.dv
  | _, _, .ref c e r => by rw [toD]; exact .lst e r.dv
theorem VAts.dv {C : Nat → Prop} {h : VH} : ∀ {x y : List Val}, VAts C h x y → DVs h x (toDs y)
  | _, _, .nil => by rw [toDs]; exact .nil
  | _, _, .cons a r => by rw [toDs]; exact .cons a.dv r.dv
end
theorem VAts.len {C : Nat → Prop} {h : VH} : ∀ {x y : List Val}, VAts C h x y → x.length = y.length
  | _, _, .nil => rfl
  | _, _, .cons _ r => by rw [List.length_cons, List.length_cons, r.len]
theorem VAts.app {C : Nat → Prop} {h : VH} : ∀ {x y x' y' : List Val}, VAts C h x y → VAts C h x' y' → VAts C h (x ++ x') (y ++ y')
  | _, _, _, _, .nil, b => b
  | _, _, _, _, .cons a r, b => .cons a (r.app b)
theorem VAts.pures {C : Nat → Prop} {h : VH} {k : Nat} : ∀ {xs : List Val}, pvs (k + 1) xs = true → VAts C h xs xs
  | [], _ => .nil
  | x :: xs, p => by
    rw [pvs, Bool.and_eq_true] at p
    exact .cons (.pure p.1) (VAts.pures p.2)
/-! ### objects owned, at unlike addresses -/
def Own (h : VH) : List (Nat × Obj) → Prop
  | [] => True
  | z :: H => h z.1 = some z.2 ∧ (∀ w ∈ H, w.1 ≠ z.1) ∧ Own h H
theorem Own.get {h : VH} : ∀ {H : List (Nat × Obj)}, Own h H → ∀ z ∈ H, h z.1 = some z.2
  | _ :: _, o, z, m => by
    rcases List.mem_cons.mp m with rfl | m
    · exact o.1
    · exact o.2.2.get z m
theorem Own.ext {h h' : VH} : ∀ {H : List (Nat × Obj)}, (∀ z ∈ H, h' z.1 = h z.1) → Own h H → Own h' H
  | [], _, _ => True.intro
  | z :: H, x, o => ⟨by rw [x z List.mem_cons_self]; exact o.1, o.2.1, Own.ext (fun w m => x w (List.mem_cons_of_mem _ m)) o.2.2⟩
theorem Own.grow {h h' : VH} {H : List (Nat × Obj)} (x : Ext h h') (o : Own h H) : Own h' H := Own.ext (fun z m => by rw [o.get z m, x _ _ (o.get z m)]) o
theorem Own.new {h : VH} {H : List (Nat × Obj)} {p : Nat} {b : Obj} (hp : h p = none) (o : Own h H) : Own (up h p b) ((p, b) :: H) :=
  ⟨up_same, fun w m e => (by have := o.get w m; rw [e, hp] at this; cases this), Own.grow (Ext.up hp) o⟩
theorem Own.put {h : VH} {H : List (Nat × Obj)} {p : Nat} {b b' : Obj} (o : Own h ((p, b) :: H)) : Own (up h p b') ((p, b') :: H) :=
  ⟨up_same, o.2.1, Own.ext (fun z m => up_ne (o.2.1 z m)) o.2.2⟩
theorem Own.perm {h : VH} {H H' : List (Nat × Obj)} (m : H.Perm H') (o : Own h H) : Own h H' := by
  induction m with
  | nil => exact o
  | cons x q ih => exact ⟨o.1, fun w hw => o.2.1 w (q.mem_iff.mpr hw), ih o.2.2⟩
  | swap x y l => exact ⟨o.2.2.1, fun w hw => by
      rcases List.mem_cons.mp hw with rfl | hw
      · exact fun e => o.2.1 x List.mem_cons_self e.symm
      · exact o.2.2.2.1 w hw, o.1, fun w hw => o.2.1 w (List.mem_cons_of_mem _ hw), o.2.2.2.2⟩
  | trans _ _ i1 i2 => exact i2 (i1 o)
theorem Own.tail {h : VH} {H : List (Nat × Obj)} {z : Nat × Obj} (o : Own h (z :: H)) : Own h H := o.2.2
theorem Own.at {h : VH} {H1 H2 : List (Nat × Obj)} {p : Nat} {b b' : Obj} (o : Own h (H1 ++ (p, b) :: H2)) : Own (up h p b') (H1 ++ (p, b') :: H2) :=
  Own.perm List.perm_middle.symm (Own.put (Own.perm List.perm_middle o))
/-! ### dicts -/
section
variable {Γ : Gam} {h : VH} {Q : KV} {K : Bool → Prop} {p : Nat} {t : Bool} {kvs more : List (Val × Val)} {k v d : Val} {r : List Val}
theorem pairs_nil : pairsOf [] = some [] := rfl
theorem pairs_cons (e : pairsOf r = some more) : pairsOf (k :: v :: r) = some ((k, v) :: more) := by rw [pairsOf, e]; rfl
theorem dct_up (h1 : (kvs.all fun q => leafK q.1) = true) (h2 : kvs.length ≤ 15) (q : Q (.ref p) (up h p (.dic false (dputs [] kvs)))) : dctK p Q (up h p (.dic false [])) (some kvs) := ⟨up_same, h1, h2, by rw [up_up]; exact q⟩
theorem dlook_nil : dlook k [] = none := rfl
theorem dlook_eq : dlook k ((k, v) :: kvs) = some v := if_pos rfl
theorem dlook_ne {j : Val} (e : k ≠ j) : dlook k ((j, v) :: kvs) = dlook k kvs := if_neg e
theorem j_dkind (e : h p = some (.dic t kvs)) : kindV "dict" (.ref p) h = True := by
  unfold kindV
  dsimp only
  rw [e]
  exact eq_true rfl
theorem j_didx (e : h p = some (.dic t kvs)) (hk : keyB t k = true) : (idxR (.ref p) k h).wp h Q = kVar Q h (dlook k kvs) := by
  unfold idxR
  dsimp only
  rw [e]
  show (∃ v, (keyB t k = true ∧ dlook k kvs = some v) ∧ Q v h) = _
  cases q : dlook k kvs with
  | none => exact propext (Iff.intro (fun ⟨_, ⟨_, q⟩, _⟩ => nomatch q) (fun q => False.elim q))
  | some w => exact propext ⟨fun ⟨_, ⟨_, q⟩, z⟩ => by cases q; exact z, fun z => ⟨w, ⟨hk, rfl⟩, z⟩⟩
theorem j_dset (e : h p = some (.dic t kvs)) : setR (.ref p) k v h = .put (keyB t k = true ∧ kvs.length < SZ) p (.dic t (dput k v kvs)) .non := by
  unfold setR
  dsimp only
  rw [e]
theorem j_din (e : h p = some (.dic t kvs)) (hk : keyB t k = true) : (cmpR .mem k (.ref p) h).wp K = K (dlook k kvs).isSome := by
  show (inR k (.ref p) h).wp K = _
  unfold inR
  dsimp only
  rw [e]
  exact propext ⟨fun ⟨_, ⟨_, q⟩, z⟩ => by subst q; exact z, fun z => ⟨_, ⟨hk, rfl⟩, z⟩⟩
theorem j_dnin (e : h p = some (.dic t kvs)) (hk : keyB t k = true) : (cmpR .nmem k (.ref p) h).wp K = K (!(dlook k kvs).isSome) := by
  show (inR k (.ref p) h).not.wp K = _
  unfold inR
  dsimp only
  rw [e]
  exact propext ⟨fun ⟨t, ⟨_, q⟩, z⟩ => by rw [← q, Bool.not_not]; exact z, fun z => ⟨_, ⟨hk, Bool.not_not _⟩, z⟩⟩
theorem j_dget (e : h p = some (.dic t kvs)) : bmtR .get (.ref p) [k, d] h = .if_ (keyB t k = true) ((dlook k kvs).getD d) := by
  unfold bmtR dicA
  dsimp only
  rw [e]
theorem j_dget1 (e : h p = some (.dic t kvs)) : bmtR .get (.ref p) [k] h = .if_ (keyB t k = true) ((dlook k kvs).getD .non) := by
  unfold bmtR dicA
  dsimp only
  rw [e]
theorem j_dsdf (e : h p = some (.dic false kvs)) (hv : dlook k kvs = some v) : bmtR .setdefault (.ref p) [k, d] h = .if_ (leafK k = true ∧ kvs.length < SZ) v := by
  unfold bmtR dicA
  dsimp only
  rw [e]
  dsimp only
  rw [hv]
theorem j_dsdn (e : h p = some (.dic false kvs)) (hv : dlook k kvs = none) : bmtR .setdefault (.ref p) [k, d] h = .put (leafK k = true ∧ kvs.length < SZ) p (.dic false (dput k d kvs)) d := by
  unfold bmtR dicA
  dsimp only
  rw [e]
  dsimp only
  rw [hv]
theorem j_dlen (e : h p = some (.dic t kvs)) : bifR .len [.ref p] h = .ok (nv kvs.length) := by
  unfold bifR lenV
  dsimp only
  rw [e]
  rfl
theorem j_dtru (e : h p = some (.dic false kvs)) : truB (.ref p) h = .ok (!kvs.isEmpty) := by
  unfold truB
  dsimp only
  rw [e]
end
section
variable {h : VH} {Q : KV} {K : Bool → Prop} {p : Nat} {t : Bool} {kvs : List (Val × Val)} {k v d : Val}
theorem u_dkind : kindV "dict" (.ref p) (up h p (.dic t kvs)) = True := j_dkind up_same
theorem u_didx (hk : keyB t k = true) : (idxR (.ref p) k (up h p (.dic t kvs))).wp (up h p (.dic t kvs)) Q = kVar Q (up h p (.dic t kvs)) (dlook k kvs) := j_didx up_same hk
theorem u_dset : setR (.ref p) k v (up h p (.dic t kvs)) = .put (keyB t k = true ∧ kvs.length < SZ) p (.dic t (dput k v kvs)) .non := j_dset up_same
theorem u_din (hk : keyB t k = true) : (cmpR .mem k (.ref p) (up h p (.dic t kvs))).wp K = K (dlook k kvs).isSome := j_din up_same hk
theorem u_dnin (hk : keyB t k = true) : (cmpR .nmem k (.ref p) (up h p (.dic t kvs))).wp K = K (!(dlook k kvs).isSome) := j_dnin up_same hk
theorem u_dget : bmtR .get (.ref p) [k, d] (up h p (.dic t kvs)) = .if_ (keyB t k = true) ((dlook k kvs).getD d) := j_dget up_same
theorem u_dlen : bifR .len [.ref p] (up h p (.dic t kvs)) = .ok (nv kvs.length) := j_dlen up_same
end
/-! ### a heap that grows, but for one object -/
def XP (p : Nat) (h h' : VH) : Prop := ∀ a o, a ≠ p → h a = some o → h' a = some o
theorem XP.refl {p : Nat} {h : VH} : XP p h h := fun _ _ _ e => e
theorem XP.trans {p : Nat} {h h1 h2 : VH} (a : XP p h h1) (b : XP p h1 h2) : XP p h h2 := fun c o n e => b c o n (a c o n e)
theorem XP.of {p : Nat} {h h' : VH} (x : Ext h h') : XP p h h' := fun a o _ e => x a o e
theorem XP.put {p : Nat} {h h' : VH} {o : Obj} (x : XP p h h') : XP p h (up h' p o) := fun a u n e => by rw [up_ne n]; exact x a u n e
theorem XP.up2 {p q : Nat} {h h' : VH} {o : Obj} (x : XP p h h') (hq : h q = none) : XP p h (up h' q o) := fun a u n e => by
  have : a ≠ q := fun z => by rw [z, hq] at e; cases e
  rw [up_ne this]
  exact x a u n e
theorem XP.del {p q : Nat} {h h' : VH} (x : XP p h h') (hq : h q = none) : XP p h (MP.del h' q) := fun a u n e => by
  have : a ≠ q := fun z => by rw [z, hq] at e; cases e
  show (if a = q then none else h' a) = _
  rw [if_neg this]
  exact x a u n e
theorem XP.free {p q : Nat} {h h' : VH} (x : XP p h h') (hp : q ≠ p) (hq : h' q = none) : h q = none := by
  cases e : h q with
  | none => rfl
  | some o => rw [x q o hp e] at hq; cases hq
/-- a comprehension whose turns keep something of the heap, and change one object alone -/
theorem comp_xp {Γ : Gam} {el : E} {t : G} {c : O} {vs : List Nat} {σ : VS} {h : VH} {Q : KV} {ok : VH → Prop} (L : Le Γ Γ) {α β : Type} (p : Nat) (xs : List α) (f : α → Val) (eb : β → Val) (R : β → Prop) (I : Nat → VH → Prop) (hl : xs.length < SZ) (hok : ok = tt) (hp : h p ≠ none)
    (h0 : ∀ D, h D = none → I 0 (up h D (.lst []))) (hI : ∀ i D h' o, D ≠ p → I i h' → I i (up h' D o))
    (step : ∀ i x, i < xs.length → x ∈ xs → ∀ (h' : VH) (k : Option Val → VH → Prop), XP p h h' → I i h' → (∀ y h'', R y → I (i + 1) h'' → XP p h' h'' → k (some (eb y)) h'') → cbody Γ el t c vs σ (f x) h' k) (hf : ∀ (ys : List β) (h' : VH) (D : Nat), ys.length = xs.length → (∀ y ∈ ys, R y) → h D = none → XP p h h' → I xs.length h' → h' D = some (.lst (ys.map eb)) → Q (.ref D) h') : kCmpr Γ el t c vs σ Q (xs.map f) ok h := by
  subst hok
  intro D hD
  have hDp : D ≠ p := fun e => hp (by rw [← e]; exact hD)
  have key : ∀ (r : List α) (acc : List β) (h1 : VH), XP p h h1 → I acc.length h1 → h1 D = some (.lst (acc.map eb)) → (∀ y ∈ acc, R y) → (∀ x ∈ r, x ∈ xs) → acc.length + r.length = xs.length → cgo (cbody Γ el t c vs σ) tt D (kFin Q D) (r.map f) h1 := by
    intro r
    induction r with
    | nil =>
      intro acc h1 x1 i1 e1 hR _ hlen
      have hlen : acc.length = xs.length := hlen
      refine ⟨True.intro, ?_⟩
      exact hf acc h1 D hlen hR hD x1 (by rw [← hlen]; exact i1) e1
    | cons x r ih =>
      intro acc h1 x1 i1 e1 hR hx hlen
      rw [List.length_cons] at hlen
      refine ⟨True.intro, step acc.length x (by omega) (hx x List.mem_cons_self) _ _ x1 i1 fun y h'' hy i2 x2 => ?_⟩
      refine ⟨acc.map eb, x2 _ _ hDp e1, by rw [List.length_map]; omega, ?_⟩
      refine ih (acc ++ [y]) _ ((x1.trans x2).up2 hD) (by rw [List.length_append]; exact hI _ _ _ _ hDp i2) (by rw [up_same, List.map_append]; rfl) (fun z hz => ?_) (fun y hy => hx y (List.mem_cons_of_mem _ hy)) (by rw [List.length_append, List.length_singleton]; omega)
      rcases List.mem_append.mp hz with hz | hz
      · exact hR z hz
      · rw [List.mem_singleton.mp hz]; exact hy
  exact key xs [] _ ((XP.of (Ext.up hD))) (h0 D hD) up_same (fun _ h => nomatch h) (fun _ h => h) (by rw [List.length_nil]; omega)
end MP
end
section
set_option maxHeartbeats 0
namespace Lk41
open MP
def b_law : Ss :=
  (.cons (.asg (.nm 1) (.call "_law_tree" (.cons (.var 0) .nil)))
  (.cons (.asg (.nm 2) (.call "plain_kinds" (.cons (.var 1) .nil)))
  (.cons (.ife (.lg false (.cons (.not (.isi (.var 2) ["list"])) (.cons (.cmp .ne (.frz (.cmpr (.var 3) (.nm 3) (.pl (.var 2)) (.some (.not (.isi (.var 3) ["tuple"]))) [3])) (.frz (.lst .nil))) .nil))) (.cons (.ret (.bl false))
  .nil) .nil)
  (.cons (.ife (.lg false (.cons (.cmp .ne (.var 2) (.frz (.bif .sorted (.cons (.call "_law_due" (.cons (.var 1) .nil)) .nil)))) (.cons (.cmp .ne (.var 1) (.call "_law_tree" (.cons (.var 0) .nil))) .nil))) (.cons (.ret (.bl false))
  .nil) .nil)
  (.cons (.exp (.bmt .clear "list" (.var 2) .nil))
  (.cons (.frz 2)
  (.cons (.ret (.lg true (.cons (.cmp .eq (.call "plain_kinds" (.cons (.var 1) .nil)) (.frz (.bif .sorted (.cons (.call "_law_due" (.cons (.var 1) .nil)) .nil)))) (.cons (.cmp .eq (.call "plain_kinds" (.cons (.frz (.lst .nil)) .nil)) (.frz (.lst .nil))) .nil))))
  .nil)))))))
def b__law_due : Ss :=
  (.cons (.asg (.nm 1) (.lst .nil))
  (.cons (.loop (.nm 2) (.pl (.var 0)) (.cons (.ife (.call "_law_wrong" (.cons (.idx (.var 2) (.int (2 : Nat))) .nil)) (.cons (.exp (.bmt .append "list" (.var 1) (.cons (.tup (.cons (.idx (.var 2) (.int (1 : Nat))) (.cons (.str [107, 105, 110, 100]) .nil))) .nil)))
  .nil) .nil)
  (.cons (.ife (.lg true (.cons (.cmp .ne (.idx (.var 2) (.int (0 : Nat))) (.str [116, 101, 108, 108])) (.cons (.cmp .ne (.call "_law_kind" (.cons (.idx (.var 2) (.int (2 : Nat))) .nil)) (.str [116, 114, 117, 116, 104])) .nil))) (.cons (.exp (.bmt .append "list" (.var 1) (.cons (.tup (.cons (.idx (.var 2) (.int (1 : Nat))) (.cons (.str [116, 114, 117, 116, 104]) .nil))) .nil)))
  .nil) .nil)
  (.cons (.loop (.nm 3) (.pl (.frz (.slc (.var 2) (.some (.int (3 : Nat))) .no))) (.cons (.asg (.nm 1) (.bop .add (.var 1) (.call "_law_due" (.cons (.var 3) .nil))))
  .nil))
  .nil))))
  (.cons (.frz 1)
  (.cons (.ret (.frz (.var 1)))
  .nil))))
def b__law_tree : Ss :=
  (.cons (.ret (.frz (.cmpr (.call "_law_row" (.cons (.call "_law_mixed" (.cons (.var 2) (.cons (.var 1) .nil))) (.cons (.bop .mul (.int (3 : Nat)) (.var 1)) .nil))) (.tp [1, 2]) (.en (.frz (.slc (.var 0) .no (.some (.int (12 : Nat)))))) .no [1, 2])))
  .nil)
def b_plain_kinds : Ss :=
  (.cons (.ret (.cmpr (.frz (.slc (.var 1) (.some (.int (1 : Nat))) .no)) (.nm 1) (.pl (.call "shared_kinds" (.cons (.call "lifted_tree" (.cons (.var 0) .nil)) (.cons (.int (1 : Nat)) .nil)))) .no [1]))
  .nil)
def b__law_wrong : Ss :=
  (.cons (.ife (.lg false (.cons (.cmp .eq (.idx (.var 0) (.int (0 : Nat))) (.str [110, 117, 109])) (.cons (.cmp .eq (.idx (.var 0) (.int (0 : Nat))) (.str [116, 114, 117, 116, 104])) .nil))) (.cons (.ret (.bl false))
  .nil) .nil)
  (.cons (.asg (.nm 1) (.str [116, 114, 117, 116, 104]))
  (.cons (.ife (.cmp .mem (.idx (.var 0) (.int (0 : Nat))) (.tup (.cons (.str [43]) (.cons (.str [45]) (.cons (.str [42]) (.cons (.str [108, 101, 115, 115]) (.cons (.str [115, 97, 109, 101]) .nil))))))) (.cons (.asg (.nm 1) (.str [110, 117, 109]))
  .nil) .nil)
  (.cons (.loop (.nm 2) (.pl (.frz (.slc (.var 0) (.some (.int (1 : Nat))) .no))) (.cons (.ife (.lg false (.cons (.cmp .ne (.call "_law_kind" (.cons (.var 2) .nil)) (.var 1)) (.cons (.call "_law_wrong" (.cons (.var 2) .nil)) .nil))) (.cons (.ret (.bl true))
  .nil) .nil)
  .nil))
  (.cons (.ret (.bl false))
  .nil)))))
def b_lifted_tree : Ss :=
  (.cons (.asg (.nm 1) (.lst .nil))
  (.cons (.loop (.nm 2) (.pl (.var 0)) (.cons (.asg (.nm 3) (.idx (.var 2) (.int (0 : Nat))))
  (.cons (.ife (.cmp .eq (.var 3) (.str [105, 102])) (.cons (.asg (.nm 2) (.frz (.bop .add (.frz (.slc (.var 2) .no (.some (.int (3 : Nat))))) (.tup (.cons (.call "lifted_tree" (.cons (.idx (.var 2) (.int (3 : Nat))) .nil)) (.cons (.call "lifted_tree" (.cons (.idx (.var 2) (.int (4 : Nat))) .nil)) .nil))))))
  .nil) (.cons (.ife (.cmp .eq (.var 3) (.str [119, 104, 105, 108, 101])) (.cons (.asg (.nm 2) (.frz (.bop .add (.frz (.slc (.var 2) .no (.some (.int (3 : Nat))))) (.tup (.cons (.call "lifted_tree" (.cons (.idx (.var 2) (.int (3 : Nat))) .nil)) .nil)))))
  .nil) (.cons (.ife (.cmp .eq (.var 3) (.str [100, 101, 102])) (.cons (.asg (.nm 2) (.frz (.bop .add (.frz (.slc (.var 2) .no (.some (.int (5 : Nat))))) (.tup (.cons (.call "lifted_tree" (.cons (.idx (.var 2) (.int (5 : Nat))) .nil)) .nil)))))
  .nil) .nil)
  .nil))
  .nil))
  (.cons (.exp (.bmt .append "list" (.var 1) (.cons (.tup (.cons (.int (1 : Nat)) (.cons (.var 2) .nil))) .nil)))
  .nil))))
  (.cons (.frz 1)
  (.cons (.ret (.frz (.var 1)))
  .nil))))
def b_shared_kinds : Ss :=
  (.cons (.asg (.nm 2) (.call "KindLook" (.cons (.var 0) (.cons (.var 1) .nil))))
  (.cons (.exp (.mth (.var 2) "walk" (.cons (.var 0) (.cons (.var 1) (.cons (.dct .nil) (.cons (.glb "UNKNOWN") .nil))))))
  (.cons (.ret (.frz (.cmpr (.tup (.cons (.idx (.fld (.var 2) "faults") (.var 3)) (.cons (.idx (.var 3) (.int (0 : Nat))) (.cons (.idx (.var 3) (.int (1 : Nat))) .nil)))) (.nm 3) (.pl (.frz (.bif .sorted (.cons (.fld (.var 2) "faults") .nil)))) .no [3])))
  .nil)))
def b__law_mixed : Ss :=
  (.cons (.asg (.nm 2) (.bop .mod (.bop .mul (.bop .add (.bop .add (.var 0) (.bop .mul (.int (7919 : Nat)) (.var 1))) (.int (1 : Nat))) (.int (48271 : Nat))) (.int (2147483647 : Nat))))
  (.cons (.ret (.bop .mod (.bop .mul (.var 2) (.bop .add (.bop .fdiv (.var 2) (.int (1009 : Nat))) (.int (69621 : Nat)))) (.int (2147483647 : Nat))))
  .nil))
def b__law_row : Ss :=
  (.cons (.asg (.nm 2) (.call "_law_expr" (.cons (.call "_law_mixed" (.cons (.var 0) (.cons (.int (3 : Nat)) .nil))) (.cons (.idx (.frz (.lst (.cons (.str [110, 117, 109]) (.cons (.str [116, 114, 117, 116, 104]) .nil)))) (.bop .mod (.bop .fdiv (.var 0) (.int (4 : Nat))) (.int (2 : Nat)))) (.cons (.bop .mod (.bop .fdiv (.var 0) (.int (8 : Nat))) (.int (6 : Nat))) .nil)))))
  (.cons (.ife (.cmp .lt (.bop .mod (.var 0) (.int (4 : Nat))) (.int (2 : Nat))) (.cons (.ret (.tup (.cons (.str [116, 101, 108, 108]) (.cons (.var 1) (.cons (.var 2) .nil)))))
  .nil) .nil)
  (.cons (.ife (.cmp .eq (.bop .mod (.var 0) (.int (4 : Nat))) (.int (2 : Nat))) (.cons (.ret (.tup (.cons (.str [119, 104, 105, 108, 101]) (.cons (.var 1) (.cons (.var 2) (.cons (.frz (.lst .nil)) .nil))))))
  .nil) .nil)
  (.cons (.ife (.lg true (.cons (.cmp .eq (.bop .mod (.var 1) (.int (3 : Nat))) (.int (0 : Nat))) (.cons (.cmp .eq (.bop .mod (.bop .fdiv (.var 0) (.int (64 : Nat))) (.int (2 : Nat))) (.int (1 : Nat))) .nil))) (.cons (.ret (.tup (.cons (.str [105, 102]) (.cons (.var 1) (.cons (.var 2) (.cons (.frz (.lst .nil)) (.cons (.frz (.lst (.cons (.call "_law_row" (.cons (.bop .mul (.int (4 : Nat)) (.call "_law_mixed" (.cons (.var 0) (.cons (.int (5 : Nat)) .nil)))) (.cons (.bop .add (.var 1) (.int (2 : Nat))) .nil))) .nil))) .nil)))))))
  .nil) .nil)
  (.cons (.ret (.tup (.cons (.str [105, 102]) (.cons (.var 1) (.cons (.var 2) (.cons (.frz (.lst .nil)) (.cons (.frz (.lst .nil)) .nil)))))))
  .nil)))))
def b__law_kind : Ss :=
  (.cons (.ife (.lg false (.cons (.cmp .eq (.idx (.var 0) (.int (0 : Nat))) (.str [110, 117, 109])) (.cons (.cmp .mem (.idx (.var 0) (.int (0 : Nat))) (.tup (.cons (.str [43]) (.cons (.str [45]) (.cons (.str [42]) .nil))))) .nil))) (.cons (.ret (.str [110, 117, 109]))
  .nil) .nil)
  (.cons (.ret (.str [116, 114, 117, 116, 104]))
  .nil))
def b__law_expr : Ss :=
  (.cons (.asg (.nm 3) (.bop .mod (.var 0) (.int (8 : Nat))))
  (.cons (.asg (.nm 4) (.bop .fdiv (.var 0) (.int (8 : Nat))))
  (.cons (.ife (.cmp .eq (.var 3) (.int (7 : Nat))) (.cons (.asg (.nm 1) (.idx (.frz (.lst (.cons (.str [110, 117, 109]) (.cons (.str [116, 114, 117, 116, 104]) .nil)))) (.bop .mod (.var 4) (.int (2 : Nat)))))
  .nil) .nil)
  (.cons (.ife (.lg false (.cons (.cmp .eq (.var 2) (.int (0 : Nat))) (.cons (.cmp .lt (.var 3) (.int (2 : Nat))) .nil))) (.cons (.ife (.cmp .eq (.var 1) (.str [110, 117, 109])) (.cons (.ret (.tup (.cons (.str [110, 117, 109]) (.cons (.bop .mod (.bop .pow (.var 4) (.int (2 : Nat))) (.bop .pow (.int (10 : Nat)) (.int (18 : Nat)))) .nil))))
  .nil) .nil)
  (.cons (.ret (.tup (.cons (.str [116, 114, 117, 116, 104]) (.cons (.idx (.frz (.lst (.cons (.str [121, 101, 115]) (.cons (.str [110, 111]) .nil)))) (.bop .mod (.var 4) (.int (2 : Nat)))) .nil))))
  .nil)) .nil)
  (.cons (.ife (.cmp .eq (.var 1) (.str [110, 117, 109])) (.cons (.asg (.nm 7) (.idx (.frz (.lst (.cons (.str [43]) (.cons (.str [45]) (.cons (.str [42]) .nil))))) (.bop .mod (.var 4) (.int (3 : Nat)))))
  .nil) (.cons (.asg (.nm 7) (.idx (.frz (.lst (.cons (.str [108, 101, 115, 115]) (.cons (.str [115, 97, 109, 101]) (.cons (.str [97, 110, 100]) (.cons (.str [111, 114]) (.cons (.str [110, 111, 116]) .nil))))))) (.bop .mod (.var 4) (.int (5 : Nat)))))
  .nil))
  (.cons (.asg (.nm 5) (.str [116, 114, 117, 116, 104]))
  (.cons (.ife (.cmp .mem (.var 7) (.tup (.cons (.str [43]) (.cons (.str [45]) (.cons (.str [42]) (.cons (.str [108, 101, 115, 115]) (.cons (.str [115, 97, 109, 101]) .nil))))))) (.cons (.asg (.nm 5) (.str [110, 117, 109]))
  .nil) .nil)
  (.cons (.asg (.nm 6) (.call "_law_expr" (.cons (.call "_law_mixed" (.cons (.var 0) (.cons (.int (1 : Nat)) .nil))) (.cons (.var 5) (.cons (.bop .sub (.var 2) (.int (1 : Nat))) .nil)))))
  (.cons (.ife (.cmp .eq (.var 7) (.str [110, 111, 116])) (.cons (.ret (.tup (.cons (.str [110, 111, 116]) (.cons (.var 6) .nil))))
  .nil) .nil)
  (.cons (.ret (.tup (.cons (.var 7) (.cons (.var 6) (.cons (.call "_law_expr" (.cons (.call "_law_mixed" (.cons (.var 0) (.cons (.int (2 : Nat)) .nil))) (.cons (.var 5) (.cons (.bop .sub (.var 2) (.int (1 : Nat))) .nil)))) .nil)))))
  .nil))))))))))
def b_KindLook___init__ : Ss :=
  (.cons (.sfl (.var 0) "faults" .dctT)
  (.cons (.sfl (.var 0) "defs" (.dct .nil))
  (.cons (.sfl (.var 0) "records" (.dct .nil))
  (.cons (.loop (.tp [3, 4]) (.pl (.var 1)) (.cons (.ife (.cmp .eq (.idx (.var 4) (.int (0 : Nat))) (.str [100, 101, 102])) (.cons (.exp (.bmt .append "list" (.bmt .setdefault "dict" (.fld (.var 0) "defs") (.cons (.idx (.var 4) (.int (2 : Nat))) (.cons (.frz (.lst .nil)) .nil))) (.cons (.tup (.cons (.bop .band (.var 3) (.var 2)) (.cons (.idx (.var 4) (.int (3 : Nat))) (.cons (.idx (.var 4) (.int (4 : Nat))) .nil)))) .nil)))
  .nil) .nil)
  (.cons (.ife (.cmp .eq (.idx (.var 4) (.int (0 : Nat))) (.str [107, 105, 110, 100])) (.cons .nev
  .nil) .nil)
  .nil)))
  .nil))))
def b_KindLook_walk : Ss :=
  (.cons (.loop (.tp [5, 6]) (.pl (.var 1)) (.cons (.asg (.nm 5) (.bop .band (.var 5) (.var 2)))
  (.cons (.ife (.cmp .ne (.var 5) (.int (0 : Nat))) (.cons (.exp (.mth (.var 0) "step" (.cons (.var 6) (.cons (.var 5) (.cons (.var 3) (.cons (.var 4) .nil))))))
  .nil) .nil)
  .nil)))
  .nil)
def b_KindLook_step : Ss :=
  (.cons (.asg (.nm 5) (.idx (.var 1) (.int (0 : Nat))))
  (.cons (.asg (.nm 6) (.idx (.var 1) (.int (1 : Nat))))
  (.cons (.ife (.cmp .eq (.var 5) (.str [107, 105, 110, 100])) (.cons (.ret .non)
  .nil) .nil)
  (.cons (.ife (.cmp .eq (.var 5) (.str [100, 101, 102])) (.cons (.exp (.mth (.var 0) "define" (.cons (.var 1) (.cons (.var 2) .nil))))
  (.cons (.ret .non)
  .nil)) .nil)
  (.cons (.ife (.cmp .eq (.var 5) (.str [115, 101, 116])) (.cons (.exp (.mth (.var 0) "sets" (.cons (.idx (.var 1) (.int (2 : Nat))) (.cons (.mth (.var 0) "kinds_of" (.cons (.idx (.var 1) (.int (3 : Nat))) (.cons (.var 2) (.cons (.var 6) (.cons (.var 3) .nil))))) (.cons (.var 6) (.cons (.var 3) .nil))))))
  (.cons (.ret .non)
  .nil)) .nil)
  (.cons (.asg (.nm 7) (.mth (.var 0) "kinds_of" (.cons (.idx (.var 1) (.int (2 : Nat))) (.cons (.var 2) (.cons (.var 6) (.cons (.var 3) .nil))))))
  (.cons (.ife (.cmp .eq (.var 5) (.str [116, 101, 108, 108])) (.cons (.exp (.mth (.var 0) "due" (.cons (.var 7) (.cons (.tup (.cons (.str [110, 117, 109]) (.cons (.str [116, 114, 117, 116, 104]) .nil))) (.cons (.var 2) (.cons (.var 6) (.cons (.str [116, 101, 108, 108]) .nil)))))))
  .nil) (.cons (.ife (.cmp .eq (.var 5) (.str [103, 105, 118, 101])) (.cons (.exp (.mth (.var 0) "due" (.cons (.var 7) (.cons (.tup (.cons (.var 4) .nil)) (.cons (.var 2) (.cons (.var 6) (.cons (.str [107, 105, 110, 100]) .nil)))))))
  .nil) (.cons (.exp (.mth (.var 0) "due" (.cons (.var 7) (.cons (.tup (.cons (.str [116, 114, 117, 116, 104]) .nil)) (.cons (.var 2) (.cons (.var 6) (.cons (.str [116, 114, 117, 116, 104]) .nil)))))))
  .nil))
  .nil))
  (.cons (.loop (.nm 8) (.pl (.frz (.slc (.var 1) (.some (.int (3 : Nat))) .no))) (.cons (.exp (.mth (.var 0) "walk" (.cons (.var 8) (.cons (.var 2) (.cons (.var 3) (.cons (.var 4) .nil))))))
  .nil))
  .nil))))))))
def b_KindLook_due : Ss :=
  (.cons (.loopD (.tp [6, 7]) (.var 1) (.cons (.ife (.lg true (.cons (.cmp .ne (.var 6) (.glb "UNKNOWN")) (.cons (.cmp .nmem (.var 6) (.var 2)) .nil))) (.cons (.exp (.mth (.var 0) "note" (.cons (.bop .band (.var 7) (.var 3)) (.cons (.var 4) (.cons (.var 5) .nil)))))
  .nil) .nil)
  .nil))
  .nil)
def b_KindLook_kinds_of : Ss :=
  (.cons (.asg (.nm 5) (.idx (.var 1) (.int (0 : Nat))))
  (.cons (.ife (.cmp .eq (.var 5) (.str [110, 117, 109])) (.cons (.ret (.dct (.cons (.str [110, 117, 109]) (.cons (.var 2) .nil))))
  .nil) .nil)
  (.cons (.ife (.cmp .eq (.var 5) (.str [116, 114, 117, 116, 104])) (.cons (.ret (.dct (.cons (.str [116, 114, 117, 116, 104]) (.cons (.var 2) .nil))))
  .nil) .nil)
  (.cons (.ife (.cmp .eq (.var 5) (.str [110, 97, 109, 101])) (.cons (.asg (.nm 6) (.dct .nil))
  (.cons (.loopD (.tp [7, 8]) (.bmt .get "dict" (.var 4) (.cons (.idx (.var 1) (.int (1 : Nat))) (.cons (.dct .nil) .nil))) (.cons (.exp (.call "add_kind_part" (.cons (.var 6) (.cons (.var 7) (.cons (.bop .band (.var 8) (.var 2)) .nil)))))
  .nil))
  (.cons (.ret (.var 6))
  .nil))) .nil)
  (.cons (.ife (.cmp .eq (.var 5) (.str [100, 111])) (.cons (.ret (.mth (.var 0) "kinds_of_do" (.cons (.var 1) (.cons (.var 2) (.cons (.var 3) (.cons (.var 4) .nil))))))
  .nil) .nil)
  (.cons (.ife (.cmp .eq (.var 5) (.str [110, 101, 119])) (.cons (.ret (.mth (.var 0) "kinds_of_new" (.cons (.var 1) (.cons (.var 2) (.cons (.var 3) (.cons (.var 4) .nil))))))
  .nil) .nil)
  (.cons (.ife (.cmp .eq (.var 5) (.str [111, 102])) (.cons (.ret (.mth (.var 0) "kinds_of_field" (.cons (.var 1) (.cons (.var 2) (.cons (.var 3) (.cons (.var 4) .nil))))))
  .nil) .nil)
  (.cons (.ret (.mth (.var 0) "kinds_of_operator" (.cons (.var 1) (.cons (.var 2) (.cons (.var 3) (.cons (.var 4) .nil))))))
  .nil))))))))
def b_KindLook_kinds_of_operator : Ss :=
  (.cons (.asg (.nm 5) (.str [116, 114, 117, 116, 104]))
  (.cons (.ife (.cmp .mem (.idx (.var 1) (.int (0 : Nat))) (.glb "NUMBERS")) (.cons (.asg (.nm 5) (.str [110, 117, 109]))
  .nil) .nil)
  (.cons (.loop (.nm 6) (.pl (.frz (.slc (.var 1) (.some (.int (1 : Nat))) .no))) (.cons (.exp (.mth (.var 0) "due" (.cons (.mth (.var 0) "kinds_of" (.cons (.var 6) (.cons (.var 2) (.cons (.var 3) (.cons (.var 4) .nil))))) (.cons (.tup (.cons (.var 5) .nil)) (.cons (.var 2) (.cons (.var 3) (.cons (.str [107, 105, 110, 100]) .nil)))))))
  .nil))
  (.cons (.ife (.cmp .mem (.idx (.var 1) (.int (0 : Nat))) (.tup (.cons (.str [43]) (.cons (.str [45]) (.cons (.str [42]) .nil))))) (.cons (.ret (.dct (.cons (.str [110, 117, 109]) (.cons (.var 2) .nil))))
  .nil) .nil)
  (.cons (.ret (.dct (.cons (.str [116, 114, 117, 116, 104]) (.cons (.var 2) .nil))))
  .nil)))))
def b_KindLook_note : Ss :=
  (.cons (.ife (.cmp .ne (.var 1) (.int (0 : Nat))) (.cons (.ssb (.fld (.var 0) "faults") (.tup (.cons (.var 2) (.cons (.var 3) .nil))) (.bop .bor (.bmt .get "dict" (.fld (.var 0) "faults") (.cons (.tup (.cons (.var 2) (.cons (.var 3) .nil))) (.cons (.int (0 : Nat)) .nil))) (.var 1)))
  .nil) .nil)
  .nil)
def b_add_kind_part : Ss :=
  (.cons (.ife (.cmp .ne (.var 2) (.int (0 : Nat))) (.cons (.ssb (.var 0) (.var 1) (.bop .bor (.bmt .get "dict" (.var 0) (.cons (.var 1) (.cons (.int (0 : Nat)) .nil))) (.var 2)))
  .nil) .nil)
  .nil)
structure Fns (t : Tabl) : Prop where
  f_law : t.prog.fn "law" = some (.fn 1 4 b_law)
  f__law_due : t.prog.fn "_law_due" = some (.fn 1 4 b__law_due)
  f__law_tree : t.prog.fn "_law_tree" = some (.fn 1 3 b__law_tree)
  f_plain_kinds : t.prog.fn "plain_kinds" = some (.fn 1 2 b_plain_kinds)
  f__law_wrong : t.prog.fn "_law_wrong" = some (.fn 1 3 b__law_wrong)
  f_lifted_tree : t.prog.fn "lifted_tree" = some (.fn 1 4 b_lifted_tree)
  f_shared_kinds : t.prog.fn "shared_kinds" = some (.fn 2 4 b_shared_kinds)
  f__law_mixed : t.prog.fn "_law_mixed" = some (.fn 2 3 b__law_mixed)
  f__law_row : t.prog.fn "_law_row" = some (.fn 2 3 b__law_row)
  f__law_kind : t.prog.fn "_law_kind" = some (.fn 1 1 b__law_kind)
  f__law_expr : t.prog.fn "_law_expr" = some (.fn 3 8 b__law_expr)
  f_KindLook___init__ : t.prog.fn "KindLook.__init__" = some (.fn 3 5 b_KindLook___init__)
  f_KindLook_walk : t.prog.fn "KindLook.walk" = some (.fn 5 7 b_KindLook_walk)
  f_KindLook_step : t.prog.fn "KindLook.step" = some (.fn 5 9 b_KindLook_step)
  f_KindLook_due : t.prog.fn "KindLook.due" = some (.fn 6 8 b_KindLook_due)
  f_KindLook_kinds_of : t.prog.fn "KindLook.kinds_of" = some (.fn 5 9 b_KindLook_kinds_of)
  f_KindLook_kinds_of_operator : t.prog.fn "KindLook.kinds_of_operator" = some (.fn 5 7 b_KindLook_kinds_of_operator)
  f_KindLook_note : t.prog.fn "KindLook.note" = some (.fn 4 4 b_KindLook_note)
  f_add_kind_part : t.prog.fn "add_kind_part" = some (.fn 3 3 b_add_kind_part)
  k_KindLook : t.prog.fn "KindLook" = some (.mk "KindLook" "KindLook.__init__")
  c_NUMBERS : t.prog.con "NUMBERS" = some (.ktp [.str [43], .str [45], .str [42], .str [108, 101, 115, 115], .str [115, 97, 109, 101]])
  c_UNKNOWN : t.prog.con "UNKNOWN" = some (.str [])
  m_KindLook_walk : t.prog.mth "KindLook" "walk" = some "KindLook.walk"
  m_KindLook_step : t.prog.mth "KindLook" "step" = some "KindLook.step"
  m_KindLook_due : t.prog.mth "KindLook" "due" = some "KindLook.due"
  m_KindLook_kinds_of : t.prog.mth "KindLook" "kinds_of" = some "KindLook.kinds_of"
  m_KindLook_kinds_of_operator : t.prog.mth "KindLook" "kinds_of_operator" = some "KindLook.kinds_of_operator"
  m_KindLook_note : t.prog.mth "KindLook" "note" = some "KindLook.note"
  g_KindLook_faults : t.prog.fld "KindLook" "faults" = true
  g_KindLook_defs : t.prog.fld "KindLook" "defs" = true
  g_KindLook_records : t.prog.fld "KindLook" "records" = true
end Lk41
end
section
set_option maxHeartbeats 0
namespace Lk41
open PySem PySem.Spec PyProof.Rows L2 MP
def top (i : Nat) : Stmt := PySem.Challenge.pw_manymakes_k41_kinds_of_operators.main.body.getD i (.Pass ⟨0, 0, 0, 0⟩)
def clsBody : Stmt → List Stmt
  | .ClassDef (body := b) .. => b
  | _ => []
def cm (i j : Nat) : Stmt := (clsBody (top i)).getD j (.Pass ⟨0, 0, 0, 0⟩)
def D0 : He.DefD := ⟨("law", none), "law", "law", defArgs (top 19), defBody (top 19), defScope (top 19), [], []⟩
def D1 : He.DefD := ⟨("_law_due", none), "_law_due", "_law_due", defArgs (top 18), defBody (top 18), defScope (top 18), [], []⟩
def D2 : He.DefD := ⟨("_law_tree", none), "_law_tree", "_law_tree", defArgs (top 17), defBody (top 17), defScope (top 17), [], []⟩
def D3 : He.DefD := ⟨("plain_kinds", none), "plain_kinds", "plain_kinds", defArgs (top 9), defBody (top 9), defScope (top 9), [], []⟩
def D4 : He.DefD := ⟨("_law_wrong", none), "_law_wrong", "_law_wrong", defArgs (top 15), defBody (top 15), defScope (top 15), [], []⟩
def D5 : He.DefD := ⟨("lifted_tree", none), "lifted_tree", "lifted_tree", defArgs (top 1), defBody (top 1), defScope (top 1), [], []⟩
def D6 : He.DefD := ⟨("shared_kinds", none), "shared_kinds", "shared_kinds", defArgs (top 8), defBody (top 8), defScope (top 8), [], []⟩
def D7 : He.DefD := ⟨("_law_mixed", none), "_law_mixed", "_law_mixed", defArgs (top 12), defBody (top 12), defScope (top 12), [], []⟩
def D8 : He.DefD := ⟨("_law_row", none), "_law_row", "_law_row", defArgs (top 16), defBody (top 16), defScope (top 16), [], []⟩
def D9 : He.DefD := ⟨("_law_kind", none), "_law_kind", "_law_kind", defArgs (top 14), defBody (top 14), defScope (top 14), [], []⟩
def D10 : He.DefD := ⟨("_law_expr", none), "_law_expr", "_law_expr", defArgs (top 13), defBody (top 13), defScope (top 13), [], []⟩
def D11 : He.DefD := ⟨("KindLook", some "__init__"), "__init__", "KindLook.__init__", defArgs (cm 7 0), defBody (cm 7 0), defScope (cm 7 0), [], []⟩
def D12 : He.DefD := ⟨("KindLook", some "walk"), "walk", "KindLook.walk", defArgs (cm 7 8), defBody (cm 7 8), defScope (cm 7 8), [], []⟩
def D13 : He.DefD := ⟨("KindLook", some "step"), "step", "KindLook.step", defArgs (cm 7 9), defBody (cm 7 9), defScope (cm 7 9), [], []⟩
def D14 : He.DefD := ⟨("KindLook", some "due"), "due", "KindLook.due", defArgs (cm 7 2), defBody (cm 7 2), defScope (cm 7 2), [], []⟩
def D15 : He.DefD := ⟨("KindLook", some "kinds_of"), "kinds_of", "KindLook.kinds_of", defArgs (cm 7 3), defBody (cm 7 3), defScope (cm 7 3), [], []⟩
def D16 : He.DefD := ⟨("KindLook", some "kinds_of_operator"), "kinds_of_operator", "KindLook.kinds_of_operator", defArgs (cm 7 4), defBody (cm 7 4), defScope (cm 7 4), [], []⟩
def D17 : He.DefD := ⟨("KindLook", some "note"), "note", "KindLook.note", defArgs (cm 7 1), defBody (cm 7 1), defScope (cm 7 1), [], []⟩
def D18 : He.DefD := ⟨("add_kind_part", none), "add_kind_part", "add_kind_part", defArgs (top 6), defBody (top 6), defScope (top 6), [], []⟩
def rows0 : List MP.Row := [⟨"law", D0, ["_law_script", "_law_tree_here", "_law_found", "_law_one"], 1, b_law⟩, ⟨"_law_due", D1, ["_law_rows", "_law_due_here", "_law_row_here", "_law_block"], 1, b__law_due⟩, ⟨"_law_tree", D2, ["_law_script", "_law_k", "_law_cell"], 1, b__law_tree⟩, ⟨"plain_kinds", D3, ["tree", "fault"], 1, b_plain_kinds⟩, ⟨"_law_wrong", D4, ["_law_e", "_law_due_here", "_law_part"], 1, b__law_wrong⟩, ⟨"lifted_tree", D5, ["tree", "found", "statement", "word"], 1, b_lifted_tree⟩, ⟨"shared_kinds", D6, ["tree", "mask", "look", "fault"], 2, b_shared_kinds⟩, ⟨"_law_mixed", D7, ["_law_cell", "_law_k", "_law_number"], 2, b__law_mixed⟩, ⟨"_law_row", D8, ["_law_number", "_law_at", "_law_e"], 2, b__law_row⟩, ⟨"_law_kind", D9, ["_law_e"], 1, b__law_kind⟩, ⟨"_law_expr", D10, ["_law_number", "_law_wanted", "_law_deep", "_law_form", "_law_more", "_law_part", "_law_left", "_law_word"], 3, b__law_expr⟩, ⟨"KindLook.__init__", D11, ["self", "tree", "mask", "here", "statement"], 3, b_KindLook___init__⟩, ⟨"KindLook.walk", D12, ["self", "block", "mask", "known", "given", "here", "statement"], 5, b_KindLook_walk⟩, ⟨"KindLook.step", D13, ["self", "statement", "mask", "known", "given", "word", "at", "parts", "block"], 5, b_KindLook_step⟩, ⟨"KindLook.due", D14, ["self", "parts", "kinds", "mask", "at", "what", "kind", "here"], 6, b_KindLook_due⟩, ⟨"KindLook.kinds_of", D15, ["self", "expr", "mask", "at", "known", "word", "found", "kind", "here"], 5, b_KindLook_kinds_of⟩, ⟨"KindLook.kinds_of_operator", D16, ["self", "expr", "mask", "at", "known", "wanted", "part"], 5, b_KindLook_kinds_of_operator⟩, ⟨"KindLook.note", D17, ["self", "mask", "at", "what"], 4, b_KindLook_note⟩, ⟨"add_kind_part", D18, ["parts", "kind", "mask"], 3, b_add_kind_part⟩]
def rows : List MP.Row := rows0
def gl0 : List (Str × GK) := [("enumerate", .blt), ("isinstance", .blt), ("list", .blt), ("sorted", .blt), ("tuple", .blt), ("KindLook", .fn "KindLook"), ("NUMBERS", .con "NUMBERS"), ("UNKNOWN", .con "UNKNOWN"), ("_law_due", .fn "_law_due"), ("_law_expr", .fn "_law_expr"), ("_law_kind", .fn "_law_kind"), ("_law_mixed", .fn "_law_mixed"), ("_law_row", .fn "_law_row"), ("_law_tree", .fn "_law_tree"), ("_law_wrong", .fn "_law_wrong"), ("add_kind_part", .fn "add_kind_part"), ("lifted_tree", .fn "lifted_tree"), ("plain_kinds", .fn "plain_kinds"), ("shared_kinds", .fn "shared_kinds"), ("law", .fn "law")]
def gl : List (Str × GK) := gl0
def fa0 : List He.Fa := [.free "enumerate", .free "isinstance", .free "list", .free "sorted", .free "tuple", .glo "KindLook", .glo "NUMBERS", .str "UNKNOWN" "", .glo "_law_due", .glo "_law_expr", .glo "_law_kind", .glo "_law_mixed", .glo "_law_row", .glo "_law_tree", .glo "_law_wrong", .glo "add_kind_part", .glo "lifted_tree", .glo "plain_kinds", .glo "shared_kinds", .glo "law", .mkr "KindLook", .cls "KindLook", .meth "KindLook" "walk", .meth "KindLook" "step", .meth "KindLook" "due", .meth "KindLook" "kinds_of", .meth "KindLook" "kinds_of_operator", .meth "KindLook" "note", .noat "KindLook" "faults", .noat "KindLook" "defs"]
def fa1 : List He.Fa := [.noat "KindLook" "records"]
def fa : List He.Fa := fa0 ++ fa1
def names0 : List Str := ["__name__", "lifted_tree", "mask_without", "UNKNOWN", "NUMBERS", "add_kind_part", "KindLook", "shared_kinds", "plain_kinds", "_law_cell_at", "_law_mixed", "_law_expr", "_law_kind", "_law_wrong", "_law_row", "_law_tree", "_law_due"]
def names : List Str := names0
def fn : List He.DefD := [D0, D1, D2, D3, D4, D5, D6, D7, D8, D9, D10, D11, D12, D13, D14, D15, D16, D17, D18]
def tab : Tabl := ⟨rows, ["KindLook"], [("KindLook", "walk"), ("KindLook", "step"), ("KindLook", "due"), ("KindLook", "kinds_of"), ("KindLook", "kinds_of_operator"), ("KindLook", "note")], [("NUMBERS", .ktp [.str [43], .str [45], .str [42], .str [108, 101, 115, 115], .str [115, 97, 109, 101]]), ("UNKNOWN", .str [])], [("KindLook", "faults"), ("KindLook", "defs"), ("KindLook", "records")], gl, fa, [], [], [], [], [], []⟩
theorem tab_ok : tabB tab = true := by decide +kernel
theorem fns : Fns tab := ⟨rfl, rfl, rfl, rfl, rfl, rfl, rfl, rfl, rfl, rfl, rfl, rfl, rfl, rfl, rfl, rfl, rfl, rfl, rfl, rfl, rfl, rfl, rfl, rfl, rfl, rfl, rfl, rfl, by decide, by decide, by decide⟩
abbrev R : PySem.W.OpenRow := PySem.W.OpenLaw.row PySem.Challenge.rw_manymakes_k41_kinds_of_operators
abbrev hk : PySem.W.Hook := hookX 4 fa fn tab.xs tab.lamA
def ob (s : PySem.W.SharedT) : He.AlD × Bool := obsX 4 fa fn tab.xs tab.lamA (HandSHeadRun.getT s)
theorem ob_eq (s : PySem.W.SharedT) : ob s = hk.obs s.abs := obsX_eq (HandSHeadRun.getT_eq s)
theorem run (w : World) : HandSHeadRun.RunEq R (PySem.W.view R.prog [19]) hk ob 20000 names w := by
  intro os
  kernel_rfl
theorem law_end (ok : LawOk tab.prog) : PySem.Challenge.rw_manymakes_k41_kinds_of_operators.Holds := by
  w_on; o_law
  refine HandSHeadRun.head_any (r := R) (q := PySem.W.view R.prog [19]) (H := hk) (ob := ob) (M := 20000) (loose := names) (d := HandSHeadRun.topDef R.prog 19) (kwd := []) ob_eq
    (by kernel_rfl) (fun s => by kernel_rfl) run (by kernel_rfl) (by kernel_rfl) (by kernel_rfl) (by rfl) (by first | assumption | decide +kernel) (by decide +kernel) ⟨rfl, rfl, rfl, rfl, rfl, by decide +kernel⟩ ?hw ?hc
  case hw => w_witness2
  case hc => exact walk_law (t := tab) (fn := fn) (fa := fa) (N := 4) (m := b_law) (fun w h y => y) rfl rfl tab_ok rfl (by kernel_rfl) (by kernel_rfl) ⟨rfl, by decide, by decide⟩ rfl rfl rfl ok
end Lk41
end
section
set_option maxHeartbeats 4000000
namespace Lk41
open MP
local macro_rules | `(tactic| open_z) => `(tactic| simp (disch := first | assumption | omega | decide) only [E_lit_1, E_lit_2, E_lit_4, E_var, E_glb, kVar_some, E_bop, E_neg, E_inv, E_not, E_lg, E_cmp, E_chn, E_isn, E_ntn, E_ife, E_call, E_bif, E_mth, E_bmt, E_fld, E_idx, E_slc, E_lst, E_tup, E_dct, E_dctT, E_cmpr, E_lrng, E_revl, E_srtd, E_isi, Es_nil, Es_cons, L_one, L_two, E_frz, O_no, O_some, I_pl, I_r1, I_r2, I_r3, k_11_1, k_11_2, k_11_3, I_zp, k_11_7, k_11_8, I_en, I_items, I_rv, S_exp, S_asg, S_asgT, S_sfl, S_ssb, S_aug, S_ret, S_ife, S_loop, S_whl, S_rai, E_xisi, E_xfld, E_srtk, E_srtf, E_calld, E_cmprD, S_loopD, k_13_1, k_13_2, k_13_3, k_13_4, k_13_5, k_13_6, k_13_7, k_13_8, k_13_9, k_13_10, k_13_11, k_13_12, H_nil, H_cons, S_try, S_frz, S_tryR, S_thru, S_nev, S_pas, Ss_nil, Ss_cons, k_1_1, k_1_2, k_1_3, k_1_4, k_1_5, k_1_6, k_1_7, k_1_8, k_2_1, k_2_2, k_2_3, k_2_4, k_2_5, k_2_6, k_2_8, k_2_9, k_3_1, k_3_2, k_3_3, k_3_4, k_3_5, k_3_6, k_3_7, k_3_8, k_3_9, k_4_1, k_4_2, k_4_3, k_4_4, k_4_5, k_4_7, k_4_8, k_4_9, k_5_2, k_14_1, k_14_2, k_5_3, k_5_4, k_5_5, k_5_6, k_6_1, k_6_2, k_6_3, k_6_4, k_7_1, k_7_2, k_7_3, k_7_4, k_7_5, k_7_6, k_7_7, k_7_8, k_8_1, k_8_2, k_8_3, k_8_4, k_8_5, k_8_6, k_8_7R, k_8_8R, k_8_9R, k_8_7, k_8_8, k_8_9, k_9_1, k_9_2, k_9_3, k_9_4, k_9_5, k_9_6, k_9_7, k_9_8, k_9_9, k_9_10, k_10_1, k_10_2, k_10_3, k_10_4, k_10_5, k_10_6, k_12_1, k_12_2, k_12_3, k_12_4, k_12_5, k_12_6, k_12_7, k_12_8, k_12_9, k_12_10, k_12_11, k_10_8, g_1_1, g_1_2, g_1_3, g_1_4, g_1_5, g_1_6, g_1_7, r_1_1, r_1_2, r_1_4, r_1_5, r_1_6, r_2_1, r_2_2, r_2_3, r_3, s_1_1, s_1_2, s_1_3, s_1_4, s_1_5, s_1_6, swipe_1_1, swipe_1_2, o_2_1, o_2_2, o_3_7, o_3_8, o_3_9, o_3_10, o_3_11, o_3_12, o_4_1, o_4_2, o_4_4, o_4_5, o_4_6, o_4_7, o_4_9, o_4_10, o_4_11, o_4_12, o_5_4, o_5_5, o_5_6, o_7_4, o_7_5, o_7_6, q_lit, q_add_nn, q_add_zn, q_add_nz, q_add_zz, q_sub_nn, q_sub_p, q_sub_lt, q_sub_zn, q_sub_nz, q_sub_zz, q_mul_nn, q_mul_zn, q_mul_nz, q_mul_s, q_mul_zz, q_div_nn, q_div_zn, q_mod_nn, q_mod_zn, q_shl_nn, q_shr_nn, q_shr_zn, q_and_nn, q_or_nn, q_xor_nn, q_pow_nn, q_lt_nn, q_le_nn, q_gt_nn, q_ge_nn, q_eq_nn, q_ne_nn, q_lt_zn, q_le_zn, q_gt_zn, q_ge_zn, q_eq_zn, q_ne_zn, q_tru_n, q_tru_z, q_neg_n, q_neg_z, q_inv_n, q_isin0, q_isiz0, q_isin1, q_isiz1, q_isin2, q_isiz2, q_isin3, q_isiz3, q_isin4, q_isiz4, q_isin5, q_isiz5, q_isN_n, q_isN_z, q_isN_r, q_aug_nn, q_aug_zn, q_aug_sn, q_src1, q_src2, q_srcR, q_srcEt, q_srcZ1, q_srcZ2, q_srcZ3, q_srcZ4, q_srcE, q_lrng, q_len_s, q_len_t, q_len_r, q_min_nn, q_max_nn, q_int_b, q_int_n, q_list_r, q_list_t, q_tuple_r, q_tuple_t, q_cat_r, q_idx_r, q_idx_t, q_idx_s, q_last_r, q_last_t, q_kO, q_kOz, frz_up, frz_n, frz_z, frz_s, frz_b, frz_t, frz_r, frz_0, fz_up, fz_r, fz_t, fz_n, fz_s, fz_none, u_app, u_kind, u_len, u_tru, u_idx, u_idx, u_last, u_cat, u_ext, u_src, s_kind, s_join, s_split, s_starts, s_bits_n, s_kindI, q_all, q_any, y_1, y_2, y_3, y_4, y_5, y_6, y_7, y_8, y_9, y_10, y_11, j_idx, j_last, j_len, j_cat, j_isi, u_isi, j_con, fl_eq, fl_ne, fl_nil, fp_eq, fp_ne, fp_nil, j_fld, u_fld, j_mth, u_mth, j_mtl, u_sfl, j_sfl, u_pop2, j_cat2, j_ext2, j_pop2, j_ext, frz_at, fz_at, j_rai0, j_rai0k, j_rai1, j_rai2, j_rai1k, j_rai2k, j_hsT, j_hsF, j_xi0, j_xi1, j_xiT, j_xf, q_cat_t, j_setl, u_setl, j_dkind, j_didx, j_dset, j_din, j_dnin, j_dget, j_dget1, j_dsdf, j_dsdn, j_dlen, j_dtru, u_dkind, u_didx, u_dset, u_din, u_dnin, u_dget, u_dlen, kFl_some, mthD_none, dec_sing, dec_cn, dec_nc, n_isn1, n_isn2, kWh_t, kWh_f, lBody_nm, lBody_tp, kSome_eq, kCnd_t, kCnd_f, c_nm, c_nmI, c_tp, c_tpI, if_not, ife_not, wh_not, del_up, up_up, List.map_cons, List.map_nil, List.replicate_zero, List.replicate_succ, List.cons_append, List.nil_append, List.length_cons, List.length_nil, List.length_map, List.length_range, List.length_reverse, List.getLast?_concat, Nat.add_sub_cancel, List.length_append, Nat.reduceAdd, Nat.reduceSub, Nat.reduceMul, Nat.zero_add, Nat.add_zero, Nat.reduceSucc, true_and, and_true, Bool.not_true, Bool.not_false, Bool.not_not, up_same, Nat.one_mul, List.getElem?_map, Option.map_some, Option.map_none, List.getElem?_cons_zero, List.getElem?_cons_succ, List.getElem?_range, List.getElem?_eq_getElem, List.getElem_map, List.getElem_range, List.isEmpty_cons, List.isEmpty_nil, decide_eq_true, decide_eq_false, cut_drop, cut_take, cut_both, cut_init, cut_all, reduceIte, enum_map, szv, dlook_eq, dlook_ne, dlook_nil, Option.isSome_some, Option.isSome_none, Option.getD_some, Option.getD_none, E_dctT, ← List.map_take, ← List.map_drop, ← List.map_dropLast, h_1_1, h_1_2, h_1_3, h_1_6, h_1_7, h_1_8, h_1_9, h_1_10, h_1_11, z_0, z_1, z_2, z_3, z_4, z_5, z_6, z_7, z_8, z_9, z_10, z_11, z_12, z_13, z_14, z_15, z_16, z_17, z_18, z_19, z_20, z_21, z_22, z_23, z_24, z_25, z_26, z_27, z_28, z_29, z_30, z_31, z_32, z_33, z_34, z_35, z_36, z_37, z_38, z_39, z_40, z_41, z_42, h_add, lk_1, lk_2, lk_3, srt_1, srt_2, srt_3, rev_1, rev_2, srd_1, clr_1])
local macro_rules | `(tactic| open_k) => `(tactic| repeat' (first | open_z | (with_reducible refine And.intro ?_ ?_; focus (first | exact True.intro | omega | decide | assumption | exact Nat.two_pow_pos _ | (simp only [szv, List.length_cons, List.length_nil, List.length_append, List.length_map, List.length_range]; omega) | (refine cdivN ?_ ?_ <;> omega) | (refine cdiv2 ?_; omega) | (refine cshl64 ?_ ?_ <;> omega) | (refine cmul64 ?_ ?_ <;> omega) | (refine b62_nat ?_; omega) | exact ⟨b62_nat (by omega), b62_nat (by omega)⟩ | exact ⟨b62_nat (by omega), by omega⟩ | (refine ⟨?_, ?_⟩ <;> first | assumption | omega | decide) | (refine cshlN (by assumption) ?_; omega))) | (with_reducible refine new_f ?_ ?_; focus (first | exact True.intro | omega | decide | assumption | exact Nat.two_pow_pos _ | (simp only [szv, List.length_cons, List.length_nil, List.length_append, List.length_map, List.length_range]; omega) | (refine cdivN ?_ ?_ <;> omega) | (refine cdiv2 ?_; omega) | (refine cshl64 ?_ ?_ <;> omega) | (refine cmul64 ?_ ?_ <;> omega) | (refine b62_nat ?_; omega) | exact ⟨b62_nat (by omega), b62_nat (by omega)⟩ | exact ⟨b62_nat (by omega), by omega⟩ | (refine ⟨?_, ?_⟩ <;> first | assumption | omega | decide) | (refine cshlN (by assumption) ?_; omega))) | (with_reducible refine lst_f ?_ ?_; focus (first | exact True.intro | omega | decide | assumption | exact Nat.two_pow_pos _ | (simp only [szv, List.length_cons, List.length_nil, List.length_append, List.length_map, List.length_range]; omega) | (refine cdivN ?_ ?_ <;> omega) | (refine cdiv2 ?_; omega) | (refine cshl64 ?_ ?_ <;> omega) | (refine cmul64 ?_ ?_ <;> omega) | (refine b62_nat ?_; omega) | exact ⟨b62_nat (by omega), b62_nat (by omega)⟩ | exact ⟨b62_nat (by omega), by omega⟩ | (refine ⟨?_, ?_⟩ <;> first | assumption | omega | decide) | (refine cshlN (by assumption) ?_; omega)))))
/-! ### expressions -/
inductive KE where
  | nu (a : Nat)
  | tr (y : Bool)
  | no (e : KE)
  | op (w : Nat) (l r : KE)
def NUM : List Nat := [110, 117, 109]
def TRU : List Nat := [116, 114, 117, 116, 104]
def opw : Nat → List Nat
  | 0 => [43] | 1 => [45] | 2 => [42] | 3 => [108, 101, 115, 115] | 4 => [115, 97, 109, 101] | 5 => [97, 110, 100] | _ => [111, 114]
def kv : KE → Val
  | .nu a => .tup [.str NUM, nv a]
  | .tr y => .tup [.str TRU, .str (if y then [121, 101, 115] else [110, 111])]
  | .no e => .tup [.str [110, 111, 116], kv e]
  | .op w l r => .tup [.str (opw w), kv l, kv r]
/-- a number -/
def kd : KE → Bool
  | .nu _ => true
  | .tr _ => false
  | .no _ => false
  | .op w _ _ => decide (w < 3)
def wr : KE → Bool
  | .nu _ => false
  | .tr _ => false
  | .no e => (kd e) || wr e
  | .op w l r => ((kd l != decide (w < 5)) || wr l) || ((kd r != decide (w < 5)) || wr r)
def kok : KE → Prop
  | .nu _ => True
  | .tr _ => True
  | .no e => kok e
  | .op w l r => w < 7 ∧ kok l ∧ kok r
def dpe : KE → Nat
  | .nu _ => 0
  | .tr _ => 0
  | .no e => dpe e + 1
  | .op _ l r => max (dpe l) (dpe r) + 1
def kdn (b : Bool) : List Nat := if b then NUM else TRU
theorem w_cases {w : Nat} (h : w < 7) : w = 0 ∨ w = 1 ∨ w = 2 ∨ w = 3 ∨ w = 4 ∨ w = 5 ∨ w = 6 := by omega
def A3 : List (List Nat) := [[43], [45], [42]]
def A5 : List (List Nat) := [[43], [45], [42], [108, 101, 115, 115], [115, 97, 109, 101]]
theorem tA3 : ∀ z ∈ A3, tOk z := by unfold tOk; decide
theorem tA5 : ∀ z ∈ A5, tOk z := by unfold tOk; decide
theorem t_opw {w : Nat} (h : w < 7) : tOk (opw w) := by
  rcases w_cases h with rfl | rfl | rfl | rfl | rfl | rfl | rfl <;> (unfold tOk opw; decide)
theorem opw_3 {w : Nat} (h : w < 7) : decide (opw w ∈ A3) = decide (w < 3) := by
  rcases w_cases h with rfl | rfl | rfl | rfl | rfl | rfl | rfl <;> decide
theorem opw_5 {w : Nat} (h : w < 7) : decide (opw w ∈ A5) = decide (w < 5) := by
  rcases w_cases h with rfl | rfl | rfl | rfl | rfl | rfl | rfl <;> decide
theorem opw_n {w : Nat} (h : w < 7) : opw w ≠ NUM ∧ opw w ≠ TRU ∧ opw w ≠ [110, 97, 109, 101] ∧ opw w ≠ [100, 111] ∧ opw w ≠ [110, 101, 119] ∧ opw w ≠ [111, 102] ∧ opw w ≠ [110, 111, 116] := by
  rcases w_cases h with rfl | rfl | rfl | rfl | rfl | rfl | rfl <;> decide
theorem not_3 : decide ([110, 111, 116] ∈ A3) = false := by decide
theorem not_5 : decide ([110, 111, 116] ∈ A5) = false := by decide
theorem tru_3 : decide (TRU ∈ A3) = false := by decide
theorem tnot : tOk [110, 111, 116] := by unfold tOk; decide
theorem ttru : tOk TRU := by unfold tOk; decide
section
variable {t : Tabl} {d : Nat} {h : VH} {Q : KV} {X : KX}
theorem kind_ok (F : Fns t) {e : KE} (he : kok e) (q : Q (.str (kdn (kd e))) h) : Sem t.prog (d + 1) "_law_kind" [kv e] h Q X := by
  refine Sem_fn F.f__law_kind rfl ?_
  unfold b__law_kind
  cases e with
  | nu a =>
    unfold kv NUM
    open_k
    exact q
  | tr y =>
    unfold kv
    have n1 : ¬ TRU = [110, 117, 109] := by decide
    open_k
    refine in_t (zs := A3) ttru tA3 ?_
    rw [tru_3]
    open_k
    exact q
  | no e =>
    unfold kv
    open_k
    refine in_t (zs := A3) tnot tA3 ?_
    rw [not_3]
    open_k
    exact q
  | op w l r =>
    have hw := he.1
    obtain ⟨n1, n2, n3, n4, n5, n6, n7⟩ := opw_n hw
    have n1 : ¬ opw w = [110, 117, 109] := n1
    unfold kv
    open_k
    refine in_t (zs := A3) (t_opw hw) tA3 ?_
    rw [opw_3 hw]
    rw [show kd (.op w l r) = decide (w < 3) from rfl] at q
    by_cases c : w < 3
    · rw [decide_eq_true c] at q ⊢
      open_k
      exact q
    · rw [decide_eq_false c] at q ⊢
      open_k
      exact q
theorem wrong_ok (F : Fns t) : ∀ (e : KE) (d : Nat) (h : VH) (Q : KV), kok e → Q (.bl (wr e)) h → Sem t.prog (d + dpe e + 2) "_law_wrong" [kv e] h Q X
  | .nu a, d, h, Q, he, q => by
    refine Sem_fn F.f__law_wrong rfl ?_
    unfold b__law_wrong kv NUM
    open_k
    exact q
  | .tr y, d, h, Q, he, q => by
    refine Sem_fn F.f__law_wrong rfl ?_
    unfold b__law_wrong kv TRU
    open_k
    exact q
  | .no e, d, h, Q, he, q => by
    refine Sem_fn (d := d + (dpe e + 1) + 1) F.f__law_wrong rfl ?_
    have ih := fun d h Q => wrong_ok F e d h Q
    unfold b__law_wrong kv
    open_k
    refine in_t (zs := A5) tnot tA5 ?_
    rw [not_5]
    open_k
    refine loop_pre (Sem.le _ _) [e] kv (fun pre σ h' => h' = h ∧ (∀ x ∈ pre, kd x = false ∧ wr x = false) ∧ ∃ o2, σ = [some (.tup [.str [110, 111, 116], kv e]), some (.str [116, 114, 117, 116, 104]), o2]) ⟨rfl, (fun _ z => nomatch z), _, rfl⟩ ?_ ?_
    · rintro pre x post σ h' ex ⟨rfl, hp, o2, rfl⟩
      have hx : x = e := List.mem_singleton.mp (by rw [ex]; simp)
      subst hx
      refine ⟨True.intro, ?_⟩
      open_k
      refine kind_ok (d := d + (dpe x + 1)) F he ?_
      open_k
      cases ck : kd x with
      | true =>
        unfold kdn NUM
        open_k
        rw [show wr (.no x) = (kd x || wr x) from rfl, ck] at q
        exact q
      | false =>
        unfold kdn TRU
        open_k
        refine Sem.up (d := d + dpe x + 2) (by omega) (ih d h' _ he ?_)
        open_k
        cases cw : wr x with
        | true =>
          open_k
          rw [show wr (.no x) = (kd x || wr x) from rfl, ck, cw] at q
          exact q
        | false =>
          open_k
          exact ⟨fun y hy => by
            rcases List.mem_append.mp hy with hy | hy
            · exact hp y hy
            · rw [List.mem_singleton.mp hy]; exact ⟨ck, cw⟩, _, rfl⟩
    · rintro σ h' ⟨rfl, hp, o2, rfl⟩
      refine ⟨True.intro, ?_⟩
      open_k
      rw [show wr (.no e) = (kd e || wr e) from rfl, (hp e (by simp)).1, (hp e (by simp)).2] at q
      exact q
  | .op w l r, d, h, Q, he, q => by
    refine Sem_fn (d := d + (max (dpe l) (dpe r) + 1) + 1) F.f__law_wrong rfl ?_
    have ihl := fun d h Q => wrong_ok F l d h Q
    have ihr := fun d h Q => wrong_ok F r d h Q
    have hw := he.1
    obtain ⟨n1, n2, n3, n4, n5, n6, n7⟩ := opw_n hw
    have n1 : ¬ opw w = [110, 117, 109] := n1
    have n2 : ¬ opw w = [116, 114, 117, 116, 104] := n2
    unfold b__law_wrong kv
    open_k
    refine in_t (zs := A5) (t_opw hw) tA5 ?_
    rw [opw_5 hw]
    open_k
    refine if_join (Sem.le _ _) (fun σ h' => h' = h ∧ σ = [some (.tup [.str (opw w), kv l, kv r]), some (.str (kdn (decide (w < 5)))), none]) ?_ ?_
    · by_cases c : w < 5
      · rw [decide_eq_true c]
        open_k
        rfl
      · rw [decide_eq_false c]
        open_k
        rfl
    rintro σ h' ⟨rfl, rfl⟩
    have kk : ∀ b c : Bool, (kdn b = kdn c) ↔ b = c := by decide
    have hwr : wr (.op w l r) = (((kd l != decide (w < 5)) || wr l) || ((kd r != decide (w < 5)) || wr r)) := rfl
    generalize decide (w < 5) = b at hwr ⊢
    open_k
    refine loop_pre (Sem.le _ _) [l, r] kv (fun pre σ h2 => h2 = h' ∧ (∀ x ∈ pre, kd x = b ∧ wr x = false) ∧ ∃ o2, σ = [some (.tup [.str (opw w), kv l, kv r]), some (.str (kdn b)), o2]) ⟨rfl, (fun _ z => nomatch z), _, rfl⟩ ?_ ?_
    · rintro pre x post σ h2 ex ⟨rfl, hp, o2, rfl⟩
      have hx : x = l ∨ x = r := by
        have : x ∈ [l, r] := by rw [ex]; simp
        simpa using this
      obtain ⟨k1, k2, k3, ih⟩ : kok x ∧ dpe x ≤ max (dpe l) (dpe r) ∧ (kd x ≠ b ∨ wr x = true → wr (.op w l r) = true) ∧ ∀ (d : Nat) (h : VH) (Q : KV), kok x → Q (.bl (wr x)) h → Sem t.prog (d + dpe x + 2) "_law_wrong" [kv x] h Q X := by
        rcases hx with rfl | rfl
        · exact ⟨he.2.1, Nat.le_max_left _ _, fun z => by rw [hwr]; rcases z with z | z <;> simp [z], ihl⟩
        · exact ⟨he.2.2, Nat.le_max_right _ _, fun z => by rw [hwr]; rcases z with z | z <;> simp [z], ihr⟩
      refine ⟨True.intro, ?_⟩
      open_k
      refine kind_ok (d := d + (max (dpe l) (dpe r) + 1)) F k1 ?_
      open_k
      rw [show decide (kdn (kd x) = kdn b) = decide (kd x = b) from decide_eq_decide.mpr (kk _ _)]
      by_cases ck : kd x = b
      · rw [decide_eq_true ck]
        open_k
        refine Sem.up (d := d + dpe x + 2) (by omega) (ih d h2 _ k1 ?_)
        open_k
        cases cw : wr x with
        | true =>
          open_k
          rw [k3 (.inr cw)] at q
          exact q
        | false =>
          open_k
          exact ⟨fun y hy => by
            rcases List.mem_append.mp hy with hy | hy
            · exact hp y hy
            · rw [List.mem_singleton.mp hy]; exact ⟨ck, cw⟩, _, rfl⟩
      · rw [decide_eq_false ck]
        open_k
        rw [k3 (.inl ck)] at q
        exact q
    · rintro σ h2 ⟨rfl, hp, o2, rfl⟩
      refine ⟨True.intro, ?_⟩
      open_k
      have hl := hp l (by simp)
      have hr := hp r (by simp)
      rw [hwr, hl.1, hl.2, hr.1, hr.2] at q
      simpa using q
end
theorem bits_add {I : Int} {k E : Nat} (h : PySem.Builtin.Int.intBits I ≤ E) (hk : k < 2 ^ E) : PySem.Builtin.Int.intBits (I + (k : Int)) ≤ E + 1 := by
  refine PyProof.Rows.intBits_le ?_
  have h1 := PyProof.Rows.natAbs_lt_pow_bits I
  have h2 : 2 ^ PySem.Builtin.Int.intBits I ≤ 2 ^ E := Nat.pow_le_pow_right (by decide) h
  have h3 := Int.natAbs_add_le I k
  rw [Int.natAbs_natCast] at h3
  rw [Nat.pow_succ]
  omega
theorem bits_add64 {I : Int} {k E : Nat} (h : PySem.Builtin.Int.intBits I ≤ E) (hE : 64 ≤ E) (hk : k < 18446744073709551616) : PySem.Builtin.Int.intBits (I + (k : Int)) ≤ E + 1 :=
  bits_add h (Nat.lt_of_lt_of_le (m := 2 ^ 64) hk (Nat.pow_le_pow_right (by decide) hE))
/-! ### the law's tree -/
def mixF (I : Int) (k : Nat) : Nat := imod ((I + ((7919 * k : Nat) : Int) + ((1 : Nat) : Int)) * ((48271 : Nat) : Int)) 2147483647 * (imod ((I + ((7919 * k : Nat) : Int) + ((1 : Nat) : Int)) * ((48271 : Nat) : Int)) 2147483647 / 1009 + 69621) % 2147483647
def mixN (a k : Nat) : Nat := mixF (a : Int) k
theorem mixF_lt (I : Int) (k : Nat) : mixF I k < 2147483647 := Nat.mod_lt _ (by decide)
theorem mixN_lt (a k : Nat) : mixN a k < 2147483647 := mixF_lt _ _
def chF (x : Nat) (b : Bool) : Bool := if x % 8 = 7 then decide (x / 8 % 2 = 0) else b
def leafF (x : Nat) (c : Bool) : KE := if c = true then .nu ((x / 8) ^ 2 % 10 ^ 18) else .tr (decide (x / 8 % 2 = 0))
def exF (x : Nat) (b : Bool) : Nat → KE
  | 0 => leafF x (chF x b)
  | k + 1 => if x % 8 < 2 then leafF x (chF x b)
    else if chF x b = true then .op (x / 8 % 3) (exF (mixN x 1) true k) (exF (mixN x 2) true k)
    else if x / 8 % 5 = 4 then .no (exF (mixN x 1) false k)
    else .op (3 + x / 8 % 5) (exF (mixN x 1) (decide (x / 8 % 5 < 2)) k) (exF (mixN x 2) (decide (x / 8 % 5 < 2)) k)
theorem leaf_okk (x : Nat) (c : Bool) : kok (leafF x c) ∧ dpe (leafF x c) = 0 := by
  unfold leafF
  split <;> exact ⟨True.intro, rfl⟩
theorem exF_ok : ∀ (k x : Nat) (b : Bool), kok (exF x b k) ∧ dpe (exF x b k) ≤ k
  | 0, x, b => ⟨(leaf_okk _ _).1, Nat.le_of_eq (leaf_okk _ _).2⟩
  | k + 1, x, b => by
    rw [exF]
    have h1 : ∀ y c, kok (exF y c k) ∧ dpe (exF y c k) ≤ k := fun y c => exF_ok k y c
    split
    · exact ⟨(leaf_okk _ _).1, by rw [(leaf_okk _ _).2]; omega⟩
    · have e3 : x / 8 % 3 < 3 := Nat.mod_lt _ (by decide)
      have e5 : x / 8 % 5 < 5 := Nat.mod_lt _ (by decide)
      have two : ∀ {w : Nat} {l r : KE}, w < 7 → (kok l ∧ dpe l ≤ k) → (kok r ∧ dpe r ≤ k) → kok (.op w l r) ∧ dpe (.op w l r) ≤ k + 1 := fun {w l r} hw hl hr => ⟨⟨hw, hl.1, hr.1⟩, by show max (dpe l) (dpe r) + 1 ≤ k + 1; have := hl.2; have := hr.2; omega⟩
      generalize chF x b = c
      cases c with
      | true => exact two (by omega) (h1 _ _) (h1 _ _)
      | false =>
        rw [if_neg (by decide)]
        split
        · exact ⟨(h1 _ _).1, by show dpe _ + 1 ≤ k + 1; have := (h1 (mixN x 1) false).2; omega⟩
        · exact two (by omega) (h1 _ _) (h1 _ _)
section
variable {t : Tabl} {d : Nat} {h : VH} {Q : KV} {X : KX}
theorem mixed_ok (F : Fns t) {I : Int} {k : Nat} (hI : PySem.Builtin.Int.intBits I ≤ 1048576) (hk : k < 1000000) (q : Q (nv (mixF I k)) h) : Sem t.prog (d + 1) "_law_mixed" [zv I, nv k] h Q X := by
  refine Sem_fn F.f__law_mixed rfl ?_
  unfold b__law_mixed
  have hc : CMul (I + ((7919 * k : Nat) : Int) + ((1 : Nat) : Int)) ((48271 : Nat) : Int) := cmulZ (Nat.le_trans (bits_add64 (bits_add64 hI (by decide) (by omega)) (by decide) (by decide)) (by decide)) (by decide)
  unfold mixF at q
  open_k
  have hy : imod ((I + ((7919 * k : Nat) : Int) + ((1 : Nat) : Int)) * ((48271 : Nat) : Int)) 2147483647 < 2147483647 := imod_lt (by decide)
  generalize imod ((I + ((7919 * k : Nat) : Int) + ((1 : Nat) : Int)) * ((48271 : Nat) : Int)) 2147483647 = y at hy q ⊢
  open_k
  exact q
theorem mixedN_ok (F : Fns t) {a k : Nat} (ha : a < 18446744073709551616) (hk : k < 1000000) (q : Q (nv (mixN a k)) h) : Sem t.prog (d + 1) "_law_mixed" [nv a, nv k] h Q X :=
  mixed_ok F (I := (a : Int)) (Nat.le_trans (PyProof.Rows.intBits_le (k := 64) (by rw [Int.natAbs_natCast]; exact ha)) (by decide)) hk q
theorem expr_ok (F : Fns t) : ∀ (k x : Nat) (b : Bool) (d : Nat) (h : VH) (Q : KV), x < 2147483647 → k ≤ 100 → Q (kv (exF x b k)) h → Sem t.prog (d + k + 2) "_law_expr" [nv x, .str (kdn b), nv k] h Q X := by
  intro k
  induction k with
  | zero =>
    intro x b d h Q hx hk q
    refine Sem_fn (d := d + 1) F.f__law_expr rfl ?_
    unfold b__law_expr
    have hc : CPow ((x / 8 : Nat) : Int) ((2 : Nat) : Int) := ⟨by decide, by decide, by rw [Int.natAbs_natCast]; omega⟩
    have hc2 : CPow ((10 : Nat) : Int) ((18 : Nat) : Int) := by unfold CPow; decide
    have hp18 : 0 < 10 ^ 18 := by decide
    open_k
    refine if_join (Sem.le _ _) (fun σ h' => h' = h ∧ σ = [some (nv x), some (.str (kdn (chF x b))), some (nv 0), some (nv (x % 8)), some (nv (x / 8)), none, none, none]) ?_ ?_
    · refine if_dec (fun c => ?_) (fun c => ?_)
      · rw [show chF x b = decide (x / 8 % 2 = 0) from if_pos c]
        open_k
        rcases (show x / 8 % 2 = 0 ∨ x / 8 % 2 = 1 by omega) with e | e <;> (rw [e]; open_k; rfl)
      · rw [show chF x b = b from if_neg c]
        open_k
    rintro σ h' ⟨rfl, rfl⟩
    rw [exF] at q
    generalize chF x b = c at q ⊢
    unfold leafF at q
    cases c with
    | true =>
      unfold kdn NUM
      open_k
      exact q
    | false =>
      unfold kdn TRU
      open_k
      rcases (show x / 8 % 2 = 0 ∨ x / 8 % 2 = 1 by omega) with e | e <;> (rw [e] at q ⊢; open_k; exact q)
  | succ k ih =>
    intro x b d h Q hx hk q
    refine Sem_fn (d := d + (k + 1) + 1) F.f__law_expr rfl ?_
    unfold b__law_expr
    have hc : CPow ((x / 8 : Nat) : Int) ((2 : Nat) : Int) := ⟨by decide, by decide, by rw [Int.natAbs_natCast]; omega⟩
    have hc2 : CPow ((10 : Nat) : Int) ((18 : Nat) : Int) := by unfold CPow; decide
    have hp18 : 0 < 10 ^ 18 := by decide
    open_k
    refine if_join (Sem.le _ _) (fun σ h' => h' = h ∧ σ = [some (nv x), some (.str (kdn (chF x b))), some (nv (k + 1)), some (nv (x % 8)), some (nv (x / 8)), none, none, none]) ?_ ?_
    · refine if_dec (fun c => ?_) (fun c => ?_)
      · rw [show chF x b = decide (x / 8 % 2 = 0) from if_pos c]
        open_k
        rcases (show x / 8 % 2 = 0 ∨ x / 8 % 2 = 1 by omega) with e | e <;> (rw [e]; open_k; rfl)
      · rw [show chF x b = b from if_neg c]
        open_k
    rintro σ h' ⟨rfl, rfl⟩
    rw [exF] at q
    generalize chF x b = c at q ⊢
    by_cases c2 : x % 8 < 2
    · rw [if_pos c2] at q
      unfold leafF at q
      cases c with
      | true =>
        unfold kdn NUM
        open_k
        exact q
      | false =>
        unfold kdn TRU
        open_k
        rcases (show x / 8 % 2 = 0 ∨ x / 8 % 2 = 1 by omega) with e | e <;> (rw [e] at q ⊢; open_k; exact q)
    rw [if_neg c2] at q
    have h3 : x / 8 % 3 < 3 := Nat.mod_lt _ (by decide)
    have h5 : x / 8 % 5 < 5 := Nat.mod_lt _ (by decide)
    have m1 := mixN_lt x 1
    have m2 := mixN_lt x 2
    cases c with
    | true =>
      rw [if_pos rfl] at q
      have e3 : ∀ w (hw : w < 3), ([Val.str [43], .str [45], .str [42]] : List Val)[w] = .str (opw w) := by
        intro w hw
        rcases (show w = 0 ∨ w = 1 ∨ w = 2 by omega) with rfl | rfl | rfl <;> rfl
      unfold kdn NUM
      open_k
      rw [e3 _ h3]
      generalize x / 8 % 3 = w at h3 q ⊢
      refine in_t (zs := A5) (t_opw (by omega)) tA5 ?_
      rw [opw_5 (by omega), decide_eq_true (show w < 5 by omega)]
      open_k
      refine mixedN_ok (d := d + (k + 1)) F (by omega) (by decide) ?_
      open_k
      refine Sem.up (d := d + k + 2) (by omega) (ih _ true d _ _ m1 (by omega) ?_)
      have n7 := (opw_n (show w < 7 by omega)).2.2.2.2.2.2
      open_k
      refine mixedN_ok (d := d + (k + 1)) F (by omega) (by decide) ?_
      open_k
      refine Sem.up (d := d + k + 2) (by omega) (ih _ true d _ _ m2 (by omega) ?_)
      open_k
      exact q
    | false =>
      rw [if_neg (by decide)] at q
      have e5 : ∀ w (hw : w < 5), ([Val.str [108, 101, 115, 115], .str [115, 97, 109, 101], .str [97, 110, 100], .str [111, 114], .str [110, 111, 116]] : List Val)[w] = .str (if w = 4 then [110, 111, 116] else opw (3 + w)) := by
        intro w hw
        rcases (show w = 0 ∨ w = 1 ∨ w = 2 ∨ w = 3 ∨ w = 4 by omega) with rfl | rfl | rfl | rfl | rfl <;> rfl
      unfold kdn TRU
      open_k
      rw [e5 _ h5]
      generalize x / 8 % 5 = w at h5 q ⊢
      by_cases w4 : w = 4
      · rw [if_pos w4] at q ⊢
        refine in_t (zs := A5) tnot tA5 ?_
        rw [not_5]
        open_k
        refine mixedN_ok (d := d + (k + 1)) F (by omega) (by decide) ?_
        open_k
        refine Sem.up (d := d + k + 2) (by omega) (ih _ false d _ _ m1 (by omega) ?_)
        open_k
        exact q
      · rw [if_neg w4] at q ⊢
        refine in_t (zs := A5) (t_opw (by omega)) tA5 ?_
        rw [opw_5 (by omega), show decide (3 + w < 5) = decide (w < 2) from decide_eq_decide.mpr (by omega)]
        have n7 := (opw_n (show 3 + w < 7 by omega)).2.2.2.2.2.2
        open_k
        refine if_join (Sem.le _ _) (fun σ h2 => h2 = h' ∧ σ = [some (nv x), some (.str [116, 114, 117, 116, 104]), some (nv (k + 1)), some (nv (x % 8)), some (nv (x / 8)), some (.str (kdn (decide (w < 2)))), none, some (.str (opw (3 + w)))]) ?_ ?_
        · by_cases c : w < 2
          · rw [decide_eq_true c]
            open_k
            rfl
          · rw [decide_eq_false c]
            open_k
            rfl
        rintro σ h2 ⟨rfl, rfl⟩
        open_k
        refine mixedN_ok (d := d + (k + 1)) F (by omega) (by decide) ?_
        open_k
        refine Sem.up (d := d + k + 2) (by omega) (ih _ (decide (w < 2)) d _ _ m1 (by omega) ?_)
        open_k
        refine mixedN_ok (d := d + (k + 1)) F (by omega) (by decide) ?_
        open_k
        refine Sem.up (d := d + k + 2) (by omega) (ih _ (decide (w < 2)) d _ _ m2 (by omega) ?_)
        open_k
        exact q
end
inductive KR where
  | t (a : Nat) (e : KE)
  | w (a : Nat) (e : KE)
  | i (a : Nat) (e : KE) (o : Option KE)
def tV (a : Nat) (e : KE) : Val := .tup [.str [116, 101, 108, 108], nv a, kv e]
def rv : KR → Val
  | .t a e => tV a e
  | .w a e => .tup [.str [119, 104, 105, 108, 101], nv a, kv e, .rls []]
  | .i a e none => .tup [.str [105, 102], nv a, kv e, .rls [], .rls []]
  | .i a e (some f) => .tup [.str [105, 102], nv a, kv e, .rls [], .rls [tV (a + 2) f]]
def eF (x : Nat) : KE := exF (mixN x 3) (decide (x / 4 % 2 = 0)) (x / 8 % 6)
def rowF (x a : Nat) : KR :=
  if x % 4 < 2 then .t a (eF x)
  else if x % 4 = 2 then .w a (eF x)
  else if a % 3 = 0 ∧ x / 64 % 2 = 1 then .i a (eF x) (some (eF (4 * mixN x 5)))
  else .i a (eF x) none
def treeF (cs : List Int) : List KR := cs.zipIdx.map fun p => rowF (mixF p.1 p.2) (3 * p.2)
section
variable {t : Tabl} {d : Nat} {h : VH} {Q : KV} {X : KX}
theorem e_ok (F : Fns t) {x : Nat} {Qe : KV} (q : Qe (kv (eF x)) h) : Sem t.prog (d + 7) "_law_expr" [nv (mixN x 3), .str (kdn (decide (x / 4 % 2 = 0))), nv (x / 8 % 6)] h Qe X := by
  have h6 : x / 8 % 6 < 6 := Nat.mod_lt _ (by decide)
  exact Sem.up (d := d + x / 8 % 6 + 2) (by omega) (expr_ok F _ _ _ d _ _ (mixN_lt _ _) (by omega) q)
theorem kdn_at {x : Nat} {K : Option Val → Prop} (q : K (some (.str (kdn (decide (x / 4 % 2 = 0)))))) : K ([Val.str [110, 117, 109], .str [116, 114, 117, 116, 104]][x / 4 % 2]?) := by
  rcases (show x / 4 % 2 = 0 ∨ x / 4 % 2 = 1 by omega) with e | e <;> (rw [e] at q ⊢; exact q)
theorem kdn_ix {x : Nat} (hx : x / 4 % 2 < [Val.str [110, 117, 109], .str [116, 114, 117, 116, 104]].length) : [Val.str [110, 117, 109], .str [116, 114, 117, 116, 104]][x / 4 % 2] = .str (kdn (decide (x / 4 % 2 = 0))) := by
  have : ∀ y (hy : y < 2), [Val.str [110, 117, 109], .str [116, 114, 117, 116, 104]][y] = .str (kdn (decide (y = 0))) := by
    intro y hy
    rcases (show y = 0 ∨ y = 1 by omega) with rfl | rfl <;> rfl
  exact this _ hx
theorem tell_row_ok (F : Fns t) {x a : Nat} (hx : x < 18446744073709551616) (hl : x % 4 < 2) (q : Q (tV a (eF x)) h) : Sem t.prog (d + 8) "_law_row" [nv x, nv a] h Q X := by
  refine Sem_fn (d := d + 7) F.f__law_row rfl ?_
  unfold b__law_row
  have h2 : x / 4 % 2 < 2 := Nat.mod_lt _ (by decide)
  open_k
  refine mixedN_ok (d := d + 6) F hx (by decide) ?_
  open_k
  rw [kdn_ix]
  open_k
  refine e_ok F ?_
  open_k
  exact q
theorem row_ok (F : Fns t) {x a : Nat} (hx : x < 2147483647) (q : Q (rv (rowF x a)) h) : Sem t.prog (d + 9) "_law_row" [nv x, nv a] h Q X := by
  unfold rowF at q
  by_cases c1 : x % 4 < 2
  · rw [if_pos c1] at q
    exact tell_row_ok (d := d + 1) F (by omega) c1 q
  rw [if_neg c1] at q
  refine Sem_fn (d := d + 8) F.f__law_row rfl ?_
  unfold b__law_row
  have h2 : x / 4 % 2 < 2 := Nat.mod_lt _ (by decide)
  open_k
  refine mixedN_ok (d := d + 7) F (by omega) (by decide) ?_
  open_k
  rw [kdn_ix]
  open_k
  refine e_ok (d := d + 1) F ?_
  open_k
  by_cases c2 : x % 4 = 2
  · rw [if_pos c2] at q
    open_k
    exact q
  rw [if_neg c2] at q
  open_k
  by_cases c3 : a % 3 = 0
  · by_cases c4 : x / 64 % 2 = 1
    · rw [if_pos ⟨c3, c4⟩] at q
      open_k
      refine mixedN_ok (d := d + 7) F (by omega) (by decide) ?_
      have m5 := mixN_lt x 5
      open_k
      refine tell_row_ok (d := d) F (by omega) (by omega) ?_
      open_k
      exact q
    · rw [if_neg (fun z => c4 z.2)] at q
      open_k
      exact q
  · rw [if_neg (fun z => c3 z.1)] at q
    open_k
    exact q
theorem tree_ok (F : Fns t) {ns : List Int} (hb : ∀ z ∈ ns, PySem.Builtin.Int.intBits z ≤ 1048576) (q : Q (.rls ((treeF (ns.take 12)).map rv)) h) : Sem t.prog (d + 10) "_law_tree" [.rls (ns.map zv)] h Q X := by
  refine Sem_fn (d := d + 9) F.f__law_tree rfl ?_
  unfold b__law_tree
  open_k
  have hl : (ns.take 12).length ≤ 12 := by rw [List.length_take]; omega
  have hb2 : ∀ z ∈ ns.take 12, PySem.Builtin.Int.intBits z ≤ 1048576 := fun z hz => hb z (List.mem_of_mem_take hz)
  generalize ns.take 12 = cs at hl hb2 q ⊢
  refine comp_map (Sem.le _ _) cs.zipIdx (fun p => .tup [nv p.2, zv p.1]) (fun p => some (rv (rowF (mixF p.1 p.2) (3 * p.2)))) (by rw [List.length_zipIdx, szv]; omega) rfl (fun p hp h' k q2 => ?_) ?_
  · obtain ⟨hi, e⟩ := List.mem_zipIdx hp |> fun z => (⟨by omega, z.2.2⟩ : p.2 < 12 ∧ _)
    have hz : p.1 ∈ cs := by
      obtain ⟨_, _, z⟩ := List.mem_zipIdx hp
      rw [z]
      exact List.getElem_mem _
    open_k
    refine mixed_ok (d := d + 8) F (hb2 _ hz) (by omega) ?_
    open_k
    refine row_ok (d := d) F (mixF_lt _ _) ?_
    open_k
    exact q2
  · rw [filter_all]
    unfold treeF at q
    rw [List.map_map] at q
    open_k
    exact q
end
/-! ### what is due -/
def KND : List Nat := [107, 105, 110, 100]
def dk (p : Nat × Bool) : Val := .tup [nv p.1, .str (if p.2 then KND else TRU)]
def d1 (a : Nat) (e : KE) : List (Nat × Bool) := if wr e = true then [(a, true)] else []
def d2 (a : Nat) (e : KE) : List (Nat × Bool) := if kd e = true then [(a, false)] else []
def dueR : KR → List (Nat × Bool)
  | .t a e => d1 a e
  | .w a e => d1 a e ++ d2 a e
  | .i a e none => d1 a e ++ d2 a e
  | .i a e (some f) => d1 a e ++ d2 a e ++ d1 (a + 2) f
def due (rs : List KR) : List (Nat × Bool) := rs.flatMap dueR
def rok : KR → Prop
  | .t _ e => kok e ∧ dpe e ≤ 5
  | .w _ e => kok e ∧ dpe e ≤ 5
  | .i _ e none => kok e ∧ dpe e ≤ 5
  | .i _ e (some f) => (kok e ∧ dpe e ≤ 5) ∧ kok f ∧ dpe f ≤ 5
theorem eF_ok (x : Nat) : kok (eF x) ∧ dpe (eF x) ≤ 5 := by
  obtain ⟨h1, h2⟩ := exF_ok (x / 8 % 6) (mixN x 3) (decide (x / 4 % 2 = 0))
  exact ⟨h1, Nat.le_trans h2 (by omega)⟩
theorem rowF_ok (x a : Nat) : rok (rowF x a) := by
  unfold rowF
  split
  · exact eF_ok _
  split
  · exact eF_ok _
  split
  · exact ⟨eF_ok _, eF_ok _⟩
  · exact eF_ok _
def rwd : KR → List Nat
  | .t _ _ => [116, 101, 108, 108]
  | .w _ _ => [119, 104, 105, 108, 101]
  | .i _ _ _ => [105, 102]
def ra : KR → Nat
  | .t a _ => a
  | .w a _ => a
  | .i a _ _ => a
def re : KR → KE
  | .t _ e => e
  | .w _ e => e
  | .i _ e _ => e
def rbl : KR → List (List KR)
  | .t _ _ => []
  | .w _ _ => [[]]
  | .i _ _ none => [[], []]
  | .i a _ (some f) => [[], [.t (a + 2) f]]
theorem rbl_len : ∀ r : KR, (rbl r).length ≤ 2
  | .t _ _ => Nat.zero_le _
  | .w _ _ => Nat.le_succ _
  | .i _ _ none => Nat.le_refl _
  | .i _ _ (some _) => Nat.le_refl _
def bV (b : List KR) : Val := .rls (b.map rv)
theorem rv_eq : ∀ r : KR, rv r = .tup (.str (rwd r) :: nv (ra r) :: kv (re r) :: (rbl r).map bV)
  | .t _ _ => rfl
  | .w _ _ => rfl
  | .i _ _ none => rfl
  | .i _ _ (some _) => rfl
def d2R (r : KR) : List (Nat × Bool) := if rwd r = [116, 101, 108, 108] then [] else d2 (ra r) (re r)
theorem dueR_eq : ∀ r : KR, dueR r = d1 (ra r) (re r) ++ d2R r ++ (rbl r).flatMap due
  | .t _ _ => by simp [dueR, d2R, rwd, ra, re, rbl]
  | .w _ _ => by simp [dueR, d2R, rwd, ra, re, rbl, due]
  | .i _ _ none => by simp [dueR, d2R, rwd, ra, re, rbl, due]
  | .i _ _ (some _) => by simp [dueR, d2R, rwd, ra, re, rbl, due]
theorem rok_e : ∀ {r : KR}, rok r → kok (re r) ∧ dpe (re r) ≤ 5
  | .t _ _, h => h
  | .w _ _, h => h
  | .i _ _ none, h => h
  | .i _ _ (some _), h => h.1
theorem rok_b : ∀ {r : KR}, rok r → ∀ b ∈ rbl r, b.length ≤ 1 ∧ ∀ r' ∈ b, rok r' ∧ rbl r' = []
  | .t _ _, h, b, hb => by cases hb
  | .w _ _, h, b, hb => by rw [List.mem_singleton.mp hb]; exact ⟨by decide, fun r hr => nomatch hr⟩
  | .i _ _ none, h, b, hb => by
    have : b = [] := by simpa [rbl] using hb
    rw [this]; exact ⟨by decide, fun r hr => nomatch hr⟩
  | .i a _ (some f), h, b, hb => by
    have : b = [] ∨ b = [.t (a + 2) f] := by simpa [rbl] using hb
    rcases this with rfl | rfl
    · exact ⟨by decide, fun r hr => nomatch hr⟩
    · exact ⟨Nat.le_refl _, fun r hr => by rw [List.mem_singleton.mp hr]; exact ⟨h.2, rfl⟩⟩
theorem d1_len (a : Nat) (e : KE) : (d1 a e).length ≤ 1 := by unfold d1; split <;> simp
theorem d2_len (a : Nat) (e : KE) : (d2 a e).length ≤ 1 := by unfold d2; split <;> simp
theorem dueR_len : ∀ r : KR, (dueR r).length ≤ 3
  | .t a e => by have := d1_len a e; show (d1 a e).length ≤ 3; omega
  | .w a e => by have := d1_len a e; have := d2_len a e; show (d1 a e ++ d2 a e).length ≤ 3; rw [List.length_append]; omega
  | .i a e none => by have := d1_len a e; have := d2_len a e; show (d1 a e ++ d2 a e).length ≤ 3; rw [List.length_append]; omega
  | .i a e (some f) => by have := d1_len a e; have := d2_len a e; have := d1_len (a + 2) f; show (d1 a e ++ d2 a e ++ d1 (a + 2) f).length ≤ 3; rw [List.length_append, List.length_append]; omega
theorem due_len : ∀ rs : List KR, (due rs).length ≤ 3 * rs.length
  | [] => Nat.le_refl _
  | r :: rs => by
    have h1 := dueR_len r
    have h2 := due_len rs
    show (dueR r ++ due rs).length ≤ _
    rw [List.length_append, List.length_cons]
    omega
section
variable {t : Tabl} {d : Nat} {h : VH} {Q : KV} {X : KX}
theorem ss_join {Γ : Gam} {D : Ds} {s : S} {ss : Ss} {σ : VS} {h : VH} (L : Le Γ Γ) (R : VS → VH → Prop) (h1 : wpSs Γ (.cons s .nil) σ h (D.into R)) (h2 : ∀ σ h, R σ h → wpSs Γ ss σ h D) : wpSs Γ (.cons s ss) σ h D := by
  simp only [wpSs] at h1 ⊢
  refine wpS_mono L s σ h _ _ ?_ h1
  exact ⟨fun σ h q => h2 σ h q, fun _ _ q => q, fun _ _ _ q => q⟩
theorem due_snoc (pre : List KR) (r : KR) : due (pre ++ [r]) = due pre ++ dueR r := by unfold due; rw [List.flatMap_append, List.flatMap_cons, List.flatMap_nil, List.append_nil]
theorem due_gen (F : Fns t) {rs : List KR} (hr : ∀ r ∈ rs, rok r) (hl : rs.length ≤ 12)
    (hB : ∀ r ∈ rs, ∀ b ∈ rbl r, ∀ (h : VH) (Q : KV), (∀ h', Ext h h' → Q (.rls ((due b).map dk)) h') → Sem t.prog (d + 8) "_law_due" [.rls (b.map rv)] h Q X)
    (q : ∀ h', Ext h h' → Q (.rls ((due rs).map dk)) h') : Sem t.prog (d + 9) "_law_due" [.rls (rs.map rv)] h Q X := by
  refine Sem_fn (d := d + 8) F.f__law_due rfl ?_
  unfold b__law_due
  open_k
  refine lst_r (by decide) fun p hp => ?_
  open_k
  refine loop_pre (Sem.le _ _) rs rv (fun pre σ h' => ∃ (p : Nat) (o2 o3 : Option Val), h p = none ∧ Ext h h' ∧ h' p = some (.lst ((due pre).map dk)) ∧ σ = [some (.rls (rs.map rv)), some (.ref p), o2, o3]) ⟨p, _, _, hp, Ext.up hp, up_same, rfl⟩ ?_ ?_
  · rintro pre r post σ h1 er ⟨p, o2, o3, hp, x1, e1, rfl⟩
    have hrm : r ∈ rs := by rw [er]; simp
    obtain ⟨k1, k2⟩ := rok_e (hr r hrm)
    have hpl : pre.length < 12 := by
      have := congrArg List.length er
      rw [List.length_append, List.length_cons] at this
      omega
    have hdl := due_len pre
    refine ⟨True.intro, ?_⟩
    rw [rv_eq]
    have hB := hB r hrm
    rw [due_snoc, dueR_eq]
    unfold d2R
    rw [← List.append_assoc, ← List.append_assoc]
    have hbs : ∀ b ∈ rbl r, (due b).length ≤ 3 := fun b hb => Nat.le_trans (due_len b) (by have := (rok_b (hr r hrm) b hb).1; omega)
    have hbl2 := rbl_len r
    generalize rbl r = bs at hB hbs hbl2 ⊢
    generalize rwd r = wd
    generalize re r = e at k1 k2 ⊢
    generalize ra r = a
    open_k
    refine Sem.up (d := d + dpe e + 2) (by omega) (wrong_ok F e d h1 _ k1 ?_)
    open_k
    have h1l := d1_len a e
    have h2l := d2_len a e
    refine if_join (Sem.le _ _) (fun σ h' => Ext h h' ∧ h' p = some (.lst ((due pre ++ d1 a e).map dk)) ∧ σ = [some (.rls (rs.map rv)), some (.ref p), some (.tup (.str wd :: nv a :: kv e :: bs.map bV)), o3]) ?_ ?_
    · cases cw : wr e with
      | true =>
        have e2 : up h1 p (.lst ((due pre).map dk ++ [.tup [nv a, .str [107, 105, 110, 100]]])) p = some (.lst ((due pre ++ d1 a e).map dk)) := by
          rw [up_same, List.map_append]
          unfold d1
          rw [if_pos cw]
          rfl
        have x2 : Ext h (up h1 p (.lst ((due pre).map dk ++ [.tup [nv a, .str [107, 105, 110, 100]]]))) := x1.up2 hp
        open_k
        first | exact ⟨x2, e2⟩ | (rw [up_same] at e2; first | exact ⟨x2, e2⟩ | exact e2 | exact x2)
      | false =>
        have e2 : h1 p = some (.lst ((due pre ++ d1 a e).map dk)) := by
          unfold d1
          rw [if_neg (by rw [cw]; decide), List.append_nil]
          exact e1
        open_k
        first | done | exact e2 | (rw [e1] at e2; exact e2) | exact ⟨x1, e2⟩
    rintro σ h2 ⟨x2, e2, rfl⟩
    have hl2 : (due pre ++ d1 a e).length < 50 := by rw [List.length_append]; omega
    refine ss_join (Sem.le _ _) (fun σ h' => Ext h h' ∧ h' p = some (.lst ((due pre ++ d1 a e ++ (if wd = [116, 101, 108, 108] then [] else d2 a e)).map dk)) ∧ σ = [some (.rls (rs.map rv)), some (.ref p), some (.tup (.str wd :: nv a :: kv e :: bs.map bV)), o3]) ?_ ?_
    · by_cases cw : wd = [116, 101, 108, 108]
      · rw [if_pos cw, List.append_nil]
        open_k
        first | done | exact e2 | exact ⟨x2, e2⟩
      · rw [if_neg cw]
        open_k
        refine kind_ok (d := d + 7) F k1 ?_
        unfold d2
        cases ck : kd e with
        | true =>
          have e4 : up h2 p (.lst ((due pre ++ d1 a e).map dk ++ [.tup [nv a, .str [116, 114, 117, 116, 104]]])) p = some (.lst ((due pre ++ d1 a e ++ [(a, false)]).map dk)) := by
            rw [up_same, List.map_append (l₁ := due pre ++ d1 a e)]
            rfl
          have x4 : Ext h (up h2 p (.lst ((due pre ++ d1 a e).map dk ++ [.tup [nv a, .str [116, 114, 117, 116, 104]]]))) := x2.up2 hp
          unfold kdn NUM
          rw [if_pos rfl]
          open_k
          first | done | exact ⟨x4, e4⟩ | (rw [up_same] at e4; first | exact ⟨x4, e4⟩ | exact e4 | exact x4)
        | false =>
          unfold kdn TRU
          open_k
          rw [if_neg (by decide), List.append_nil]
          first | done | exact e2 | exact ⟨x2, e2⟩
    rintro σ h3 ⟨x3, e3, rfl⟩
    have hl3 : (due pre ++ d1 a e ++ (if wd = [116, 101, 108, 108] then [] else d2 a e)).length < 100 := by
      rw [List.length_append]
      split
      · simp; omega
      · omega
    generalize due pre ++ d1 a e ++ (if wd = [116, 101, 108, 108] then [] else d2 a e) = acc at e3 hl3 ⊢
    clear e2 hl2 e1 x1 x2
    have hbl : ∀ b ∈ bs, (due b).length ≤ 3 := hbs
    open_k
    refine loop_pre (Sem.le _ _) bs bV (fun pb σ h' => ∃ (p : Nat) (o3 : Option Val), h p = none ∧ Ext h h' ∧ h' p = some (.lst ((acc ++ pb.flatMap due).map dk)) ∧ σ = [some (.rls (rs.map rv)), some (.ref p), some (.tup (.str wd :: nv a :: kv e :: bs.map bV)), o3]) ⟨p, _, hp, x3, by rw [List.flatMap_nil, List.append_nil]; exact e3, rfl⟩ ?_ ?_
    · rintro pb b pc σ h4 eb ⟨p, o3, hp, x4, e4, rfl⟩
      have hbm : b ∈ bs := by rw [eb]; simp
      have hlb : (acc ++ pb.flatMap due).length < 1000 := by
        have h1 : (pb.flatMap due).length ≤ 3 * pb.length := by
          have : ∀ l : List (List KR), (∀ b ∈ l, (due b).length ≤ 3) → (l.flatMap due).length ≤ 3 * l.length := by
            intro l
            induction l with
            | nil => intro _; exact Nat.le_refl _
            | cons c l ih =>
              intro hc
              have := hc c List.mem_cons_self
              have := ih fun z hz => hc z (List.mem_cons_of_mem _ hz)
              rw [List.flatMap_cons, List.length_append, List.length_cons]
              omega
          exact this pb fun z hz => hbl z (by rw [eb]; simp [hz])
        have : pb.length ≤ 2 := by
          have := congrArg List.length eb
          rw [List.length_append, List.length_cons] at this
          omega
        rw [List.length_append]
        omega
      have := hbl b hbm
      refine ⟨True.intro, ?_⟩
      unfold bV
      open_k
      refine hB b hbm h4 _ fun h5 x5 => ?_
      have e5 := x5 _ _ e4
      have et : acc ++ (pb ++ [b]).flatMap due = (acc ++ pb.flatMap due) ++ due b := by rw [List.flatMap_append, List.flatMap_cons, List.flatMap_nil, List.append_nil, List.append_assoc]
      rw [List.length_append] at hlb
      open_k
      refine new_r (by omega) fun p6 hp6 => ?_
      open_k
      refine ⟨p6, _, (x4.trans x5).free hp6, (x4.trans x5).up2 ((x4.trans x5).free hp6), ?_, rfl⟩
      rw [et]
      generalize acc ++ pb.flatMap due = ac
      first | (rw [up_same, List.map_append]; done) | (rw [List.map_append]; done)
    · rintro σ h4 ⟨p, o3, hp, x4, e4, rfl⟩
      refine ⟨True.intro, ?_⟩
      open_k
      exact ⟨p, _, _, hp, x4, e4, rfl⟩
  · rintro σ h1 ⟨p, o2, o3, hp, x1, e1, rfl⟩
    refine ⟨True.intro, ?_⟩
    have hdl := due_len rs
    open_k
    exact q _ (x1.del hp)
theorem due0_ok (F : Fns t) {rs : List KR} (hr : ∀ r ∈ rs, rok r ∧ rbl r = []) (hl : rs.length ≤ 12) (q : ∀ h', Ext h h' → Q (.rls ((due rs).map dk)) h') : Sem t.prog (d + 9) "_law_due" [.rls (rs.map rv)] h Q X :=
  due_gen F (fun r h => (hr r h).1) hl (fun r h b hb => by rw [(hr r h).2] at hb; cases hb) q
theorem due_ok (F : Fns t) {rs : List KR} (hr : ∀ r ∈ rs, rok r) (hl : rs.length ≤ 12) (q : ∀ h', Ext h h' → Q (.rls ((due rs).map dk)) h') : Sem t.prog (d + 10) "_law_due" [.rls (rs.map rv)] h Q X :=
  due_gen (d := d + 1) F hr hl (fun r h b hb h2 Q2 q2 => due0_ok (d := d) F (rok_b (hr r h) b hb).2 (Nat.le_trans (rok_b (hr r h) b hb).1 (by decide)) q2) q
end
/-! ### the looker -/
def fk (p : Nat × Bool) : Val × Val := (dk p, nv 1)
def nt (F : List (Nat × Bool)) (k : Nat × Bool) : List (Nat × Bool) := if k ∈ F then F else F ++ [k]
theorem nt_nt (F : List (Nat × Bool)) (k : Nat × Bool) : nt (nt F k) k = nt F k := by
  unfold nt
  by_cases c : k ∈ F
  · rw [if_pos c, if_pos c]
  · rw [if_neg c, if_pos (by simp)]
def ntB (F : List (Nat × Bool)) (k : Nat × Bool) (b : Bool) : List (Nat × Bool) := if b then nt F k else F
theorem nt_ntB (F : List (Nat × Bool)) (k : Nat × Bool) (b : Bool) : nt (ntB F k b) k = nt F k := by
  cases b with
  | true => exact nt_nt F k
  | false => rfl
theorem dk_inj {p q : Nat × Bool} (e : dk p = dk q) : p = q := by
  obtain ⟨a, b⟩ := p
  obtain ⟨c, d⟩ := q
  unfold dk at e
  injection e with e
  injection e with e1 e2
  injection e2 with e2 _
  have e1 : a = c := nv_inj.mp e1
  injection e2 with e2
  subst e1
  have kt : KND ≠ TRU := by decide
  have : b = d := by
    cases b <;> cases d
    · rfl
    · exact absurd e2.symm kt
    · exact absurd e2 kt
    · rfl
  rw [this]
theorem fk_look (F : List (Nat × Bool)) (k : Nat × Bool) : dlook (dk k) (F.map fk) = if k ∈ F then some (nv 1) else none := by
  induction F with
  | nil => rfl
  | cons p F ih =>
    show (if dk k = dk p then some (nv 1) else dlook (dk k) (F.map fk)) = _
    by_cases c : k = p
    · rw [if_pos (by rw [c]), if_pos (by rw [c]; exact List.mem_cons_self)]
    · rw [if_neg (fun e => c (dk_inj e)), ih]
      by_cases c2 : k ∈ F
      · rw [if_pos c2, if_pos (List.mem_cons_of_mem _ c2)]
      · rw [if_neg c2, if_neg (fun h => (List.mem_cons.mp h).elim c c2)]
theorem fk_put (F : List (Nat × Bool)) (k : Nat × Bool) : dput (dk k) (nv 1) (F.map fk) = (nt F k).map fk := by
  unfold dput nt
  have e : ((F.map fk).any fun p => decide (p.1 = dk k)) = decide (k ∈ F) := by
    rw [List.any_map]
    rw [Bool.eq_iff_iff, List.any_eq_true, decide_eq_true_eq]
    exact ⟨fun ⟨p, hp, h⟩ => by
      have : dk p = dk k := of_decide_eq_true h
      rw [← dk_inj this]; exact hp, fun h => ⟨k, h, decide_eq_true rfl⟩⟩
  rw [e]
  by_cases c : k ∈ F
  · rw [decide_eq_true c, if_pos rfl, if_pos c]
    rw [List.map_map]
    exact List.map_congr_left fun p _ => by
      show (if (fk p).1 = dk k then ((fk p).1, nv 1) else fk p) = fk p
      split <;> rfl
  · rw [decide_eq_false c, if_neg (by decide), if_neg c, List.map_append]
    rfl
def lookO (pf pd pr : Nat) : Obj := .ins "KindLook" [("faults", .ref pf), ("defs", .ref pd), ("records", .ref pr)]
def wh (b : Bool) : List Nat := if b then KND else TRU
section
variable {t : Tabl} {d : Nat} {h : VH} {Q : KV} {X : KX} {pL pf pd pr : Nat} {F0 : List (Nat × Bool)}
theorem note_ok (F : Fns t) {a : Nat} {b : Bool} (hL : h pL = some (lookO pf pd pr)) (hf : h pf = some (.dic true (F0.map fk))) (hl : F0.length < 1000) (q : Q .non (up h pf (.dic true ((nt F0 (a, b)).map fk)))) : Sem t.prog (d + 1) "KindLook.note" [.ref pL, nv 1, nv a, .str (wh b)] h Q X := by
  refine Sem_fn F.f_KindLook_note rfl ?_
  unfold b_KindLook_note
  unfold lookO at hL
  have hk : keyB true (.tup [nv a, .str (wh b)]) = true := rfl
  have e1 : dlook (.tup [nv a, .str (wh b)]) (F0.map fk) = if (a, b) ∈ F0 then some (nv 1) else none := fk_look F0 (a, b)
  have e2 : dput (.tup [nv a, .str (wh b)]) (nv 1) (F0.map fk) = (nt F0 (a, b)).map fk := fk_put F0 (a, b)
  have e3 : (if (a, b) ∈ F0 then some (nv 1) else none).getD (nv 0) = nv 1 ∨ (if (a, b) ∈ F0 then some (nv 1) else none).getD (nv 0) = nv 0 := by split <;> simp
  have hlen : (F0.map fk).length < 16777216 := by rw [List.length_map]; omega
  open_k
  rw [e1]
  rcases e3 with e3 | e3
  · rw [e3]
    open_k
    rw [show (1 ||| 1 : Nat) = 1 from rfl, e2]
    exact q
  · rw [e3]
    open_k
    rw [show (0 ||| 1 : Nat) = 1 from rfl, e2]
    exact q
theorem nin_t {a : List Nat} {h : VH} {K : Bool → Prop} {zs : List (List Nat)} (ha : tOk a) (hz : ∀ z ∈ zs, tOk z) (w : K (!decide (a ∈ zs))) : (cmpR .nmem (.str a) (.tup (zs.map .str)) h).wp K := by
  have e2 : cmpR .nmem (.str a) (.tup (zs.map .str)) h = (cmpR .mem (.str a) (.tup (zs.map .str)) h).not := rfl
  have e3 : cmpR .mem (.str a) (.tup (zs.map .str)) h = .ex (memData (.str a) (zs.map .str) h) := rfl
  have m := in_t (h := h) (K := fun b => b = decide (a ∈ zs)) ha hz rfl
  rw [e2, e3]
  rw [e3] at m
  obtain ⟨b, mb, rfl⟩ := m
  exact ⟨_, by show memData _ _ _ (!(!decide (a ∈ zs))); rw [Bool.not_not]; exact mb, w⟩
theorem due1_ok (F : Fns t) {a : Nat} {b c : Bool} {pp : Nat} {ks : List (List Nat)} (hks : ∀ z ∈ ks, tOk z) {what : List Nat} (hwh : ¬ kdn c ∈ ks → what = wh b) (hL : h pL = some (lookO pf pd pr)) (hf : h pf = some (.dic true (F0.map fk))) (hl : F0.length < 1000) (hp : h pp = some (.dic false [(.str (kdn c), nv 1)]))
    (q : ∀ h', XP pf h h' → h' pf = some (.dic true ((ntB F0 (a, b) (!decide (kdn c ∈ ks))).map fk)) → Q .non h') : Sem t.prog (d + 2) "KindLook.due" [.ref pL, .ref pp, .tup (ks.map .str), nv 1, nv a, .str what] h Q X := by
  refine Sem_fn (d := d + 1) F.f_KindLook_due rfl ?_
  have hU := F.c_UNKNOWN
  have hm := F.m_KindLook_note
  unfold b_KindLook_due
  have hpf : pp ≠ pf := fun e => by rw [e, hf] at hp; cases hp
  have hLp : pL ≠ pp := fun e => by unfold lookO at hL; rw [e, hp] at hL; cases hL
  have hLf : pL ≠ pf := fun e => by unfold lookO at hL; rw [e, hf] at hL; cases hL
  have tk : ∀ c : Bool, tOk (kdn c) := fun c => by cases c <;> (unfold tOk kdn; decide)
  have nk : ¬ kdn c = [] := by cases c <;> decide
  open_k
  have hLk : (up h pp (.lck false [(.str (kdn c), nv 1)])) pL = some (lookO pf pd pr) := by rw [up_ne hLp]; exact hL
  have hfk : (up h pp (.lck false [(.str (kdn c), nv 1)])) pf = some (.dic true (F0.map fk)) := by rw [up_ne hpf.symm]; exact hf
  refine loop_pre (Sem.le _ _) [()] (fun _ => Val.tup [.str (kdn c), nv 1]) (fun pre σ h' => ∃ o6 o7, σ = [some (.ref pL), some (.ref pp), some (.tup (ks.map .str)), some (nv 1), some (nv a), some (.str what), o6, o7] ∧ h' pp = some (.lck false [(.str (kdn c), nv 1)]) ∧ h' pL = some (lookO pf pd pr) ∧ (∀ x o, x ≠ pf → x ≠ pp → h x = some o → h' x = some o) ∧ h' pf = some (.dic true ((if pre = [] then F0 else ntB F0 (a, b) (!decide (kdn c ∈ ks))).map fk))) ⟨_, _, rfl, up_same, hLk, fun x o h1 h2 e => by rw [up_ne h2]; exact e, hfk⟩ ?_ ?_
  · rintro pre x post σ h1 ex ⟨o6, o7, rfl, w1, w2, w3, w4⟩
    have hpre : pre = [] := by
      have := congrArg List.length ex
      rw [List.length_append, List.length_cons] at this
      exact List.eq_nil_of_length_eq_zero (by simp at this; omega)
    rw [if_pos hpre] at w4
    rw [if_neg (by simp)]
    refine ⟨w1, ?_⟩
    open_k
    have w2' := w2
    unfold lookO at w2'
    by_cases ck : kdn c ∈ ks
    · refine nin_t (tk c) hks ?_
      rw [decide_eq_true ck]
      unfold ntB
      open_k
      exact ⟨_, _, rfl, w1, w2, w3, w4⟩
    · refine nin_t (tk c) hks ?_
      have hwb := hwh ck
      subst hwb
      rw [decide_eq_false ck]
      open_k
      refine note_ok (d := d) F w2 w4 hl ?_
      open_k
      exact ⟨_, _, rfl, by rw [up_ne hpf]; exact w1, by rw [up_ne hLf]; exact w2, fun x o h1 h2 e => by rw [up_ne h1]; exact w3 x o h1 h2 e, by first | rfl | (rw [up_same]; rfl)⟩
  · rintro σ h1 ⟨o6, o7, rfl, w1, w2, w3, w4⟩
    refine ⟨w1, ?_⟩
    rw [if_neg (by simp)] at w4
    open_k
    refine q _ (fun x o h1 e => ?_) (by rw [up_ne hpf.symm]; exact w4)
    by_cases hx : x = pp
    · subst hx
      rw [up_same, ← e, hp]
    · rw [up_ne hx]
      exact w3 x o h1 hx e
def NUMW : List (List Nat) := [[43], [45], [42], [108, 101, 115, 115], [115, 97, 109, 101]]
theorem ntB_or (F : List (Nat × Bool)) (k : Nat × Bool) (b c : Bool) : ntB (ntB F k b) k c = ntB F k (b || c) := by
  cases b <;> cases c <;> first | rfl | exact nt_nt F k
theorem ntB_len (F : List (Nat × Bool)) (k : Nat × Bool) (b : Bool) : (ntB F k b).length ≤ F.length + 1 := by
  unfold ntB nt
  split
  · split
    · omega
    · simp
  · omega
theorem nt_le (F : List (Nat × Bool)) (k : Nat × Bool) : F.length ≤ (nt F k).length := by
  unfold nt
  split
  · omega
  · simp
theorem nt_B (F : List (Nat × Bool)) (k : Nat × Bool) (b : Bool) : nt (ntB F k b) k = nt F k := nt_ntB F k b
theorem ntB_le (F : List (Nat × Bool)) (k : Nat × Bool) (b : Bool) : (ntB F k b).length ≤ (nt F k).length := by
  rw [← nt_ntB F k b]
  exact nt_le _ _
theorem mem_k {h : VH} {a : List Nat} {zs : List (List Nat)} {K : Bool → Prop} (ha : tOk a) (hz : ∀ z ∈ zs, tOk z) (w : K (decide (a ∈ zs))) : (cmpR .mem (.str a) (.ktp (zs.map .str)) h).wp K := ⟨_, mem_data ha hz, w⟩
def bad (w : Bool) (e : KE) : Bool := wr e || (kd e != w)
theorem kdn_mem (b w : Bool) : decide (kdn b ∈ [kdn w]) = (b == w) := by cases b <;> cases w <;> decide
theorem dct1 {Q : KV} {z : List Nat} (q : ∀ p, h p = none → Q (.ref p) (up h p (.dic false [(.str z, nv 1)]))) : ∀ p, h p = none → dctK p Q (up h p (.dic false [])) (pairsOf [.str z, nv 1]) := fun p hp =>
  dct_up (kvs := [(.str z, nv 1)]) rfl (Nat.le_of_ble_eq_true rfl) (q p hp)
def KOf (t : Tabl) (X : KX) (pL pf pd pr a : Nat) (vk : Val) (D : Nat) (e : KE) : Prop := ∀ (h : VH) (Q : KV) (F0 : List (Nat × Bool)), h pL = some (lookO pf pd pr) → h pf = some (.dic true (F0.map fk)) → (nt F0 (a, true)).length < 900 →
    (∀ pp h', XP pf h h' → h' pf = some (.dic true ((ntB F0 (a, true) (wr e)).map fk)) → h pp = none → h' pp = some (.dic false [(.str (kdn (kd e)), nv 1)]) → Q (.ref pp) h') →
    Sem t.prog D "KindLook.kinds_of" [.ref pL, kv e, nv 1, nv a, vk] h Q X
theorem oper_ok (F : Fns t) {vk : Val} {a D : Nat} {parts : List KE} {word : List Nat} {wb rb : Bool} (hw : tOk word) (h5 : decide (word ∈ NUMW) = wb) (h3 : decide (word ∈ A3) = rb) (hB : ∀ e ∈ parts, KOf t X pL pf pd pr a vk (D + 2) e)
    (hL : h pL = some (lookO pf pd pr)) (hf : h pf = some (.dic true (F0.map fk))) (hl : (nt F0 (a, true)).length < 900)
    (q : ∀ pp h', XP pf h h' → h' pf = some (.dic true ((ntB F0 (a, true) (parts.any (bad wb))).map fk)) → h pp = none → h' pp = some (.dic false [(.str (kdn rb), nv 1)]) → Q (.ref pp) h') :
    Sem t.prog (D + 3) "KindLook.kinds_of_operator" [.ref pL, .tup (.str word :: parts.map kv), nv 1, nv a, vk] h Q X := by
  refine Sem_fn (d := D + 2) F.f_KindLook_kinds_of_operator rfl ?_
  have hN := F.c_NUMBERS
  have m1 := F.m_KindLook_due
  have m2 := F.m_KindLook_kinds_of
  unfold b_KindLook_kinds_of_operator
  open_k
  refine mem_k (zs := NUMW) hw tA5 ?_
  rw [h5]
  open_k
  refine if_join (Sem.le _ _) (fun σ h' => h' = h ∧ σ = [some (.ref pL), some (.tup (.str word :: parts.map kv)), some (nv 1), some (nv a), some vk, some (.str (kdn wb)), none]) ?_ ?_
  · cases wb with
    | true =>
      open_k
      rfl
    | false =>
      open_k
      rfl
  rintro σ h1 ⟨rfl, rfl⟩
  have hL' := hL
  unfold lookO at hL'
  have tk : ∀ c : Bool, tOk (kdn c) := fun c => by cases c <;> (unfold tOk kdn; decide)
  open_k
  refine loop_pre (Sem.le _ _) parts kv (fun pre σ h' => ∃ o6, XP pf h1 h' ∧ h' pf = some (.dic true ((ntB F0 (a, true) (pre.any (bad wb))).map fk)) ∧ σ = [some (.ref pL), some (.tup (.str word :: parts.map kv)), some (nv 1), some (nv a), some vk, some (.str (kdn wb)), o6]) ⟨_, XP.refl, hf, rfl⟩ ?_ ?_
  · rintro pre e post σ h2 ex ⟨o6, x2, f2, rfl⟩
    have hLf : pL ≠ pf := fun e => by rw [e, hf] at hL'; cases hL'
    have hL2 := x2 _ _ hLf hL
    have hL2' := hL2
    unfold lookO at hL2'
    refine ⟨True.intro, ?_⟩
    open_k
    refine hB e (by rw [ex]; simp) h2 _ _ hL2 f2 (by rw [nt_ntB]; exact hl) fun pp h3 x3 f3 hpp e3 => ?_
    rw [ntB_or] at f3
    have hL3 := x3 _ _ hLf hL2
    open_k
    refine due1_ok (d := D) (b := true) (ks := [kdn wb]) F (fun z hz => by rw [List.mem_singleton.mp hz]; exact tk _) (fun _ => rfl) hL3 f3 (Nat.lt_of_le_of_lt (ntB_le _ _ _) (by omega)) e3 fun h4 x4 f4 => ?_
    rw [ntB_or, kdn_mem] at f4
    open_k
    refine ⟨_, (x2.trans x3).trans x4, ?_, rfl⟩
    rw [f4, List.any_append, List.any_cons, List.any_nil, Bool.or_false]
    unfold bad
    rw [← Bool.or_assoc]
    rfl
  · rintro σ h2 ⟨o6, x2, f2, rfl⟩
    refine ⟨True.intro, ?_⟩
    open_k
    refine in_t (zs := A3) hw tA3 ?_
    rw [h3]
    have fin : ∀ (z : List Nat), z = kdn rb → ∀ p, h2 p = none → Q (.ref p) (up h2 p (.dic false [(.str z, nv 1)])) := fun z hz p hp => by
      have hpf : p ≠ pf := fun e => by rw [e, f2] at hp; cases hp
      rw [hz]
      exact q p _ (x2.up2 (x2.free hpf hp)) (by rw [up_ne hpf.symm]; exact f2) (x2.free hpf hp) up_same
    cases rb with
    | true =>
      open_k
      exact dct1 (fin _ rfl)
    | false =>
      open_k
      exact dct1 (fin _ rfl)
theorem kinds_ok (F : Fns t) {vk : Val} {a : Nat} : ∀ (e : KE) (d : Nat), kok e → KOf t X pL pf pd pr a vk (d + 2 * dpe e + 4) e
  | .nu n, d, he => fun h Q F0 hL hf hl q => by
    refine Sem_fn (d := d + 3) F.f_KindLook_kinds_of rfl ?_
    unfold b_KindLook_kinds_of kv NUM
    open_k
    refine dct1 fun p hp => ?_
    have hpf : p ≠ pf := fun e => by rw [e, hf] at hp; cases hp
    exact q p _ (XP.refl.up2 hp) (by rw [up_ne hpf.symm]; exact hf) hp up_same
  | .tr y, d, he => fun h Q F0 hL hf hl q => by
    refine Sem_fn (d := d + 3) F.f_KindLook_kinds_of rfl ?_
    unfold b_KindLook_kinds_of kv TRU
    open_k
    refine dct1 fun p hp => ?_
    have hpf : p ≠ pf := fun e => by rw [e, hf] at hp; cases hp
    exact q p _ (XP.refl.up2 hp) (by rw [up_ne hpf.symm]; exact hf) hp up_same
  | .no e, d, he => fun h Q F0 hL hf hl q => by
    have ih := kinds_ok F (vk := vk) (a := a) e d he
    refine Sem_fn (d := d + 2 * dpe e + 5) F.f_KindLook_kinds_of rfl ?_
    have m1 := F.m_KindLook_kinds_of_operator
    have hL' := hL
    unfold lookO at hL'
    unfold b_KindLook_kinds_of kv
    open_k
    refine oper_ok (D := d + 2 * dpe e + 2) (parts := [e]) (wb := false) (rb := false) F tnot not_5 not_3 (fun x hx => by rw [List.mem_singleton.mp hx]; exact ih) hL hf hl fun pp h' x1 f1 hpp e1 => ?_
    have eb : [e].any (bad false) = wr (.no e) := by
      show ((wr e || (kd e != false)) || false) = (kd e || wr e)
      cases kd e <;> cases wr e <;> rfl
    rw [eb] at f1
    open_k
    exact q pp h' x1 f1 hpp e1
  | .op w l r, d, he => fun h Q F0 hL hf hl q => by
    have ihl := kinds_ok F (vk := vk) (a := a) l (d + 2 * (max (dpe l) (dpe r) - dpe l)) he.2.1
    have ihr := kinds_ok F (vk := vk) (a := a) r (d + 2 * (max (dpe l) (dpe r) - dpe r)) he.2.2
    have hw := he.1
    obtain ⟨n1, n2, n3, n4, n5, n6, n7⟩ := opw_n hw
    have n1 : ¬ opw w = [110, 117, 109] := n1
    have n2 : ¬ opw w = [116, 114, 117, 116, 104] := n2
    have hml := Nat.le_max_left (dpe l) (dpe r)
    have hmr := Nat.le_max_right (dpe l) (dpe r)
    rw [show d + 2 * (max (dpe l) (dpe r) - dpe l) + 2 * dpe l + 4 = d + 2 * max (dpe l) (dpe r) + 2 + 2 by omega] at ihl
    rw [show d + 2 * (max (dpe l) (dpe r) - dpe r) + 2 * dpe r + 4 = d + 2 * max (dpe l) (dpe r) + 2 + 2 by omega] at ihr
    refine Sem_fn (d := d + 2 * max (dpe l) (dpe r) + 5) F.f_KindLook_kinds_of rfl ?_
    have m1 := F.m_KindLook_kinds_of_operator
    have hL' := hL
    unfold lookO at hL'
    unfold b_KindLook_kinds_of kv
    open_k
    refine oper_ok (D := d + 2 * max (dpe l) (dpe r) + 2) (parts := [l, r]) (wb := decide (w < 5)) (rb := decide (w < 3)) F (t_opw hw) (opw_5 hw) (opw_3 hw) (fun x hx => by
      rcases List.mem_cons.mp hx with rfl | hx
      · exact ihl
      · rw [List.mem_singleton.mp hx]; exact ihr) hL hf hl fun pp h' x1 f1 hpp e1 => ?_
    have eb : [l, r].any (bad (decide (w < 5))) = wr (.op w l r) := by
      show ((wr l || (kd l != decide (w < 5))) || ((wr r || (kd r != decide (w < 5))) || false)) = (((kd l != decide (w < 5)) || wr l) || ((kd r != decide (w < 5)) || wr r))
      rw [Bool.or_false, Bool.or_comm (wr l), Bool.or_comm (wr r)]
    rw [eb] at f1
    open_k
    exact q pp h' x1 f1 hpp e1
/-! ### trees -/
def lb0 (b : List KR) : Val := .rls (b.map fun r => .tup [nv 1, rv r])
def lrv (r : KR) : Val := .tup (.str (rwd r) :: nv (ra r) :: kv (re r) :: (rbl r).map lb0)
def l1 (r : KR) : Val := .tup [nv 1, lrv r]
theorem lrv0 : ∀ {r : KR}, rbl r = [] → lrv r = rv r
  | .t _ _, _ => rfl
  | .w _ _, h => by cases h
  | .i _ _ none, h => by cases h
  | .i _ _ (some _), h => by cases h
theorem rwd_c : ∀ r : KR, rwd r = [116, 101, 108, 108] ∨ rwd r = [119, 104, 105, 108, 101] ∨ rwd r = [105, 102]
  | .t _ _ => .inl rfl
  | .w _ _ => .inr (.inl rfl)
  | .i _ _ _ => .inr (.inr rfl)
/-- what a row adds -/
def addR (F0 : List (Nat × Bool)) (r : KR) : List (Nat × Bool) := ntB (ntB F0 (ra r, true) (wr (re r))) (ra r, false) (!decide (rwd r = [116, 101, 108, 108]) && kd (re r))
def addT : List KR → List (Nat × Bool) → List (Nat × Bool)
  | [], F0 => F0
  | r :: rs, F0 => addT rs (addR F0 r)
def addW (F0 : List (Nat × Bool)) (r : KR) : List (Nat × Bool) := (rbl r).foldl (fun G b => addT b G) (addR F0 r)
theorem addR_len (F0 : List (Nat × Bool)) (r : KR) : (addR F0 r).length ≤ F0.length + 2 := by
  have h1 := ntB_len F0 (ra r, true) (wr (re r))
  have h2 := ntB_len (ntB F0 (ra r, true) (wr (re r))) (ra r, false) (!decide (rwd r = [116, 101, 108, 108]) && kd (re r))
  unfold addR
  omega
theorem addT_len : ∀ (b : List KR) (F0 : List (Nat × Bool)), (addT b F0).length ≤ F0.length + 2 * b.length
  | [], F0 => by simp [addT]
  | r :: rs, F0 => by
    have h1 := addT_len rs (addR F0 r)
    have h2 := addR_len F0 r
    show (addT rs (addR F0 r)).length ≤ _
    rw [List.length_cons]
    omega
/-- a statement of a block -/
theorem step_gen (F : Fns t) {vk : Val} {D M : Nat} (hM : M ≤ 850) {r : KR} (hr : rok r) (hL : h pL = some (lookO pf pd pr)) (hf : h pf = some (.dic true (F0.map fk))) (hl : F0.length < M)
    (hB : ∀ b ∈ rbl r, ∀ (h : VH) (Q : KV) (G : List (Nat × Bool)), h pL = some (lookO pf pd pr) → h pf = some (.dic true (G.map fk)) → G.length < M + 10 → (∀ h', XP pf h h' → h' pf = some (.dic true ((addT b G).map fk)) → Q .non h') → Sem t.prog (D + 20) "KindLook.walk" [.ref pL, lb0 b, nv 1, vk, .str []] h Q X)
    (q : ∀ h', XP pf h h' → h' pf = some (.dic true ((addW F0 r).map fk)) → Q .non h') : Sem t.prog (D + 21) "KindLook.step" [.ref pL, lrv r, nv 1, vk, .str []] h Q X := by
  refine Sem_fn (d := D + 20) F.f_KindLook_step rfl ?_
  have m1 := F.m_KindLook_kinds_of
  have m2 := F.m_KindLook_due
  have m3 := F.m_KindLook_walk
  obtain ⟨k1, k2⟩ := rok_e hr
  have hbs := rbl_len r
  have hbb := rok_b hr
  have hwd := rwd_c r
  unfold addW addR at q
  unfold b_KindLook_step lrv
  have hL' := hL
  unfold lookO at hL'
  have hLf : pL ≠ pf := fun e => by rw [e, hf] at hL'; cases hL'
  generalize rbl r = bs at hB q hbs hbb ⊢
  generalize re r = e at k1 k2 q ⊢
  generalize ra r = a at q ⊢
  generalize rwd r = wd at hwd q ⊢
  have n1 : ¬ wd = [107, 105, 110, 100] := by rcases hwd with rfl | rfl | rfl <;> decide
  have n2 : ¬ wd = [100, 101, 102] := by rcases hwd with rfl | rfl | rfl <;> decide
  have n3 : ¬ wd = [115, 101, 116] := by rcases hwd with rfl | rfl | rfl <;> decide
  have n4 : ¬ wd = [103, 105, 118, 101] := by rcases hwd with rfl | rfl | rfl <;> decide
  have hnl : (nt F0 (a, true)).length < 900 := by
    have : (nt F0 (a, true)).length ≤ F0.length + 1 := ntB_len F0 (a, true) true
    omega
  open_k
  refine Sem.up (d := (20 - 2 * dpe e - 4 + D) + 2 * dpe e + 4) (by omega) (kinds_ok F (vk := vk) (a := a) e _ k1 h _ F0 hL hf hnl fun pp h1 x1 f1 hpp e1 => ?_)
  have hL1 := x1 _ _ hLf hL
  have hL1' := hL1
  unfold lookO at hL1'
  have hB1 := ntB_len F0 (a, true) (wr e)
  generalize ntB F0 (a, true) (wr e) = F1 at f1 q hB1
  have tk : ∀ c : Bool, tOk (kdn c) := fun c => by cases c <;> (unfold tOk kdn; decide)
  open_k
  refine if_join (Sem.le _ _) (fun σ h' => XP pf h h' ∧ h' pf = some (.dic true ((ntB F1 (a, false) (!decide (wd = [116, 101, 108, 108]) && kd e)).map fk)) ∧ σ = [some (.ref pL), some (.tup (.str wd :: nv a :: kv e :: bs.map lb0)), some (nv 1), some vk, some (.str []), some (.str wd), some (nv a), some (.ref pp), none]) ?_ ?_
  · by_cases cw : wd = [116, 101, 108, 108]
    · rw [decide_eq_true cw]
      open_k
      have hin : kdn (kd e) ∈ [NUM, TRU] := by cases kd e <;> decide
      refine due1_ok (d := D + 18) (b := false) (ks := [NUM, TRU]) F (fun z hz => by
        rcases List.mem_cons.mp hz with rfl | hz
        · exact tk true
        · rw [List.mem_singleton.mp hz]; exact tk false) (fun z => absurd hin z) hL1 f1 (by omega) e1 fun h2 x2 f2 => ?_
      rw [decide_eq_true hin] at f2
      have x3 := x1.trans x2
      open_k
      first | exact f2 | exact ⟨x3, f2⟩ | exact ⟨x3, f2, rfl⟩
    · rw [decide_eq_false cw]
      open_k
      refine due1_ok (d := D + 18) (b := false) (ks := [TRU]) F (fun z hz => by rw [List.mem_singleton.mp hz]; exact tk false) (fun _ => rfl) hL1 f1 (by omega) e1 fun h2 x2 f2 => ?_
      have e9 : (!decide (kdn (kd e) ∈ [TRU])) = (!false && kd e) := by cases kd e <;> decide
      rw [e9] at f2
      have x3 := x1.trans x2
      open_k
      first | exact f2 | exact ⟨x3, f2⟩ | exact ⟨x3, f2, rfl⟩
  rintro σ h2 ⟨x2, f2, rfl⟩
  have hB2 := ntB_len F1 (a, false) (!decide (wd = [116, 101, 108, 108]) && kd e)
  generalize ntB F1 (a, false) (!decide (wd = [116, 101, 108, 108]) && kd e) = F2 at f2 q hB2
  open_k
  refine loop_pre (Sem.le _ _) bs lb0 (fun pb σ h' => ∃ o8, XP pf h h' ∧ h' pf = some (.dic true ((pb.foldl (fun G b => addT b G) F2).map fk)) ∧ σ = [some (.ref pL), some (.tup (.str wd :: nv a :: kv e :: bs.map lb0)), some (nv 1), some vk, some (.str []), some (.str wd), some (nv a), some (.ref pp), o8]) ⟨_, x2, f2, rfl⟩ ?_ ?_
  · rintro pb b pc σ h3 eb ⟨o8, x3, f3, rfl⟩
    have hL3 := x3 _ _ hLf hL
    have hL3' := hL3
    unfold lookO at hL3'
    have hpb : pb.length ≤ 1 := by
      have := congrArg List.length eb
      rw [List.length_append, List.length_cons] at this
      omega
    have hlen : (pb.foldl (fun G b => addT b G) F2).length < M + 10 := by
      cases pb with
      | nil => show F2.length < M + 10; omega
      | cons c pb =>
        cases pb with
        | cons _ _ => simp at hpb
        | nil =>
          have := addT_len c F2
          have := (hbb c (by rw [eb]; simp)).1
          show (addT c F2).length < M + 10
          omega
    refine ⟨True.intro, ?_⟩
    open_k
    refine hB b (by rw [eb]; simp) h3 _ _ hL3 f3 hlen fun h4 x4 f4 => ?_
    open_k
    refine ⟨_, x3.trans x4, ?_, rfl⟩
    rw [List.foldl_append]
    exact f4
  · rintro σ h3 ⟨o8, x3, f3, rfl⟩
    refine ⟨True.intro, ?_⟩
    open_k
    exact q _ x3 f3
theorem addW_len {r : KR} (hr : rok r) (F0 : List (Nat × Bool)) : (addW F0 r).length ≤ F0.length + 6 := by
  have h1 := addR_len F0 r
  have hbs := rbl_len r
  have hbb := rok_b hr
  unfold addW
  generalize addR F0 r = G at h1 ⊢
  generalize rbl r = bs at hbs hbb ⊢
  match bs, hbs with
  | [], _ => show G.length ≤ _; omega
  | [b], _ =>
    have := addT_len b G
    have := (hbb b (by simp)).1
    show (addT b G).length ≤ _
    omega
  | [b, c], _ =>
    have := addT_len b G
    have := addT_len c (addT b G)
    have := (hbb b (by simp)).1
    have := (hbb c (by simp)).1
    show (addT c (addT b G)).length ≤ _
    omega
theorem walk_gen (F : Fns t) {vk : Val} {D M : Nat} (hM : M ≤ 850) {rs : List KR} (hr : ∀ r ∈ rs, rok r) (hL : h pL = some (lookO pf pd pr)) (hf : h pf = some (.dic true (F0.map fk))) (hl : F0.length + 6 * rs.length < M)
    (hB : ∀ r ∈ rs, ∀ b ∈ rbl r, ∀ (h : VH) (Q : KV) (G : List (Nat × Bool)), h pL = some (lookO pf pd pr) → h pf = some (.dic true (G.map fk)) → G.length < M + 10 → (∀ h', XP pf h h' → h' pf = some (.dic true ((addT b G).map fk)) → Q .non h') → Sem t.prog (D + 20) "KindLook.walk" [.ref pL, lb0 b, nv 1, vk, .str []] h Q X)
    (q : ∀ h', XP pf h h' → h' pf = some (.dic true ((rs.foldl addW F0).map fk)) → Q .non h') : Sem t.prog (D + 22) "KindLook.walk" [.ref pL, .rls (rs.map l1), nv 1, vk, .str []] h Q X := by
  refine Sem_fn (d := D + 21) F.f_KindLook_walk rfl ?_
  have m1 := F.m_KindLook_step
  unfold b_KindLook_walk
  have hLf : pL ≠ pf := fun e => by unfold lookO at hL; rw [e, hf] at hL; cases hL
  open_k
  refine loop_pre (Sem.le _ _) rs l1 (fun pre σ h' => ∃ o5 o6, XP pf h h' ∧ h' pf = some (.dic true ((pre.foldl addW F0).map fk)) ∧ (pre.foldl addW F0).length ≤ F0.length + 6 * pre.length ∧ σ = [some (.ref pL), some (.rls (rs.map l1)), some (nv 1), some vk, some (.str []), o5, o6]) ⟨_, _, XP.refl, hf, Nat.le_refl _, rfl⟩ ?_ ?_
  · rintro pre r post σ h1 er ⟨o5, o6, x1, f1, hl1, rfl⟩
    have hL1 := x1 _ _ hLf hL
    have hL1' := hL1
    unfold lookO at hL1'
    have hrm : r ∈ rs := by rw [er]; simp
    have hpl : pre.length < rs.length := by rw [er, List.length_append, List.length_cons]; omega
    refine ⟨True.intro, ?_⟩
    unfold l1
    open_k
    refine step_gen (D := D) (M := M) (hM := hM) (F0 := pre.foldl addW F0) F (hr r hrm) hL1 f1 (by omega) (hB r hrm) fun h2 x2 f2 => ?_
    have ef : (pre ++ [r]).foldl addW F0 = addW (pre.foldl addW F0) r := by rw [List.foldl_append]; rfl
    have hal := addW_len (hr r hrm) (pre.foldl addW F0)
    open_k
    refine ⟨_, _, x1.trans x2, by rw [ef]; exact f2, by rw [ef]; first | omega | (simp only [List.length_append, List.length_cons, List.length_nil]; omega), rfl⟩
  · rintro σ h1 ⟨o5, o6, x1, f1, hl1, rfl⟩
    refine ⟨True.intro, ?_⟩
    open_k
    exact q _ x1 f1
theorem addW0 {r : KR} (h : rbl r = []) (F0 : List (Nat × Bool)) : addW F0 r = addR F0 r := by unfold addW; rw [h]; rfl
theorem fold0 : ∀ {b : List KR} (F0 : List (Nat × Bool)), (∀ r ∈ b, rbl r = []) → b.foldl addW F0 = addT b F0
  | [], _, _ => rfl
  | r :: b, F0, h => by
    show b.foldl addW (addW F0 r) = addT b (addR F0 r)
    rw [addW0 (h r List.mem_cons_self)]
    exact fold0 _ fun r' h' => h r' (List.mem_cons_of_mem _ h')
theorem lb0_eq {b : List KR} (h : ∀ r ∈ b, rbl r = []) : lb0 b = .rls (b.map l1) := by
  unfold lb0 l1
  congr 1
  exact List.map_congr_left fun r hr => by rw [lrv0 (h r hr)]
theorem walk_ok (F : Fns t) {vk : Val} {D : Nat} {rs : List KR} (hr : ∀ r ∈ rs, rok r) (hL : h pL = some (lookO pf pd pr)) (hf : h pf = some (.dic true (F0.map fk))) (hl : F0.length + 6 * rs.length < 800)
    (q : ∀ h', XP pf h h' → h' pf = some (.dic true ((rs.foldl addW F0).map fk)) → Q .non h') : Sem t.prog (D + 24) "KindLook.walk" [.ref pL, .rls (rs.map l1), nv 1, vk, .str []] h Q X := by
  refine walk_gen (D := D + 2) (M := 800) (hM := by decide) F hr hL hf hl (fun r hrm b hb h2 Q2 G hL2 hf2 hG q2 => ?_) q
  obtain ⟨hb1, hb2⟩ := rok_b (hr r hrm) b hb
  rw [lb0_eq fun r' h' => (hb2 r' h').2]
  refine walk_gen (D := D) (M := 830) (hM := by decide) F (fun r' h' => (hb2 r' h').1) hL2 hf2 (by omega) (fun r' h' b' hb' => by rw [(hb2 r' h').2] at hb'; cases hb') fun h3 x3 f3 => ?_
  rw [fold0 _ fun r' h' => (hb2 r' h').2] at f3
  exact q2 h3 x3 f3
theorem lift_gen (F : Fns t) {D : Nat} {rs : List KR} (hl : rs.length ≤ 12) (hB : ∀ r ∈ rs, ∀ b ∈ rbl r, ∀ (h : VH) (Q : KV), (∀ h', Ext h h' → Q (lb0 b) h') → Sem t.prog D "lifted_tree" [bV b] h Q X)
    (q : ∀ h', Ext h h' → Q (.rls (rs.map l1)) h') : Sem t.prog (D + 1) "lifted_tree" [.rls (rs.map rv)] h Q X := by
  refine Sem_fn F.f_lifted_tree rfl ?_
  unfold b_lifted_tree
  open_k
  refine lst_r (by decide) fun p hp => ?_
  open_k
  refine loop_pre (Sem.le _ _) rs rv (fun pre σ h' => ∃ o2 o3, Ext h h' ∧ h' p = some (.lst (pre.map l1)) ∧ σ = [some (.rls (rs.map rv)), some (.ref p), o2, o3]) ⟨_, _, Ext.up hp, up_same, rfl⟩ ?_ ?_
  · rintro pre r post σ h1 er ⟨o2, o3, x1, e1, rfl⟩
    have hrm : r ∈ rs := by rw [er]; simp
    have hB := hB r hrm
    have hpl : pre.length < 16777216 := by have := congrArg List.length er; rw [List.length_append] at this; omega
    have fin : ∀ {h2 : VH}, Ext h h2 → h2 p = some (.lst (pre.map l1)) → Ext h (up h2 p (.lst (pre.map l1 ++ [l1 r]))) ∧ up h2 p (.lst (pre.map l1 ++ [l1 r])) p = some (.lst ((pre ++ [r]).map l1)) := fun {h2} x2 e2 => ⟨x2.up2 hp, by rw [up_same, List.map_append]; rfl⟩
    refine ⟨True.intro, ?_⟩
    have put : ∀ {h2 : VH} {o2 o3 : Option Val}, Ext h h2 → h2 p = some (.lst (pre.map l1)) → ∃ o2' o3', Ext h (up h2 p (.lst (pre.map l1 ++ [l1 r]))) ∧ some (Obj.lst (pre.map l1 ++ [l1 r])) = some (Obj.lst ((pre ++ [r]).map l1)) ∧ [some (Val.rls (rs.map rv)), some (.ref p), o2, o3] = [some (Val.rls (rs.map rv)), some (.ref p), o2', o3'] := fun {h2 o2 o3} x2 e2 => ⟨_, _, x2.up2 hp, by rw [List.map_append]; rfl, rfl⟩
    cases r with
    | t a e =>
      show lBody _ _ _ _ (.tup [.str [116, 101, 108, 108], nv a, kv e]) _ _ _
      open_k
      first | exact put x1 e1 | exact ⟨hpl, put x1 e1⟩
    | w a e =>
      show lBody _ _ _ _ (.tup [.str [119, 104, 105, 108, 101], nv a, kv e, .rls []]) _ _ _
      open_k
      refine hB [] (by simp [rbl]) _ _ fun h2 x2 => ?_
      have e2 := x2 _ _ e1
      open_k
      refine ⟨Nat.le_of_ble_eq_true rfl, ?_⟩
      open_k
      first | exact put (x1.trans x2) e2 | exact ⟨hpl, put (x1.trans x2) e2⟩
    | i a e o =>
      cases o with
      | none =>
        show lBody _ _ _ _ (.tup [.str [105, 102], nv a, kv e, .rls [], .rls []]) _ _ _
        open_k
        refine hB [] (by simp [rbl]) _ _ fun h2 x2 => ?_
        open_k
        refine hB [] (by simp [rbl]) _ _ fun h3 x3 => ?_
        have e3 := x3 _ _ (x2 _ _ e1)
        have x4 := (x1.trans x2).trans x3
        open_k
        refine ⟨Nat.le_of_ble_eq_true rfl, ?_⟩
        open_k
        first | exact put x4 e3 | exact ⟨hpl, put x4 e3⟩
      | some f =>
        show lBody _ _ _ _ (.tup [.str [105, 102], nv a, kv e, .rls [], .rls [tV (a + 2) f]]) _ _ _
        open_k
        refine hB [] (by simp [rbl]) _ _ fun h2 x2 => ?_
        open_k
        refine hB [.t (a + 2) f] (by simp [rbl]) _ _ fun h3 x3 => ?_
        have e3 := x3 _ _ (x2 _ _ e1)
        have x4 := (x1.trans x2).trans x3
        open_k
        refine ⟨Nat.le_of_ble_eq_true rfl, ?_⟩
        open_k
        first | exact put x4 e3 | exact ⟨hpl, put x4 e3⟩
  · rintro σ h1 ⟨o2, o3, x1, e1, rfl⟩
    refine ⟨True.intro, ?_⟩
    open_k
    exact q _ (x1.del hp)
theorem lift_ok (F : Fns t) {rs : List KR} (hr : ∀ r ∈ rs, rok r) (hl : rs.length ≤ 12) (q : ∀ h', Ext h h' → Q (.rls (rs.map l1)) h') : Sem t.prog (d + 2) "lifted_tree" [.rls (rs.map rv)] h Q X := by
  refine lift_gen (D := d + 1) F hl (fun r hrm b hb h2 Q2 q2 => ?_) q
  obtain ⟨hb1, hb2⟩ := rok_b (hr r hrm) b hb
  refine lift_gen (D := d) F (by omega) (fun r' h' b' hb' => by rw [(hb2 r' h').2] at hb'; cases hb') fun h3 x3 => ?_
  rw [← lb0_eq fun r' h' => (hb2 r' h').2]
  exact q2 h3 x3
theorem up_id {p : Nat} {o : Obj} {h : VH} (e : h p = some o) : up h p o = h := by
  funext q
  by_cases c : q = p
  · rw [c, up_same, e]
  · rw [up_ne c]
theorem dct_nil {p : Nat} {K : KV} {h : VH} (e : h p = some (.dic false [])) (q : K (.ref p) h) : dctK p K h (pairsOf []) := ⟨e, rfl, by decide, by
  show K (.ref p) (up h p (.dic false []))
  rw [up_id e]; exact q⟩
theorem rwd_n (r : KR) : ¬ rwd r = [100, 101, 102] ∧ ¬ rwd r = [107, 105, 110, 100] := by rcases rwd_c r with e | e | e <;> (rw [e]; decide)
theorem init_ok (F : Fns t) {rs : List KR} (q : ∀ pL pf pd pr h', Ext h h' → h pf = none → h' pL = some (lookO pf pd pr) → h' pf = some (.dic true []) → Q (.ref pL) h') : Sem t.prog (d + 2) "KindLook" [.rls (rs.map l1), nv 1] h Q X := by
  refine Sem_mk (d := d + 1) F.k_KindLook fun p hp => ?_
  refine Sem_fn F.f_KindLook___init__ rfl ?_
  unfold b_KindLook___init__
  have g1 := F.g_KindLook_faults; have g2 := F.g_KindLook_defs; have g3 := F.g_KindLook_records
  open_k
  intro q1 hq1
  have qp1 : q1 ≠ p := fun e => by rw [e, up_same] at hq1; cases hq1
  rw [up_ne qp1] at hq1
  obtain ⟨h1, eh⟩ : ∃ z, up (up h p (.ins "KindLook" [])) q1 (.dic true []) = z := ⟨_, rfl⟩
  have w1 : h1 p = some (.ins "KindLook" []) := by rw [← eh, up_ne qp1.symm, up_same]
  have e11 : h1 q1 = some (.dic true []) := by rw [← eh, up_same]
  have f1 : h q1 = none := hq1
  have x1 : Ext h h1 := by rw [← eh]; exact (Ext.up hp).up2 f1
  rw [eh]
  clear eh
  open_k
  intro q2 hq2
  have qp2 : q2 ≠ p := fun e => by rw [e, up_same] at hq2; cases hq2
  rw [up_ne qp2] at hq2
  have n21 : q2 ≠ q1 := fun e => by rw [e, e11] at hq2; cases hq2
  obtain ⟨h2, eh⟩ : ∃ z, up (up h1 p (.ins "KindLook" [("faults", .ref q1)])) q2 (.dic false []) = z := ⟨_, rfl⟩
  have w2 : h2 p = some (.ins "KindLook" [("faults", .ref q1)]) := by rw [← eh, up_ne qp2.symm, up_same]
  have e21 : h2 q1 = some (.dic true []) := by rw [← eh, up_ne n21.symm, up_ne qp1]; exact e11
  have e22 : h2 q2 = some (.dic false []) := by rw [← eh, up_same]
  have f2 : h q2 = none := x1.free hq2
  have x2 : Ext h h2 := by rw [← eh]; exact (x1.up2 hp).up2 f2
  rw [eh]
  clear eh
  refine dct_nil e22 ?_
  open_k
  intro q3 hq3
  have qp3 : q3 ≠ p := fun e => by rw [e, up_same] at hq3; cases hq3
  rw [up_ne qp3] at hq3
  have n31 : q3 ≠ q1 := fun e => by rw [e, e21] at hq3; cases hq3
  obtain ⟨h3, eh⟩ : ∃ z, up (up h2 p (.ins "KindLook" [("faults", .ref q1), ("defs", .ref q2)])) q3 (.dic false []) = z := ⟨_, rfl⟩
  have w3 : h3 p = some (.ins "KindLook" [("faults", .ref q1), ("defs", .ref q2)]) := by rw [← eh, up_ne qp3.symm, up_same]
  have e31 : h3 q1 = some (.dic true []) := by rw [← eh, up_ne n31.symm, up_ne qp1]; exact e21
  have e33 : h3 q3 = some (.dic false []) := by rw [← eh, up_same]
  have f3 : h q3 = none := x2.free hq3
  have x3 : Ext h h3 := by rw [← eh]; exact (x2.up2 hp).up2 f3
  rw [eh]
  clear eh
  refine dct_nil e33 ?_
  open_k
  have w4 : up h3 p (lookO q1 q2 q3) p = some (lookO q1 q2 q3) := up_same
  have e41 : up h3 p (lookO q1 q2 q3) q1 = some (.dic true []) := by rw [up_ne qp1]; exact e31
  have x4 : Ext h (up h3 p (lookO q1 q2 q3)) := x3.up2 hp
  change fgo _ _ _ _ _ (up h3 p (lookO q1 q2 q3))
  generalize up h3 p (lookO q1 q2 q3) = h4 at w4 e41 x4 ⊢
  open_k
  refine loop_pre (Sem.le _ _) rs l1 (fun pre σ h' => ∃ o3 o4, h' = h4 ∧ σ = [some (.ref p), some (.rls (rs.map l1)), some (nv 1), o3, o4]) ⟨_, _, rfl, rfl⟩ ?_ ?_
  · rintro pre r post σ h' er ⟨o3, o4, rfl, rfl⟩
    obtain ⟨n1, n2⟩ := rwd_n r
    refine ⟨True.intro, ?_⟩
    unfold l1 lrv
    generalize rwd r = wd at n1 n2 ⊢
    open_k
    first | rfl | exact ⟨_, _, rfl⟩
  · rintro σ h' ⟨o3, o4, rfl, rfl⟩
    refine ⟨True.intro, ?_⟩
    open_k
    exact q _ _ _ _ _ x4 hq1 w4 e41
theorem dict_keys (F0 : List (Nat × Bool)) : (F0.map fk).map (·.1) = F0.map dk := by rw [List.map_map]; rfl
theorem dk_srt (F0 : List (Nat × Bool)) : SrtOk (F0.map dk) := by
  refine ⟨fun j => decide (j = 1), fun x hx => ?_⟩
  obtain ⟨k, _, rfl⟩ := List.mem_map.mp hx
  refine ⟨_, _, rfl, rfl, by simp, fun j y e => ?_⟩
  match j, e with
  | 0, e => cases e; rfl
  | 1, e => cases e; rfl
  | j + 2, e => cases e
def sd (F0 : List (Nat × Bool)) : List (Nat × Bool) := isort (fun a b => ltV (dk a) (dk b)) F0
theorem sd_eq (F0 : List (Nat × Bool)) : isort ltV (F0.map dk) = (sd F0).map dk := isort_map dk F0
theorem sd_mem {F0 : List (Nat × Bool)} {k : Nat × Bool} : k ∈ sd F0 ↔ k ∈ F0 := (isort_perm F0).mem_iff
theorem sd_len (F0 : List (Nat × Bool)) : (sd F0).length = F0.length := (isort_perm F0).length_eq
def fv (k : Nat × Bool) : Val := .tup [nv 1, nv k.1, .str (if k.2 then KND else TRU)]
theorem all2_eq {α : Type} : ∀ {xs ys : List α}, All2 (fun x y => y = x) xs ys → ys = xs
  | _, _, .nil => rfl
  | _, _, .cons e r => by rw [e, all2_eq r]
theorem addW_lens {rs : List KR} (hr : ∀ r ∈ rs, rok r) : ∀ F0 : List (Nat × Bool), (rs.foldl addW F0).length ≤ F0.length + 6 * rs.length := by
  induction rs with
  | nil => intro F0; exact Nat.le_refl _
  | cons r rs ih =>
    intro F0
    have h1 := addW_len (hr r List.mem_cons_self) F0
    have h2 := ih (fun x hx => hr x (List.mem_cons_of_mem _ hx)) (addW F0 r)
    show (rs.foldl addW (addW F0 r)).length ≤ _
    rw [List.length_cons]
    omega
theorem shared_ok (F : Fns t) {rs : List KR} (hr : ∀ r ∈ rs, rok r) (hl : rs.length ≤ 12) (q : ∀ h', Ext h h' → Q (.rls ((sd (rs.foldl addW [])).map fv)) h') : Sem t.prog (d + 26) "shared_kinds" [.rls (rs.map l1), nv 1] h Q X := by
  refine Sem_fn (d := d + 25) F.f_shared_kinds rfl ?_
  unfold b_shared_kinds
  have hU := F.c_UNKNOWN
  have m1 := F.m_KindLook_walk
  open_k
  refine init_ok (d := d + 23) F fun pL pf pd pr h1 x1 hpf hL hf => ?_
  have hL' := hL
  unfold lookO at hL'
  open_k
  intro pk hk
  have hL2 : up h1 pk (.dic false []) pL = some (lookO pf pd pr) := up_old hk hL
  have hf2 : up h1 pk (.dic false []) pf = some (.dic true (([] : List (Nat × Bool)).map fk)) := up_old hk hf
  refine dct_nil up_same ?_
  have x2 : Ext h (up h1 pk (.dic false [])) := x1.up2 (x1.free hk)
  generalize up h1 pk (.dic false []) = h2 at hL2 hf2 x2 ⊢
  have hL2' := hL2
  unfold lookO at hL2'
  open_k
  refine walk_ok (D := d + 1) F hr hL2 hf2 (by rw [List.length_nil]; omega) fun h3 x3 f3 => ?_
  have hLf : pL ≠ pf := fun e => by rw [e, hf] at hL'; cases hL'
  have hL3 := x3 _ _ hLf hL2
  unfold lookO at hL3
  have hlen := addW_lens hr []
  rw [List.length_nil] at hlen
  have x4 : Ext h h3 := fun a o e => x3 a o (fun z => by rw [z, hpf] at e; cases e) (x2 a o e)
  generalize rs.foldl addW [] = G at f3 hlen q ⊢
  have hs := dk_srt G
  rw [← dict_keys] at hs
  have hlk : (G.map fk).length < 16777216 := by rw [List.length_map]; omega
  open_k
  rw [dict_keys, sd_eq]
  refine comp_ext (Sem.le _ _) (sd G) dk fv (fun x y => y = x) (by rw [sd_len, szv]; omega) rfl (fun k hk4 h4 kk x5 kq => ?_) (fun ys h4 hys x5 => ?_)
  · have hL5 := x5 _ _ hL3
    have f5 := x5 _ _ f3
    unfold dk
    have e1 : dlook (.tup [nv k.1, .str (if k.2 then KND else TRU)]) (G.map fk) = some (nv 1) := by
      have := fk_look G k
      rw [if_pos (sd_mem.mp hk4)] at this
      exact this
    have kb : keyB true (.tup [nv k.1, .str (if k.2 then KND else TRU)]) = true := rfl
    open_k
    rw [e1]
    open_k
    exact kq k h4 rfl (Ext.refl)
  · rw [all2_eq hys]
    open_k
    exact q h4 (x4.trans x5)
theorem plain_ok (F : Fns t) {rs : List KR} (hr : ∀ r ∈ rs, rok r) (hl : rs.length ≤ 12) (q : ∀ h' p, Ext h h' → h' p = some (.lst ((sd (rs.foldl addW [])).map dk)) → Q (.ref p) h') : Sem t.prog (d + 27) "plain_kinds" [.rls (rs.map rv)] h Q X := by
  refine Sem_fn (d := d + 26) F.f_plain_kinds rfl ?_
  unfold b_plain_kinds
  open_k
  refine lift_ok (d := d + 24) F hr hl fun h1 x1 => ?_
  open_k
  refine shared_ok (d := d) F hr hl fun h2 x2 => ?_
  have hlen := addW_lens hr []
  rw [List.length_nil] at hlen
  generalize rs.foldl addW [] = G at hlen q ⊢
  open_k
  refine comp_mapR (Sem.le _ _) (sd G) fv (fun k => some (dk k)) (by rw [sd_len, szv]; omega) rfl (fun k hk h4 kk kq => ?_) fun p hp => ?_
  · unfold fv
    open_k
    exact kq
  · rw [filter_all]
    open_k
    exact q _ p ((x1.trans x2).up2 ((x1.trans x2).free hp)) up_same
/-! ### the plain law -/
theorem ntB_new {F0 : List (Nat × Bool)} {k : Nat × Bool} (h : k ∉ F0) (b : Bool) : ntB F0 k b = F0 ++ (if b = true then [k] else []) := by
  unfold ntB nt
  cases b
  · simp
  · simp [h]
theorem addR_new {F0 : List (Nat × Bool)} {r : KR} (h : ∀ k ∈ F0, k.1 < ra r) : addR F0 r = F0 ++ d1 (ra r) (re r) ++ d2R r := by
  have h1 : ∀ b, (ra r, b) ∉ F0 := fun b hb => Nat.lt_irrefl _ (h _ hb)
  unfold addR
  rw [ntB_new (h1 true), ntB_new]
  · unfold d1 d2R d2
    congr 1
    by_cases c : rwd r = [116, 101, 108, 108]
    · simp [c]
    · simp [c]
  · intro hm
    rcases List.mem_append.mp hm with hm | hm
    · exact h1 _ hm
    · split at hm
      · cases List.mem_singleton.mp hm
      · cases hm
theorem d1_key {a : Nat} {e : KE} {k : Nat × Bool} (h : k ∈ d1 a e) : k.1 = a := by
  unfold d1 at h
  split at h
  · rw [List.mem_singleton.mp h]
  · cases h
theorem d2_key {a : Nat} {e : KE} {k : Nat × Bool} (h : k ∈ d2 a e) : k.1 = a := by
  unfold d2 at h
  split at h
  · rw [List.mem_singleton.mp h]
  · cases h
theorem dueR_key : ∀ {r : KR} {k : Nat × Bool}, k ∈ dueR r → k.1 ≤ ra r + 2
  | .t a e, k, h => by rw [d1_key h]; exact Nat.le_add_right _ _
  | .w a e, k, h => by
    rcases List.mem_append.mp h with h | h
    · rw [d1_key h]; exact Nat.le_add_right _ _
    · rw [d2_key h]; exact Nat.le_add_right _ _
  | .i a e none, k, h => by
    rcases List.mem_append.mp h with h | h
    · rw [d1_key h]; exact Nat.le_add_right _ _
    · rw [d2_key h]; exact Nat.le_add_right _ _
  | .i a e (some f), k, h => by
    rcases List.mem_append.mp h with h | h
    · rcases List.mem_append.mp h with h | h
      · rw [d1_key h]; exact Nat.le_add_right _ _
      · rw [d2_key h]; exact Nat.le_add_right _ _
    · rw [d1_key h]; exact Nat.le_refl _
theorem addW_new : ∀ {r : KR} {F0 : List (Nat × Bool)}, (∀ k ∈ F0, k.1 < ra r) → addW F0 r = F0 ++ dueR r
  | .t a e, F0, h => by
    show addR F0 (.t a e) = _
    rw [addR_new h, List.append_assoc]
    show F0 ++ (d1 a e ++ []) = F0 ++ d1 a e
    rw [List.append_nil]
  | .w a e, F0, h => by
    show addR F0 (.w a e) = _
    rw [addR_new h, List.append_assoc]
    rfl
  | .i a e none, F0, h => by
    show addR F0 (.i a e none) = _
    rw [addR_new h, List.append_assoc]
    rfl
  | .i a e (some f), F0, h => by
    show addR (addR F0 (.i a e (some f))) (.t (a + 2) f) = _
    rw [addR_new h, addR_new, List.append_assoc, List.append_assoc, List.append_assoc]
    · show F0 ++ (d1 a e ++ (d2 a e ++ (d1 (a + 2) f ++ []))) = F0 ++ (d1 a e ++ d2 a e ++ d1 (a + 2) f)
      rw [List.append_nil, List.append_assoc]
    · intro k hk
      show k.1 < a + 2
      have ha : ra (.i a e (some f)) = a := rfl
      rcases List.mem_append.mp hk with hk | hk
      · rcases List.mem_append.mp hk with hk | hk
        · have := h k hk; omega
        · have := d1_key hk; omega
      · have hk : k ∈ d2 a e := hk
        have := d2_key hk
        omega
theorem ra_row (x a : Nat) : ra (rowF x a) = a := by
  unfold rowF
  split
  · rfl
  split
  · rfl
  split <;> rfl
theorem fold_due : ∀ (cs : List Int) (i : Nat) (F0 : List (Nat × Bool)), (∀ k ∈ F0, k.1 < 3 * i) → ((cs.zipIdx i).map fun p => rowF (mixF p.1 p.2) (3 * p.2)).foldl addW F0 = F0 ++ due ((cs.zipIdx i).map fun p => rowF (mixF p.1 p.2) (3 * p.2))
  | [], i, F0, h => by simp [due]
  | c :: cs, i, F0, h => by
    rw [List.zipIdx_cons, List.map_cons, List.foldl_cons]
    have hr := ra_row (mixF c i) (3 * i)
    rw [addW_new (r := rowF (mixF c i) (3 * i)) (by rw [hr]; exact h), fold_due cs (i + 1)]
    · show _ = F0 ++ (dueR _ ++ due _)
      rw [List.append_assoc]
    · intro k hk
      rcases List.mem_append.mp hk with hk | hk
      · have := h k hk; omega
      · have := dueR_key hk
        rw [hr] at this
        omega
theorem tree_due (cs : List Int) : (treeF cs).foldl addW [] = due (treeF cs) := fold_due cs 0 [] fun _ h => nomatch h
theorem tree_rok {cs : List Int} : ∀ r ∈ treeF cs, rok r := fun r hr => by
  obtain ⟨p, _, rfl⟩ := List.mem_map.mp hr
  exact rowF_ok _ _
theorem pv_kv : ∀ (e : KE) (n : Nat), kok e → pv (n + dpe e + 1) (kv e) = true
  | .nu a, n, _ => pv_t (pvs_c (pv_s (by decide)) (pvs_c pv_n pvs_0))
  | .tr y, n, _ => pv_t (pvs_c (pv_s (by decide)) (pvs_c (pv_s (by cases y <;> decide)) pvs_0))
  | .no e, n, h => pv_t (pvs_c (k := n + dpe e + 1) (pv_s (by decide)) (pvs_c (pv_kv e n h) pvs_0))
  | .op w l r, n, h => by
    have hl := pv_kv l (n + (max (dpe l) (dpe r) - dpe l)) h.2.1
    have hr := pv_kv r (n + (max (dpe l) (dpe r) - dpe r)) h.2.2
    have hml := Nat.le_max_left (dpe l) (dpe r)
    have hmr := Nat.le_max_right (dpe l) (dpe r)
    rw [show n + (max (dpe l) (dpe r) - dpe l) + dpe l + 1 = n + max (dpe l) (dpe r) + 1 by omega] at hl
    rw [show n + (max (dpe l) (dpe r) - dpe r) + dpe r + 1 = n + max (dpe l) (dpe r) + 1 by omega] at hr
    refine pv_t (pvs_c (k := n + max (dpe l) (dpe r) + 1) (pv_s ?_) (pvs_c hl (pvs_c hr pvs_0)))
    rcases w_cases h.1 with rfl | rfl | rfl | rfl | rfl | rfl | rfl <;> decide
theorem pv_kv6 {e : KE} (h : kok e ∧ dpe e ≤ 5) (n : Nat) : pv (n + 6) (kv e) = true := by
  have := pv_kv e (n + (5 - dpe e)) h.1
  rw [show n + (5 - dpe e) + dpe e + 1 = n + 6 by omega] at this
  exact this
theorem pv_rv : ∀ {r : KR}, rok r → pv 10 (rv r) = true
  | .t a e, h => pv_t (pvs_c (pv_s (by decide)) (pvs_c pv_n (pvs_c (pv_kv6 h 3) pvs_0)))
  | .w a e, h => pv_t (pvs_c (pv_s (by decide)) (pvs_c pv_n (pvs_c (pv_kv6 h 3) (pvs_c (pv_r pvs_0) pvs_0))))
  | .i a e none, h => pv_t (pvs_c (pv_s (by decide)) (pvs_c pv_n (pvs_c (pv_kv6 h 3) (pvs_c (pv_r pvs_0) (pvs_c (pv_r pvs_0) pvs_0)))))
  | .i a e (some f), h => pv_t (pvs_c (pv_s (by decide)) (pvs_c pv_n (pvs_c (pv_kv6 h.1 3) (pvs_c (pv_r pvs_0) (pvs_c (pv_r (pvs_c (pv_t (pvs_c (pv_s (by decide)) (pvs_c pv_n (pvs_c (pv_kv6 h.2 1) pvs_0)))) pvs_0)) pvs_0)))))
theorem pvs_dk (L : List (Nat × Bool)) : pvs 3 (L.map dk) = true := pvs_map dk L fun k _ => pv_t (pvs_c pv_n (pvs_c (pv_s (by cases k.2 <;> decide)) pvs_0))
theorem comp_mapF {Γ : Gam} {el : E} {t : G} {c : O} {vs : List Nat} {σ : VS} {h : VH} {Q : KV} {ok : VH → Prop} (L : Le Γ Γ) {α : Type} (xs : List α) (f : α → Val) (g : α → Option Val) (hl : xs.length < SZ) (hok : ∀ D acc, h D = none → ok (up h D (.lst acc)))
    (step : ∀ x ∈ xs, ∀ (D : Nat) (acc : List Val) (k : Option Val → VH → Prop), h D = none → k (g x) (up h D (.lst acc)) → cbody Γ el t c vs σ (f x) (up h D (.lst acc)) k) (hf : Q (.rls (xs.filterMap g)) h) : kCmpr Γ el t c vs σ (frzK Q) (xs.map f) ok h := by
  intro D hD
  have key : ∀ (r : List α) (acc : List Val), (∀ x ∈ r, x ∈ xs) → acc.length + r.length ≤ xs.length → frzK Q (.ref D) (up h D (.lst (acc ++ r.filterMap g))) → cgo (cbody Γ el t c vs σ) ok D (kFin (frzK Q) D) (r.map f) (up h D (.lst acc)) := by
    intro r
    induction r with
    | nil =>
      intro acc _ _ hf
      rw [List.filterMap_nil, List.append_nil] at hf
      exact ⟨hok D acc hD, hf⟩
    | cons x r ih =>
      intro acc hx hlen hf
      refine ⟨hok D acc hD, step x (hx x List.mem_cons_self) D acc _ hD ?_⟩
      rw [List.length_cons] at hlen
      rw [List.filterMap_cons] at hf
      cases e : g x with
      | none =>
        rw [e] at hf
        exact ih acc (fun y hy => hx y (List.mem_cons_of_mem _ hy)) (by omega) hf
      | some v =>
        rw [e] at hf
        refine ⟨acc, up_same, by omega, ?_⟩
        rw [up_up]
        exact ih (acc ++ [v]) (fun y hy => hx y (List.mem_cons_of_mem _ hy)) (by rw [List.length_append, List.length_singleton]; omega) (by rw [List.append_assoc]; exact hf)
  exact key xs [] (fun _ h => h) (by rw [List.length_nil]; omega) (by rw [List.nil_append, frz_up hD]; exact hf)
theorem law_ok (F : Fns t) : LawOk t.prog := by
  intro ns hl hb h0 hh
  change Sem t.prog 200 "law" [.rls (ns.map zv)] h0 _ _
  refine Sem_fn (d := 199) F.f_law rfl ?_
  unfold b_law
  open_k
  refine tree_ok (d := 189) F hb ?_
  have hr := tree_rok (cs := ns.take 12)
  have hlt : (treeF (ns.take 12)).length ≤ 12 := by unfold treeF; rw [List.length_map, List.length_zipIdx, List.length_take]; omega
  have hd := tree_due (ns.take 12)
  open_k
  refine plain_ok (d := 172) F hr hlt fun h1 p x1 e1 => ?_
  rw [hd] at e1
  obtain ⟨T, eT⟩ : ∃ T, treeF (ns.take 12) = T := ⟨_, rfl⟩
  rw [eT] at hr hlt hd e1 ⊢
  have hT : pvs 11 (T.map rv) = true := pvs_map rv T fun r hr' => pv_rv (hr r hr')
  have hdl := due_len T
  have hsl := sd_len (due T)
  have hlm : ((sd (due T)).map dk).length < 16777216 := by rw [List.length_map]; omega
  open_k
  refine comp_mapF (Sem.le _ _) (sd (due T)) dk (fun _ => none) (by rw [szv]; omega) (fun D acc hD => up_old hD e1) (fun k hk D acc kk hD kq => ?_) ?_
  · unfold dk
    open_k
    exact kq
  rw [show (sd (due T)).filterMap (fun _ => (none : Option Val)) = [] by generalize sd (due T) = z; clear hlm hsl hdl e1; induction z with
    | nil => rfl
    | cons a z ih => exact ih]
  open_k
  refine ne_r (k := 0) (l := 0) pv0 pv0 ?_
  rw [decide_eq_true rfl]
  open_k
  refine due_ok (d := 189) F hr hlt fun h2 x2 => ?_
  have e2 := x2 _ _ e1
  have hso := dk_srt (due T)
  open_k
  rw [sd_eq]
  refine ne_u (k := 3) (l := 3) e2 (pvs_dk _) (pvs_dk _) ?_
  rw [decide_eq_true rfl]
  open_k
  refine tree_ok (d := 189) F hb ?_
  rw [eT]
  refine ne_r (k := 11) (l := 11) hT hT ?_
  rw [decide_eq_true rfl]
  open_k
  have e3 : up h2 p (.lst []) p = some (.lst []) := up_same
  open_k
  refine plain_ok (d := 172) F hr hlt fun h3 p3 x3 e3 => ?_
  rw [hd] at e3
  open_k
  refine due_ok (d := 189) F hr hlt fun h4 x4 => ?_
  have e4 := x4 _ _ e3
  open_k
  rw [sd_eq]
  refine eq_u (k := 3) (l := 3) e4 (pvs_dk _) (pvs_dk _) ?_
  rw [decide_eq_true rfl]
  open_k
  refine plain_ok (d := 172) (rs := []) F (fun r h => nomatch h) (by decide) fun h5 p5 x5 e5 => ?_
  open_k
  refine eq_u (k := 0) (l := 0) (xs := []) e5 pv0 pv0 ?_
  rw [decide_eq_true rfl]
  open_k
end
end Lk41
end
theorem PySem.Challenge.cw_manymakes_k41_kinds_of_operators_holds : PySem.Challenge.rw_manymakes_k41_kinds_of_operators.Holds := by
  exact Lk41.law_end (Lk41.law_ok Lk41.fns)
