import PyProof.Rows.All
import HandS.ForMost
import HandS.ForExc
import HandS.CallSlots
import HandS.Deep
import HandS.TupAny
import HandS.TupMul
import HandS.Wide
import HandS.Defaults
import HandS.DictComp
import HandS.Flow
import HandS.Style
import HandS.NoneIn
import HandS.StrMore
import HandS.IsInst
import HandS.FStr
import HandS.RaiseMore
import KE.KDictKeyed
import KE.KDictWalk
import KE.KeyNested
import KE.SortData
import KE.DataMinMax
import KE.KTupSum
import KE.GoesEnum
import KE.GoesMore
import KE.KDictDisplayH
import KE.KDictCopyH
import KE.KDictPairs
import KE.KDictOf
import HandS.TupLen
import HandS.DictTup
import HandS.Conv
import PySem.Challenge.RW_heavierhall_k21_whole_meetings_put_toget
set_option Elab.async false
set_option linter.all false
set_option maxRecDepth 100000
set_option maxHeartbeats 4000000
/-! The small machine: values, a store, and one function for each construct of the language that the program uses. -/
namespace Mn
open PySem
/-- a value: plain data, or a place of the store -/
inductive D where
  | non | bl (b : Bool) | int (i : Int) | str (x : Str) | tup (xs : List D) | ro (xs : List D) | loc (l : Nat)
namespace D
mutual
def beq : D → D → Bool
  | .non, .non => true
  | .bl a, .bl b => a == b
  | .int a, .int b => decide (a = b)
  | .str a, .str b => decide (a = b)
  | .tup a, .tup b => beqs a b
  | .ro a, .ro b => beqs a b
  | .loc a, .loc b => decide (a = b)
  | _, _ => false
def beqs : List D → List D → Bool
  | [], [] => true
  | a :: r, b :: s => beq a b && beqs r s
  | _, _ => false
end
mutual
theorem eq_of : ∀ a b : D, beq a b = true → a = b
  | .non, b, h => by cases b <;> simp_all [beq]
  | .bl a, b, h => by cases b <;> simp_all [beq]
  | .int a, b, h => by cases b <;> simp_all [beq]
  | .str a, b, h => by cases b <;> simp_all [beq]
  | .loc a, b, h => by cases b <;> simp_all [beq]
  | .tup a, b, h => by
    cases b with
    | tup b => rw [eqs_of a b (by simpa [beq] using h)]
    | _ => simp [beq] at h
  | .ro a, b, h => by
    cases b with
    | ro b => rw [eqs_of a b (by simpa [beq] using h)]
    | _ => simp [beq] at h
theorem eqs_of : ∀ a b : List D, beqs a b = true → a = b
  | [], b, h => by cases b <;> simp_all [beqs]
  | x :: r, b, h => by
    cases b with
    | nil => simp [beqs] at h
    | cons y s =>
      simp only [beqs, Bool.and_eq_true] at h
      rw [eq_of x y h.1, eqs_of r s h.2]
end
mutual
theorem refl_ : ∀ a : D, beq a a = true
  | .non => rfl
  | .bl a => by simp [beq]
  | .int a => by simp [beq]
  | .str a => by simp [beq]
  | .loc a => by simp [beq]
  | .tup a => by simpa [beq] using refls a
  | .ro a => by simpa [beq] using refls a
theorem refls : ∀ a : List D, beqs a a = true
  | [] => rfl
  | x :: r => by simp [beqs, refl_ x, refls r]
end
instance : DecidableEq D := fun a b => if h : beq a b = true then .isTrue (eq_of a b h) else .isFalse fun e => h (e ▸ refl_ a)
end D
/-- what stands at a place of the store: a list, a dict of int and text keys, one of keys that are tuples, an instance -/
inductive Ob where
  | lst (xs : List D)
  | dk (kvs : List (L2.Key × D))
  | dt (kvs : List (NestedKey × D))
  /-- such a dict while it is walked: read, not written -/
  | dl (kvs : List (NestedKey × D))
  | ins (c : Str) (fs : List (Str × D))
  deriving DecidableEq
abbrev Store := List Ob
/-- a dict of tuple keys, walked or not -/
def Ob.dict? : Ob → Option (List (NestedKey × D))
  | .dt kvs => some kvs
  | .dl kvs => some kvs
  | _ => none
abbrev Env := List (Option D)
/-- an exception: its class, its values -/
structure Xc where
  cls : Str
  fs : List (Str × Int)
/-- how an expression ends -/
inductive R (α : Type) where
  | ok (a : α) (S : Store)
  | exc (x : Xc) (S : Store)
  | bad
/-- how a statement ends -/
inductive RS where
  | nx (σ : Env) (S : Store)
  | rt (v : D) (S : Store)
  | exc (x : Xc) (σ : Env) (S : Store)
  | bad
def R.bind {α β : Type} : R α → (α → Store → R β) → R β
  | .ok a S, f => f a S
  | .exc x S, _ => .exc x S
  | .bad, _ => .bad
abbrev EM := Env → Store → R D
abbrev EMs := Env → Store → R (List D)
abbrev SM := Env → Store → RS
abbrev Fn := List D → Store → R D
abbrev Orc := Nat → Fn
/-! ### expressions -/
def eVar (i : Nat) : EM := fun σ S => match σ[i]? with
  | some (some d) => .ok d S
  | _ => .bad
def eC (d : D) : EM := fun _ S => .ok d S
/-- never evaluated -/
def eNever : EM := fun _ _ => .bad
def eNil : EMs := fun _ S => .ok [] S
def eCons (e : EM) (es : EMs) : EMs := fun σ S => (e σ S).bind fun d S1 => (es σ S1).bind fun ds S2 => .ok (d :: ds) S2
def eTup (es : EMs) : EM := fun σ S => (es σ S).bind fun ds S1 => .ok (.tup ds) S1
def eLst (es : EMs) : EM := fun σ S => (es σ S).bind fun ds S1 => .ok (.loc S1.length) (S1 ++ [.lst ds])
/-- a function of values -/
def e1 (f : D → Store → R D) (a : EM) : EM := fun σ S => (a σ S).bind fun x S1 => f x S1
def e2 (f : D → D → Store → R D) (a b : EM) : EM := fun σ S => (a σ S).bind fun x S1 => (b σ S1).bind fun y S2 => f x y S2
/-- f(a, ..) by values -/
def eF (f : List D → Store → R D) (es : EMs) : EM := fun σ S => (es σ S).bind fun ds S1 => f ds S1
def tst (r : R D) (f : Bool → Store → R D) : R D := match r with
  | .ok (.bl b) S => f b S
  | .ok _ _ => .bad
  | .exc x S => .exc x S
  | .bad => .bad
def eAnd (a b : EM) : EM := fun σ S => tst (a σ S) fun k S1 => match k with | true => b σ S1 | false => .ok (.bl false) S1
def eOr (a b : EM) : EM := fun σ S => tst (a σ S) fun k S1 => match k with | true => .ok (.bl true) S1 | false => b σ S1
def eNot (a : EM) : EM := fun σ S => tst (a σ S) fun k S1 => .ok (.bl (!k)) S1
def eIf (c a b : EM) : EM := fun σ S => tst (c σ S) fun k S1 => match k with | true => a σ S1 | false => b σ S1
/-- a < b < c: b once -/
def eCh (f g : D → D → Store → R D) (a b c : EM) : EM := fun σ S => (a σ S).bind fun x S1 => (b σ S1).bind fun y S2 => tst (f x y S2) fun k S3 => match k with | true => (c σ S3).bind fun z S4 => g y z S4 | false => .ok (.bl false) S3
def eCh3 (f g h : D → D → Store → R D) (a b c d : EM) : EM := fun σ S => (a σ S).bind fun x S1 => (b σ S1).bind fun y S2 => tst (f x y S2) fun k S3 => match k with
  | true => (c σ S3).bind fun z S4 => tst (g y z S4) fun k2 S5 => match k2 with | true => (d σ S5).bind fun u S6 => h z u S6 | false => .ok (.bl false) S5
  | false => .ok (.bl false) S3
/-! ### operators by values -/
def mulOk (i j : Int) : Bool := decide ((-(2 ^ 64) < i ∧ i < 2 ^ 64) ∨ (-(2 ^ 64) < j ∧ j < 2 ^ 64))
def oAdd : D → D → Store → R D
  | .int i, .int j, S => .ok (.int (i + j)) S
  | .str a, .str b, S => if a.length + b.length ≤ sizeLine then .ok (.str (a ++ b)) S else .bad
  | .tup a, .tup b, S => if a.length + b.length ≤ sizeLine then .ok (.tup (a ++ b)) S else .bad
  | .loc a, .loc b, S => match S[a]?, S[b]? with
    | some (.lst x), some (.lst y) => if x.length + y.length ≤ sizeLine then .ok (.loc S.length) (S ++ [.lst (x ++ y)]) else .bad
    | _, _ => .bad
  | _, _, _ => .bad
def oSub : D → D → Store → R D
  | .int i, .int j, S => .ok (.int (i - j)) S
  | _, _, _ => .bad
def repL (xs : List D) (k : Int) : List D := (List.replicate k.toNat xs).flatten
def oMul : D → D → Store → R D
  | .int i, .int j, S => if mulOk i j then .ok (.int (i * j)) S else .bad
  | .tup a, .int k, S => if a ≠ [] ∧ 2 ≤ k ∧ k ≤ 1000 ∧ a.length ≤ 1000 then .ok (.tup (repL a k)) S else .bad
  | .loc a, .int k, S => match S[a]? with
    | some (.lst x) => if -(2 ^ 63) ≤ k ∧ k < 2 ^ 63 ∧ x.length * k.toNat ≤ sizeLine then .ok (.loc S.length) (S ++ [.lst (repL x k)]) else .bad
    | _ => .bad
  | _, _, _ => .bad
def oDiv : D → D → Store → R D
  | .int i, .int j, S => if 0 < j ∧ j < 1073741824 then .ok (.int (i / j)) S else .bad
  | _, _, _ => .bad
def oMod : D → D → Store → R D
  | .int i, .int j, S => if 0 < j then .ok (.int (i % j)) S else .bad
  | _, _, _ => .bad
def oPow : D → D → Store → R D
  | .int i, .int j, S => if 0 ≤ j ∧ j ≤ 1000000 ∧ i.natAbs < 2 ^ 64 then .ok (.int (i ^ j.toNat)) S else .bad
  | _, _, _ => .bad
def oNeg : D → Store → R D
  | .int i, S => .ok (.int (-i)) S
  | _, _ => .bad
def oCmp (f : Int → Int → Bool) : D → D → Store → R D
  | .int i, .int j, S => .ok (.bl (f i j)) S
  | _, _, _ => .bad
abbrev oLt := oCmp fun i j => decide (i < j)
abbrev oLe := oCmp fun i j => decide (i ≤ j)
abbrev oGt := oCmp fun i j => decide (j < i)
abbrev oGe := oCmp fun i j => decide (j ≤ i)
/-- a value as plain data: n looks deep -/
def pd : Nat → Store → D → Option PyData
  | 0, _, _ => none
  | _ + 1, _, .non => some .none
  | _ + 1, _, .bl b => some (.bool b)
  | _ + 1, _, .int i => some (.int i)
  | _ + 1, _, .str x => some (.str x)
  | n + 1, S, .tup xs => (xs.mapM (pd n S)).map .tuple
  | n + 1, S, .ro xs => (xs.mapM (pd n S)).map .list
  | n + 1, S, .loc l => match S[l]? with
    | some (.lst xs) => (xs.mapM (pd n S)).map .list
    | _ => none
def oEq : D → D → Store → R D
  | .int i, .int j, S => .ok (.bl (decide (i = j))) S
  | .str i, .str j, S => .ok (.bl (decide (i = j))) S
  | .bl i, .bl j, S => .ok (.bl (decide (i = j))) S
  | x, y, S => match pd 9 S x, pd 9 S y with
    | some d, some e => if SeqAt.shaped d = true ∧ SeqAt.shaped e = true then .ok (.bl (PyData.eqv d e)) S else .bad
    | _, _ => .bad
def notR (r : R D) : R D := tst r fun k S => .ok (.bl (!k)) S
def oNe (x y : D) (S : Store) : R D := notR (oEq x y S)
def oIsN (x : D) (S : Store) : R D := .ok (.bl (decide (x = .non))) S
def oNotN (x : D) (S : Store) : R D := .ok (.bl (!decide (x = .non))) S
/-! ### keys -/
mutual
def nkey : D → Option NestedKey
  | .non => some .none
  | .bl _ => none
  | .int i => some (.num i)
  | .str x => some (.text x)
  | .tup xs => (nkeys xs).map .tup
  | .ro _ => none
  | .loc _ => none
def nkeys : List D → Option (List NestedKey)
  | [] => some []
  | x :: xs => match nkey x, nkeys xs with
    | some k, some ks => some (k :: ks)
    | _, _ => none
end
mutual
def ofKey : NestedKey → D
  | .none => .non
  | .num i => .int i
  | .text x => .str x
  | .tup ks => .tup (ofKeys ks)
def ofKeys : List NestedKey → List D
  | [] => []
  | k :: ks => ofKey k :: ofKeys ks
end
/-- a tuple as a key: nested no deeper than eight -/
def tkey (x : D) : Option NestedKey := match x with
  | .tup _ => match nkey x with
    | some k => if k.depth ≤ 8 then some k else none
    | none => none
  | _ => none
def skey : D → Option L2.Key
  | .int i => some (.inl i)
  | .str x => some (.inr x)
  | _ => none
def ofS : L2.Key → D
  | .inl i => .int i
  | .inr x => .str x
/-- a sequence's items -/
def seqOf (S : Store) : D → Option (List D)
  | .tup xs => some xs
  | .ro xs => some xs
  | .loc l => match S[l]? with
    | some (.lst xs) => some xs
    | _ => none
  | _ => none
/-- a plain item among plain ones of its kind -/
def inFlat (x : D) (ys : List D) : Option Bool := match x with
  | .int i => if ys.all (fun y => match y with | .int _ => true | _ => false) then some (decide (.int i ∈ ys)) else none
  | .str i => if ys.all (fun y => match y with | .str _ => true | _ => false) then some (decide (.str i ∈ ys)) else none
  | _ => none
def inLst (x : D) (ys : List D) (S : Store) : R D := match pd 9 S x, ys.mapM (pd 9 S) with
  | some d, some es => if SeqAt.shaped d = true ∧ SeqAt.shaped (.list es) = true then .ok (.bl (es.any fun e => PyData.eqv e d)) S else .bad
  | _, _ => .bad
def oIn : D → D → Store → R D
  | .str a, .str b, S => .ok (.bl (!(Builtin.Str.occurrences b a 0 b.length 1).isEmpty)) S
  | x, .loc l, S => match S[l]? with
    | some (.lst ys) => inLst x ys S
    | some o => match o.dict?, tkey x with
      | some kvs, some k => .ok (.bl (kvs.lookup k).isSome) S
      | _, _ => .bad
    | none => .bad
  | x, .tup ys, S => match inFlat x ys with
    | some b => .ok (.bl b) S
    | none => .bad
  | _, _, _ => .bad
def oNotIn (x y : D) (S : Store) : R D := notR (oIn x y S)
/-! ### subscripts -/
def oIx : D → D → Store → R D
  | .tup xs, .int i, S => match L2.atI xs i with
    | some d => .ok d S
    | none => .bad
  | .str z, .int i, S => if z.length ≤ sizeLine then match L2.atI z.cps.toList i with
      | some c => .ok (.str ⟨#[c]⟩) S
      | none => .bad
    else .bad
  | .loc l, x, S => match S[l]? with
    | some (.lst xs) => match x with
      | .int i => match L2.atI xs i with
        | some d => .ok d S
        | none => .bad
      | _ => .bad
    | some o => match o.dict?, tkey x with
      | some kvs, some k => match kvs.lookup k with
        | some d => .ok d S
        | none => .bad
      | _, _ => .bad
    | none => .bad
  | _, _, _ => .bad
/-- a part of a slice: left out, or an int -/
abbrev PM := Env → Store → R (Option Int)
def pNo : PM := fun _ S => .ok none S
def pOf (e : EM) : PM := fun σ S => (e σ S).bind fun x S1 => match x with
  | .int i => .ok (some i) S1
  | _ => .bad
def cut {α : Type} (xs : List α) (lo hi : Option Int) : List α := (xs.drop (HT.sIx xs.length 0 lo)).take (HT.sIx xs.length xs.length hi - HT.sIx xs.length 0 lo)
def oSl : D → Option Int → Option Int → Store → R D
  | .tup xs, lo, hi, S => .ok (.tup (cut xs lo hi)) S
  | .loc l, lo, hi, S => match S[l]? with
    | some (.lst xs) => .ok (.loc S.length) (S ++ [.lst (cut xs lo hi)])
    | _ => .bad
  | .str z, lo, hi, S => if z.length ≤ sizeLine then .ok (.str (L2.cutS z lo hi)) S else .bad
  | _, _, _, _ => .bad
def eSl (a : EM) (lo hi : PM) : EM := fun σ S => (a σ S).bind fun x S1 => (lo σ S1).bind fun l S2 => (hi σ S2).bind fun h S3 => oSl x l h S3
/-! ### stores -/
def kput {κ : Type} [DecidableEq κ] (kvs : List (κ × D)) (k : κ) (v : D) : List (κ × D) :=
  if kvs.any (fun p => decide (p.1 = k)) then kvs.map fun p => if p.1 = k then (p.1, v) else p else kvs ++ [(k, v)]
def oPut (o i v : D) (S : Store) : Option Store := match o with
  | .loc l => match S[l]? with
    | some (.lst xs) => match i with
      | .int k => match L2.ixN xs.length k with
        | some j => some (S.set l (.lst (xs.set j v)))
        | none => none
      | _ => none
    | some (.dt kvs) => match tkey i with
      | some k => if kvs.length < sizeLine then some (S.set l (.dt (kput kvs k v))) else none
      | none => none
    | _ => none
  | _ => none
/-! ### what is walked -/
/-- the items, and what must stand meanwhile -/
structure It where
  its : List D
  g : List (Nat × Ob)
abbrev IM := Env → Store → R It
def It.ok (g : List (Nat × Ob)) (S : Store) : Prop := ∀ p ∈ g, S[p.1]? = some p.2
instance (g : List (Nat × Ob)) (S : Store) : Decidable (It.ok g S) := by unfold It.ok; infer_instance
def numb (i : Int) : List D → List D
  | [] => []
  | x :: xs => .tup [.int i, x] :: numb (i + 1) xs
def itOf (S : Store) : D → Option It
  | .tup xs => some ⟨xs, []⟩
  | .ro xs => some ⟨xs, []⟩
  | .loc l => match S[l]? with
    | some (.lst xs) => some ⟨xs, [(l, .lst xs)]⟩
    | _ => none
  | _ => none
def iOf (e : EM) : IM := fun σ S => (e σ S).bind fun x S1 => match itOf S1 x with
  | some it => .ok it S1
  | none => .bad
def noRo : D → D
  | .ro _ => .non
  | x => x
def iEnum (e : EM) : IM := fun σ S => (e σ S).bind fun x S1 => match itOf S1 (noRo x) with
  | some it => .ok ⟨numb 0 it.its, it.g⟩ S1
  | none => .bad
def iZip (a b : EM) : IM := fun σ S => (a σ S).bind fun x S1 => (b σ S1).bind fun y S2 => match itOf S2 x, itOf S2 y with
  | some s, some t => .ok ⟨(s.its.zip t.its).map fun p => .tup [p.1, p.2], s.g ++ t.g⟩ S2
  | _, _ => .bad
def upTo (lo : Int) : Nat → List D
  | 0 => []
  | n + 1 => .int lo :: upTo (lo + 1) n
def iRng (e : EM) : IM := fun σ S => (e σ S).bind fun x S1 => match x with
  | .int n => if -(2 ^ 62) ≤ n ∧ n ≤ sizeLine then .ok ⟨upTo 0 n.toNat, []⟩ S1 else .bad
  | _ => .bad
/-! ### targets -/
abbrev TgM := D → Env → Option Env
def tgN (i : Nat) : TgM := fun d σ => some (σ.set i (some d))
def tgNil : List D → Env → Option Env := fun ds σ => match ds with
  | [] => some σ
  | _ => none
def tgCons (t : TgM) (ts : List D → Env → Option Env) : List D → Env → Option Env := fun ds σ => match ds with
  | d :: r => match t d σ with
    | some σ1 => ts r σ1
    | none => none
  | [] => none
def tgT (ts : List D → Env → Option Env) : TgM := fun d σ => match d with
  | .tup xs => ts xs σ
  | _ => none
/-! ### comprehensions -/
def wipeD (σ : Env) : List Nat → Env
  | [] => σ
  | v :: vs => (wipeD σ vs).set v none
def lcL (g : List (Nat × Ob)) (tg : TgM) (cond : EM) (elt : EM) (σ : Env) : List D → Store → R (List D)
  | [], S => if It.ok g S then .ok [] S else .bad
  | d :: ds, S => if It.ok g S then match tg d σ with
      | some σ1 => match cond σ1 S with
        | .ok (.bl true) S1 => (elt σ1 S1).bind fun y S2 => (lcL g tg cond elt σ ds S2).bind fun ys S3 => .ok (y :: ys) S3
        | .ok (.bl false) S1 => lcL g tg cond elt σ ds S1
        | _ => .bad
      | none => .bad
    else .bad
def eYes : EM := fun _ S => .ok (.bl true) S
def noX {α : Type} : R α → R α
  | .exc _ _ => .bad
  | r => r
def eLC (src : IM) (tg : TgM) (cond : EM) (elt : EM) (own : List Nat) : EM := fun σ S => (src σ S).bind fun it S1 =>
  noX ((lcL it.g tg cond elt (wipeD σ own) it.its S1).bind fun ys S2 => .ok (.loc S2.length) (S2 ++ [.lst ys]))
/-- a dict of tuple keys by a comprehension: its key, its value -/
def dcL (g : List (Nat × Ob)) (tg : TgM) (cond ke ve : EM) (σ : Env) : List D → List (NestedKey × D) → Store → R (List (NestedKey × D))
  | [], acc, S => if It.ok g S then .ok acc S else .bad
  | d :: ds, acc, S => if It.ok g S then match tg d σ with
      | some σ1 => match cond σ1 S with
        | .ok (.bl true) S1 => (ke σ1 S1).bind fun k S2 => (ve σ1 S2).bind fun v S3 => match tkey k with
          | some k => dcL g tg cond ke ve σ ds (kput acc k v) S3
          | none => .bad
        | .ok (.bl false) S1 => dcL g tg cond ke ve σ ds acc S1
        | _ => .bad
      | none => .bad
    else .bad
def eDC (src : IM) (tg : TgM) (cond ke ve : EM) (own : List Nat) : EM := fun σ S => (src σ S).bind fun it S1 =>
  noX ((dcL it.g tg cond ke ve (wipeD σ own) it.its [] S1).bind fun kvs S2 => .ok (.loc S2.length) (S2 ++ [.dt kvs]))
/-- .. over a dict, locked meanwhile -/
def eLCD (f : List (NestedKey × D) → List D) (e : EM) (tg : TgM) (cond : EM) (elt : EM) (own : List Nat) : EM := fun σ S => (e σ S).bind fun x S1 => match x with
  | .loc l => match S1[l]? with
    | some (.dt kvs) => noX ((lcL [(l, .dl kvs)] tg cond elt (wipeD σ own) (f kvs) (S1.set l (.dl kvs))).bind fun ys S2 =>
        if S2[l]? = some (.dl kvs) then .ok (.loc S2.length) (S2.set l (.dt kvs) ++ [.lst ys]) else .bad)
    | _ => .bad
  | _ => .bad
def eDCD (f : List (NestedKey × D) → List D) (e : EM) (tg : TgM) (cond ke ve : EM) (own : List Nat) : EM := fun σ S => (e σ S).bind fun x S1 => match x with
  | .loc l => match S1[l]? with
    | some (.dt kvs) => noX ((dcL [(l, .dl kvs)] tg cond ke ve (wipeD σ own) (f kvs) [] (S1.set l (.dl kvs))).bind fun ys S2 =>
        if S2[l]? = some (.dl kvs) then .ok (.loc S2.length) (S2.set l (.dt kvs) ++ [.dt ys]) else .bad)
    | _ => .bad
  | _ => .bad
/-! ### statements -/
def bindS {α : Type} (r : R α) (σ : Env) (f : α → Store → RS) : RS := match r with
  | .ok a S => f a S
  | .exc x S => .exc x σ S
  | .bad => .bad
def sNil : SM := fun σ S => .nx σ S
def sSeq (a b : SM) : SM := fun σ S => match a σ S with
  | .nx σ1 S1 => b σ1 S1
  | r => r
def sNever : SM := fun _ _ => .bad
def sExpr (e : EM) : SM := fun σ S => bindS (e σ S) σ fun _ S1 => .nx σ S1
def sRet (e : EM) : SM := fun σ S => bindS (e σ S) σ fun v S1 => .rt v S1
def sSet (tg : TgM) (e : EM) : SM := fun σ S => bindS (e σ S) σ fun v S1 => match tg v σ with
  | some σ1 => .nx σ1 S1
  | none => .bad
/-- o[i] = e -/
def sPut (o i e : EM) : SM := fun σ S => bindS (e σ S) σ fun v S1 => bindS (o σ S1) σ fun x S2 => bindS (i σ S2) σ fun y S3 => match oPut x y v S3 with
  | some S4 => .nx σ S4
  | none => .bad
/-- x op= e of a name -/
def sAug (i : Nat) (f : D → D → Store → R D) (e : EM) : SM := fun σ S => match σ[i]? with
  | some (some x) => bindS (e σ S) σ fun y S1 => bindS (f x y S1) σ fun z S2 => .nx (σ.set i (some z)) S2
  | _ => .bad
/-- o[i] op= e -/
def sAugS (o i : EM) (f : D → D → Store → R D) (e : EM) : SM := fun σ S => bindS (o σ S) σ fun x S1 => bindS (i σ S1) σ fun y S2 => bindS (oIx x y S2) σ fun old S3 => bindS (e σ S3) σ fun v S4 =>
  bindS (f old v S4) σ fun z S5 => match oPut x y z S5 with
  | some S6 => .nx σ S6
  | none => .bad
def sIf (c : EM) (a b : SM) : SM := fun σ S => match c σ S with
  | .ok (.bl true) S1 => a σ S1
  | .ok (.bl false) S1 => b σ S1
  | .ok _ _ => .bad
  | .exc x S1 => .exc x σ S1
  | .bad => .bad
def forL (g : List (Nat × Ob)) (tg : TgM) (body : SM) : List D → Env → Store → RS
  | [], σ, S => if It.ok g S then .nx σ S else .bad
  | d :: ds, σ, S => if It.ok g S then match tg d σ with
      | some σ1 => match body σ1 S with
        | .nx σ2 S2 => forL g tg body ds σ2 S2
        | r => r
      | none => .bad
    else .bad
def sFor (src : IM) (tg : TgM) (body : SM) : SM := fun σ S => bindS (src σ S) σ fun it S1 => forL it.g tg body it.its σ S1
/-- a dict is walked: locked meanwhile; f gives the items -/
def unlock (l : Nat) (kvs : List (NestedKey × D)) : RS → RS
  | .nx σ S => if S[l]? = some (.dl kvs) then .nx σ (S.set l (.dt kvs)) else .bad
  | .rt v S => if S[l]? = some (.dl kvs) then .rt v (S.set l (.dt kvs)) else .bad
  | _ => .bad
def keysD (kvs : List (NestedKey × D)) : List D := kvs.map fun p => ofKey p.1
def itemsD (kvs : List (NestedKey × D)) : List D := kvs.map fun p => .tup [ofKey p.1, p.2]
def sForD (f : List (NestedKey × D) → List D) (e : EM) (tg : TgM) (body : SM) : SM := fun σ S => bindS (e σ S) σ fun x S1 => match x with
  | .loc l => match S1[l]? with
    | some (.dt kvs) => unlock l kvs (forL [(l, .dl kvs)] tg body (f kvs) σ (S1.set l (.dl kvs)))
    | _ => .bad
  | _ => .bad
def whL (c : EM) (body : SM) : Nat → Env → Store → RS
  | 0, _, _ => .bad
  | n + 1, σ, S => match c σ S with
    | .ok (.bl true) S1 => match body σ S1 with
      | .nx σ2 S2 => whL c body n σ2 S2
      | r => r
    | .ok (.bl false) S1 => .nx σ S1
    | .ok _ _ => .bad
    | .exc x S1 => .exc x σ S1
    | .bad => .bad
/-- so many turns at the most -/
def NW : Nat := 1000000000000
/-- while, at most so many turns -/
def sWh (N : Nat) (c : EM) (body : SM) : SM := fun σ S => whL c body N σ S
/-! ### defs -/
def mkFn (n N : Nat) (body : SM) : Fn := fun args S => if args.length = n then match body (args.map some ++ List.replicate (N - n) none) S with
    | .nx _ S1 => .ok .non S1
    | .rt v S1 => .ok v S1
    | .exc x _ S1 => .exc x S1
    | .bad => .bad
  else .bad
/-- so deep at the most -/
def callAt (Γ : Orc → Orc) : Nat → Orc
  | 0 => fun _ _ _ => .bad
  | k + 1 => Γ (callAt Γ k)
def eCall (C : Orc) (f : Nat) (es : EMs) : EM := eF (C f) es
/-- {}, a dict of tuple keys -/
def eD0 : EM := fun _ S => .ok (.loc S.length) (S ++ [.dt []])
/-- a, b = x, y and a, b, c = x, y, z of plain names -/
def sPar (i j : Nat) (c : EMs) : SM := fun σ S => bindS (c σ S) σ fun ds S1 => match ds with
  | [v, w] => .nx ((σ.set i (some v)).set j (some w)) S1
  | _ => .bad
def sPar3 (i j l : Nat) (c : EMs) : SM := fun σ S => bindS (c σ S) σ fun ds S1 => match ds with
  | [u, v, w] => .nx (((σ.set i (some u)).set j (some v)).set l (some w)) S1
  | _ => .bad
end Mn
set_option maxHeartbeats 4000000
/-! What ties the small machine to the hand layer: values, the store, the names; how an end follows. -/
namespace Mn
open PySem PySem.Spec PyProof.Rows L2
/-- what stays: the program, its world, the written part, the module's names -/
structure Gc where
  P : Program
  w : World
  K : PySem.W.Frag
  mg : Str → Option Value
/-! ### values -/
def WrT (K : PySem.W.Frag) (a : Addr) (xs : List V) : Prop :=
  ∃ (o : Obj) (its : Array Value) (n : Nat), K.lookup a = some o ∧ o.cls = .type "tuple" ∧ o.data = .seq its n ∧ its.size ≤ sizeLine ∧ Vals xs its.toList
def WrL (K : PySem.W.Frag) (a : Addr) (xs : List V) : Prop :=
  ∃ (o : Obj) (its : Array Value) (n : Nat), K.lookup a = some o ∧ o.cls = .type "list" ∧ o.dict = none ∧ o.data = .seq its n ∧ its.size ≤ sizeLine ∧ Vals xs its.toList
def TupR (K : PySem.W.Frag) (ρ : List Addr) (H : Hp) (a : Addr) (vs : List V) : Prop := (Rd H a (.tup vs) ∧ a ∉ ρ) ∨ WrT K a vs
def LstR (K : PySem.W.Frag) (ρ : List Addr) (H : Hp) (a : Addr) (vs : List V) : Prop := (∃ o, H a = some (.frz o (.lst vs))) ∨ WrL K a vs
theorem TupR.sq {K : PySem.W.Frag} {ρ : List Addr} {H : Hp} {a : Addr} {vs : List V} (h : TupR K ρ H a vs) : SqT K H a vs := h.imp (·.1) id
theorem LstR.sq {K : PySem.W.Frag} {ρ : List Addr} {H : Hp} {a : Addr} {vs : List V} (h : LstR K ρ H a vs) : SqL K H a vs := h.imp (fun h => .inr h) id
mutual
def RpV (K : PySem.W.Frag) (ρ : List Addr) (H : Hp) : D → V → Prop
  | .non, v => v = .non
  | .bl b, v => v = .bl b
  | .int i, v => v = .int i
  | .str x, v => v = .str x
  | .tup ds, v => ∃ a vs, v = .ref a ∧ TupR K ρ H a vs ∧ vs.length ≤ sizeLine ∧ RpVs K ρ H ds vs
  | .ro ds, v => ∃ a vs, v = .ref a ∧ LstR K ρ H a vs ∧ vs.length ≤ sizeLine ∧ RpVs K ρ H ds vs
  | .loc l, v => ∃ a, ρ[l]? = some a ∧ v = .ref a
def RpVs (K : PySem.W.Frag) (ρ : List Addr) (H : Hp) : List D → List V → Prop
  | [], vs => vs = []
  | d :: ds, vs => ∃ v r, vs = v :: r ∧ RpV K ρ H d v ∧ RpVs K ρ H ds r
end
/-- the places grow; what stands apart from them stays -/
def Ext (ρ : List Addr) (H : Hp) (ρ' : List Addr) (H' : Hp) : Prop :=
  ∃ new, ρ' = ρ ++ new ∧ (∀ p ∈ new, H p = none) ∧ (∀ a o, a ∉ ρ → H a = some o → H' a = some o) ∧ (∀ a, H a ≠ none → H' a ≠ none) ∧ ∀ a o u, H a = some (.frz o u) → H' a = some (.frz o u)
theorem Ext.refl {ρ : List Addr} {H : Hp} : Ext ρ H ρ H := ⟨[], by simp, (fun _ h => nomatch h), fun _ _ _ e => e, fun _ e => e, fun _ _ _ e => e⟩
theorem Ext.trans {ρ ρ1 ρ2 : List Addr} {H H1 H2 : Hp} (a : Ext ρ H ρ1 H1) (b : Ext ρ1 H1 ρ2 H2) : Ext ρ H ρ2 H2 := by
  obtain ⟨n1, e1, f1, k1, d1, z1⟩ := a
  obtain ⟨n2, e2, f2, k2, d2, z2⟩ := b
  subst e1 e2
  refine ⟨n1 ++ n2, by rw [List.append_assoc], fun p hp => ?_, fun x o hx e => ?_, fun x e => d2 x (d1 x e), fun x o u e => z2 x o u (z1 x o u e)⟩
  · rcases List.mem_append.mp hp with hp | hp
    · exact f1 p hp
    · cases q : H p with
      | none => rfl
      | some o =>
        exact absurd (f2 p hp) (d1 p (by rw [q]; exact fun z => nomatch z))
  · refine k2 x o (fun hm => ?_) (k1 x o hx e)
    rcases List.mem_append.mp hm with hm | hm
    · exact hx hm
    · rw [f1 x hm] at e
      cases e
theorem Ext.rd {ρ ρ' : List Addr} {H H' : Hp} {a : Addr} {u : HO} (x : Ext ρ H ρ' H') (h : Rd H a u) (n : a ∉ ρ) : Rd H' a u ∧ a ∉ ρ' := by
  obtain ⟨new, e, f, k, _, _⟩ := x
  subst e
  refine ⟨?_, fun hm => ?_⟩
  · rcases h with h | ⟨o, h⟩
    · exact .inl (k _ _ n h)
    · exact .inr ⟨o, k _ _ n h⟩
  · rcases List.mem_append.mp hm with hm | hm
    · exact n hm
    · have q := f a hm
      rcases h with h | ⟨o, h⟩ <;> (rw [h] at q; cases q)
theorem Ext.frz {ρ ρ' : List Addr} {H H' : Hp} {a : Addr} {o : Obj} {u : HO} (x : Ext ρ H ρ' H') (h : H a = some (.frz o u)) : H' a = some (.frz o u) := by
  obtain ⟨_, _, _, _, _, z⟩ := x
  exact z a o u h
theorem Ext.loc {ρ ρ' : List Addr} {H H' : Hp} {l : Nat} {a : Addr} (x : Ext ρ H ρ' H') (h : ρ[l]? = some a) : ρ'[l]? = some a := by
  obtain ⟨new, e, _⟩ := x
  subst e
  rw [List.getElem?_append_left (List.getElem?_eq_some_iff.mp h).1]
  exact h
theorem Ext.tup {K : PySem.W.Frag} {ρ ρ' : List Addr} {H H' : Hp} {a : Addr} {vs : List V} (x : Ext ρ H ρ' H') (h : TupR K ρ H a vs) : TupR K ρ' H' a vs :=
  h.imp (fun h => x.rd h.1 h.2) id
theorem Ext.lst {K : PySem.W.Frag} {ρ ρ' : List Addr} {H H' : Hp} {a : Addr} {vs : List V} (x : Ext ρ H ρ' H') (h : LstR K ρ H a vs) : LstR K ρ' H' a vs :=
  h.imp (fun ⟨o, h⟩ => ⟨o, x.frz h⟩) id
mutual
theorem Ext.rp {K : PySem.W.Frag} {ρ ρ' : List Addr} {H H' : Hp} (x : Ext ρ H ρ' H') : ∀ (d : D) (v : V), RpV K ρ H d v → RpV K ρ' H' d v
  | .non, _, h => h
  | .bl _, _, h => h
  | .int _, _, h => h
  | .str _, _, h => h
  | .tup ds, _, h => by
    obtain ⟨a, vs, e, t, z, r⟩ := h
    exact ⟨a, vs, e, x.tup t, z, Ext.rps x ds vs r⟩
  | .ro ds, _, h => by
    obtain ⟨a, vs, e, t, z, r⟩ := h
    exact ⟨a, vs, e, x.lst t, z, Ext.rps x ds vs r⟩
  | .loc l, _, h => by
    obtain ⟨a, e, q⟩ := h
    exact ⟨a, x.loc e, q⟩
theorem Ext.rps {K : PySem.W.Frag} {ρ ρ' : List Addr} {H H' : Hp} (x : Ext ρ H ρ' H') : ∀ (ds : List D) (vs : List V), RpVs K ρ H ds vs → RpVs K ρ' H' ds vs
  | [], _, h => h
  | d :: ds, _, h => by
    obtain ⟨v, r, e, h1, h2⟩ := h
    exact ⟨v, r, e, Ext.rp x d v h1, Ext.rps x ds r h2⟩
end
theorem RpVs.length {K : PySem.W.Frag} {ρ : List Addr} {H : Hp} : ∀ {ds : List D} {vs : List V}, RpVs K ρ H ds vs → vs.length = ds.length
  | [], _, h => by rw [show _ = [] from h]; rfl
  | d :: ds, _, h => by
    obtain ⟨v, r, e, _, h2⟩ := h
    rw [e, List.length_cons, List.length_cons, RpVs.length h2]
theorem RpVs.get {K : PySem.W.Frag} {ρ : List Addr} {H : Hp} : ∀ {ds : List D} {vs : List V} {i : Nat} {d : D}, RpVs K ρ H ds vs → ds[i]? = some d → ∃ v, vs[i]? = some v ∧ RpV K ρ H d v
  | [], _, _, _, _, e => by simp at e
  | d :: ds, _, 0, _, h, e => by
    obtain ⟨v, r, e1, h1, _⟩ := h
    subst e1
    cases e
    exact ⟨v, rfl, h1⟩
  | d :: ds, _, i + 1, _, h, e => by
    obtain ⟨v, r, e1, _, h2⟩ := h
    subst e1
    exact RpVs.get (i := i) h2 (by simpa using e)
theorem RpVs.get' {K : PySem.W.Frag} {ρ : List Addr} {H : Hp} {ds : List D} {vs : List V} {i : Nat} {v : V} (h : RpVs K ρ H ds vs) (e : vs[i]? = some v) : ∃ d, ds[i]? = some d ∧ RpV K ρ H d v := by
  have hl := h.length
  have hi := (List.getElem?_eq_some_iff.mp e).1
  obtain ⟨v', e', r⟩ := h.get (i := i) (List.getElem?_eq_getElem (by omega : i < ds.length))
  rw [e] at e'
  cases e'
  exact ⟨_, List.getElem?_eq_getElem _, r⟩
theorem RpVs.append {K : PySem.W.Frag} {ρ : List Addr} {H : Hp} : ∀ {ds es : List D} {vs us : List V}, RpVs K ρ H ds vs → RpVs K ρ H es us → RpVs K ρ H (ds ++ es) (vs ++ us)
  | [], _, _, _, h, q => by rw [show _ = [] from h]; exact q
  | d :: ds, _, _, _, h, q => by
    obtain ⟨v, r, e, h1, h2⟩ := h
    subst e
    exact ⟨v, _, rfl, h1, h2.append q⟩
theorem RpVs.take {K : PySem.W.Frag} {ρ : List Addr} {H : Hp} : ∀ {ds : List D} {vs : List V} (n : Nat), RpVs K ρ H ds vs → RpVs K ρ H (ds.take n) (vs.take n)
  | _, _, 0, _ => rfl
  | [], _, _ + 1, h => by rw [show _ = [] from h]; rfl
  | d :: ds, _, n + 1, h => by
    obtain ⟨v, r, e, h1, h2⟩ := h
    subst e
    exact ⟨v, _, rfl, h1, h2.take n⟩
theorem RpVs.drop {K : PySem.W.Frag} {ρ : List Addr} {H : Hp} : ∀ {ds : List D} {vs : List V} (n : Nat), RpVs K ρ H ds vs → RpVs K ρ H (ds.drop n) (vs.drop n)
  | _, _, 0, h => h
  | [], _, _ + 1, h => by rw [show _ = [] from h]; rfl
  | d :: ds, _, n + 1, h => by
    obtain ⟨v, r, e, h1, h2⟩ := h
    subst e
    exact h2.drop n
theorem RpVs.set {K : PySem.W.Frag} {ρ : List Addr} {H : Hp} {d : D} {v : V} (q : RpV K ρ H d v) : ∀ {ds : List D} {vs : List V} (n : Nat), RpVs K ρ H ds vs → RpVs K ρ H (ds.set n d) (vs.set n v)
  | [], _, _, h => by rw [show _ = [] from h]; rfl
  | d :: ds, _, 0, h => by
    obtain ⟨v, r, e, h1, h2⟩ := h
    subst e
    exact ⟨_, _, rfl, q, h2⟩
  | d :: ds, _, n + 1, h => by
    obtain ⟨v, r, e, h1, h2⟩ := h
    subst e
    exact ⟨v, _, rfl, h1, h2.set q n⟩
theorem RpVs.erase {K : PySem.W.Frag} {ρ : List Addr} {H : Hp} : ∀ {ds : List D} {vs : List V} (n : Nat), RpVs K ρ H ds vs → RpVs K ρ H (ds.eraseIdx n) (vs.eraseIdx n)
  | [], _, _, h => by rw [show _ = [] from h]; rfl
  | d :: ds, _, 0, h => by
    obtain ⟨v, r, e, h1, h2⟩ := h
    subst e
    exact h2
  | d :: ds, _, n + 1, h => by
    obtain ⟨v, r, e, h1, h2⟩ := h
    subst e
    exact ⟨v, _, rfl, h1, h2.erase n⟩
theorem RpVs.dropLast {K : PySem.W.Frag} {ρ : List Addr} {H : Hp} {ds : List D} {vs : List V} (h : RpVs K ρ H ds vs) : RpVs K ρ H ds.dropLast vs.dropLast := by
  have hl := h.length
  rw [List.dropLast_eq_take, List.dropLast_eq_take, hl]
  exact h.take _
theorem RpVs.reverse {K : PySem.W.Frag} {ρ : List Addr} {H : Hp} : ∀ {ds : List D} {vs : List V}, RpVs K ρ H ds vs → RpVs K ρ H ds.reverse vs.reverse
  | [], _, h => by rw [show _ = [] from h]; rfl
  | d :: ds, _, h => by
    obtain ⟨v, r, e, h1, h2⟩ := h
    subst e
    rw [List.reverse_cons, List.reverse_cons]
    exact h2.reverse.append ⟨v, [], rfl, h1, rfl⟩
theorem RpVs.rep {K : PySem.W.Frag} {ρ : List Addr} {H : Hp} {ds : List D} {vs : List V} (h : RpVs K ρ H ds vs) : ∀ n : Nat, RpVs K ρ H (List.replicate n ds).flatten (List.replicate n vs).flatten
  | 0 => rfl
  | n + 1 => by
    rw [List.replicate_succ, List.replicate_succ, List.flatten_cons, List.flatten_cons]
    exact h.append (h.rep n)
theorem RpVs.ints {K : PySem.W.Frag} {ρ : List Addr} {H : Hp} : ∀ ns : List Int, RpVs K ρ H (ns.map D.int) (ns.map V.int)
  | [] => rfl
  | n :: ns => ⟨_, _, rfl, rfl, RpVs.ints ns⟩
/-! ### the store -/
def KvR (K : PySem.W.Frag) (ρ : List Addr) (H : Hp) : List (Key × D) → List (Key × V) → Prop
  | [], vs => vs = []
  | p :: ps, vs => ∃ v r, vs = (p.1, v) :: r ∧ RpV K ρ H p.2 v ∧ KvR K ρ H ps r
def XtR (K : PySem.W.Frag) (ρ : List Addr) (H : Hp) : List (NestedKey × D) → List (NestedKey × Addr × Value) → Prop
  | [], xs => xs = []
  | p :: ps, xs => ∃ b u v r, xs = (p.1, b, u) :: r ∧ p.1.depth ≤ 8 ∧ RpV K ρ H (ofKey p.1) (.ref b) ∧ RelV v u ∧ RpV K ρ H p.2 v ∧ XtR K ρ H ps r
def FsR (K : PySem.W.Frag) (ρ : List Addr) (H : Hp) : List (Str × D) → List (Str × V) → Prop
  | [], vs => vs = []
  | p :: ps, vs => ∃ v r, vs = (p.1, v) :: r ∧ RpV K ρ H p.2 v ∧ FsR K ρ H ps r
theorem Ext.kv {K : PySem.W.Frag} {ρ ρ' : List Addr} {H H' : Hp} (x : Ext ρ H ρ' H') : ∀ {ps : List (Key × D)} {vs : List (Key × V)}, KvR K ρ H ps vs → KvR K ρ' H' ps vs
  | [], _, h => h
  | p :: ps, _, ⟨v, r, e, h1, h2⟩ => ⟨v, r, e, x.rp _ _ h1, x.kv h2⟩
theorem Ext.xt {K : PySem.W.Frag} {ρ ρ' : List Addr} {H H' : Hp} (x : Ext ρ H ρ' H') : ∀ {ps : List (NestedKey × D)} {vs : List (NestedKey × Addr × Value)}, XtR K ρ H ps vs → XtR K ρ' H' ps vs
  | [], _, h => h
  | p :: ps, _, ⟨b, u, v, r, e, z, h1, q, h2, h3⟩ => ⟨b, u, v, r, e, z, x.rp _ _ h1, q, x.rp _ _ h2, x.xt h3⟩
theorem Ext.fs {K : PySem.W.Frag} {ρ ρ' : List Addr} {H H' : Hp} (x : Ext ρ H ρ' H') : ∀ {ps : List (Str × D)} {vs : List (Str × V)}, FsR K ρ H ps vs → FsR K ρ' H' ps vs
  | [], _, h => h
  | p :: ps, _, ⟨v, r, e, h1, h2⟩ => ⟨v, r, e, x.rp _ _ h1, x.fs h2⟩
section
variable {K : PySem.W.Frag} {ρ : List Addr} {H : Hp} {p : Addr} {us ws : List V}
mutual
/-- a list that is no place is written: nothing that is read is touched -/
theorem rp_grow (hp : H p = some (.lst us)) : ∀ (d : D) (v : V), RpV K ρ H d v → RpV K ρ (upd H p (.lst ws)) d v
  | .non, _, h => h
  | .bl _, _, h => h
  | .int _, _, h => h
  | .str _, _, h => h
  | .tup ds, _, h => by
    obtain ⟨a, vs, e, t, z, r⟩ := h
    refine ⟨a, vs, e, t.imp (fun ⟨t, n⟩ => ⟨?_, n⟩) id, z, rps_grow hp ds vs r⟩
    rcases t with t | ⟨o, t⟩
    · exact .inl (by rw [upd_ne (ne_of t hp fun z => nomatch z)]; exact t)
    · exact .inr ⟨o, by rw [upd_ne (ne_of t hp fun z => nomatch z)]; exact t⟩
  | .ro ds, _, h => by
    obtain ⟨a, vs, e, t, z, r⟩ := h
    exact ⟨a, vs, e, t.imp (fun ⟨o, t⟩ => ⟨o, by rw [upd_ne (ne_of t hp fun z => nomatch z)]; exact t⟩) id, z, rps_grow hp ds vs r⟩
  | .loc l, _, h => h
theorem rps_grow (hp : H p = some (.lst us)) : ∀ (ds : List D) (vs : List V), RpVs K ρ H ds vs → RpVs K ρ (upd H p (.lst ws)) ds vs
  | [], _, h => h
  | d :: ds, _, h => by
    obtain ⟨v, r, e, h1, h2⟩ := h
    exact ⟨v, r, e, rp_grow hp d v h1, rps_grow hp ds r h2⟩
end
theorem kv_grow (hp : H p = some (.lst us)) : ∀ {ps : List (Key × D)} {vs : List (Key × V)}, KvR K ρ H ps vs → KvR K ρ (upd H p (.lst ws)) ps vs
  | [], _, h => h
  | _ :: ps, _, ⟨v, r, e, h1, h2⟩ => ⟨v, r, e, rp_grow hp _ _ h1, kv_grow hp h2⟩
theorem xt_grow (hp : H p = some (.lst us)) : ∀ {ps : List (NestedKey × D)} {vs : List (NestedKey × Addr × Value)}, XtR K ρ H ps vs → XtR K ρ (upd H p (.lst ws)) ps vs
  | [], _, h => h
  | _ :: ps, _, ⟨b, u, v, r, e, z, h1, q, h2, h3⟩ => ⟨b, u, v, r, e, z, rp_grow hp _ _ h1, q, rp_grow hp _ _ h2, xt_grow hp h3⟩
theorem fs_grow (hp : H p = some (.lst us)) : ∀ {ps : List (Str × D)} {vs : List (Str × V)}, FsR K ρ H ps vs → FsR K ρ (upd H p (.lst ws)) ps vs
  | [], _, h => h
  | _ :: ps, _, ⟨v, r, e, h1, h2⟩ => ⟨v, r, e, rp_grow hp _ _ h1, fs_grow hp h2⟩
end
section
variable {K : PySem.W.Frag} {ρ : List Addr} {H : Hp} {p : Addr} {us : List V}
mutual
/-- a list becomes a place -/
theorem seat_rp (hn : p ∉ ρ) (hp : H p = some (.lst us)) : ∀ (d : D) (v : V), RpV K ρ H d v → RpV K (ρ ++ [p]) H d v
  | .non, _, h => h
  | .bl _, _, h => h
  | .int _, _, h => h
  | .str _, _, h => h
  | .tup ds, _, h => by
    obtain ⟨a, vs, e, t, z, r⟩ := h
    refine ⟨a, vs, e, t.imp (fun ⟨t, n⟩ => ⟨t, fun hm => ?_⟩) id, z, seat_rps hn hp ds vs r⟩
    rcases List.mem_append.mp hm with q | q
    · exact n q
    · rw [List.mem_singleton.mp q] at t
      rcases t with t | ⟨o, t⟩ <;> (rw [hp] at t; cases t)
  | .ro ds, _, h => by
    obtain ⟨a, vs, e, t, z, r⟩ := h
    exact ⟨a, vs, e, t, z, seat_rps hn hp ds vs r⟩
  | .loc l, _, h => by
    obtain ⟨a, e, q⟩ := h
    exact ⟨a, by rw [List.getElem?_append_left (List.getElem?_eq_some_iff.mp e).1]; exact e, q⟩
theorem seat_rps (hn : p ∉ ρ) (hp : H p = some (.lst us)) : ∀ (ds : List D) (vs : List V), RpVs K ρ H ds vs → RpVs K (ρ ++ [p]) H ds vs
  | [], _, h => h
  | d :: ds, _, h => by
    obtain ⟨v, r, e, h1, h2⟩ := h
    exact ⟨v, r, e, seat_rp hn hp d v h1, seat_rps hn hp ds r h2⟩
end
theorem seat_kv (hn : p ∉ ρ) (hp : H p = some (.lst us)) : ∀ {ps : List (Key × D)} {vs : List (Key × V)}, KvR K ρ H ps vs → KvR K (ρ ++ [p]) H ps vs
  | [], _, h => h
  | _ :: ps, _, ⟨v, r, e, h1, h2⟩ => ⟨v, r, e, seat_rp hn hp _ _ h1, seat_kv hn hp h2⟩
theorem seat_xt (hn : p ∉ ρ) (hp : H p = some (.lst us)) : ∀ {ps : List (NestedKey × D)} {vs : List (NestedKey × Addr × Value)}, XtR K ρ H ps vs → XtR K (ρ ++ [p]) H ps vs
  | [], _, h => h
  | _ :: ps, _, ⟨b, u, v, r, e, z, h1, q, h2, h3⟩ => ⟨b, u, v, r, e, z, seat_rp hn hp _ _ h1, q, seat_rp hn hp _ _ h2, seat_xt hn hp h3⟩
theorem seat_fs (hn : p ∉ ρ) (hp : H p = some (.lst us)) : ∀ {ps : List (Str × D)} {vs : List (Str × V)}, FsR K ρ H ps vs → FsR K (ρ ++ [p]) H ps vs
  | [], _, h => h
  | _ :: ps, _, ⟨v, r, e, h1, h2⟩ => ⟨v, r, e, seat_rp hn hp _ _ h1, seat_fs hn hp h2⟩
end
/-- the object at a dict of tuple keys -/
abbrev dtO (o : Obj) (a : Addr) : HO := .ext fun h => h.get? a = some o
section
variable (G : Gc) (ρ : List Addr) (H : Hp)
def ObR : Ob → Addr → Prop
  | .lst ds, a => ∃ vs, H a = some (.lst vs) ∧ RpVs G.K ρ H ds vs ∧ vs.length ≤ sizeLine
  | .dk kvs, a => ∃ ks, H a = some (.dK ks) ∧ KvR G.K ρ H kvs ks ∧ ks.length ≤ sizeLine
  | .dt kvs, a => ∃ (o : Obj) (es : Array DictEntry) (ep : Nat) (xs : List (NestedKey × Addr × Value)), H a = some (dtO o a) ∧ o.ExactDict ∧ o.data = .dict es ep ∧ es.toList = xs.map (entryOfKey (nestedKind G.P G.w)) ∧
      (xs.map (·.1)).Nodup ∧ (a == sysModules) = false ∧ xs.length ≤ sizeLine ∧ XtR G.K ρ H kvs xs
  | .dl kvs, a => ∃ (od o : Obj) (es : Array DictEntry) (ep : Nat) (xs : List (NestedKey × Addr × Value)), H a = some (.frz od (dtO o a)) ∧ o.ExactDict ∧ o.data = .dict es ep ∧ es.toList = xs.map (entryOfKey (nestedKind G.P G.w)) ∧
      (xs.map (·.1)).Nodup ∧ (a == sysModules) = false ∧ xs.length ≤ sizeLine ∧ XtR G.K ρ H kvs xs
  | .ins c fs, a => ∃ C dx vs, G.mg c = some (.ref C) ∧ H a = some (.ins C dx vs) ∧ FsR G.K ρ H fs vs
structure Rel (S : Store) : Prop where
  len : ρ.length = S.length
  nd : ρ.Nodup
  ob : ∀ (l : Nat) (a : Addr) (o : Ob), ρ[l]? = some a → S[l]? = some o → ObR G ρ H o a
structure REnv (σd : Env) (σ : L2.St) : Prop where
  len : σd.length = σ.length
  at_ : ∀ (i : Nat) (d : D), σd[i]? = some (some d) → ∃ v, σ[i]? = some (some v) ∧ RpV G.K ρ H d v
end
section
variable {G : Gc} {ρ ρ' : List Addr} {H H' : Hp} {S S' : Store} {σd : Env} {σ : L2.St} {l : Nat} {a : Addr} {o : Ob}
theorem REnv.ext (h : REnv G ρ H σd σ) (x : Ext ρ H ρ' H') : REnv G ρ' H' σd σ := ⟨h.len, fun i d e => let ⟨v, e1, r⟩ := h.at_ i d e; ⟨v, e1, x.rp _ _ r⟩⟩
theorem REnv.set {i : Nat} {d : D} {v : V} (h : REnv G ρ H σd σ) (r : RpV G.K ρ H d v) : REnv G ρ H (σd.set i (some d)) (σ.set i (some v)) := by
  refine ⟨by simpa using h.len, fun j e q => ?_⟩
  by_cases hj : i = j
  · subst hj
    by_cases hi : i < σd.length
    · rw [List.getElem?_set_self hi] at q
      cases q
      exact ⟨v, List.getElem?_set_self (by rw [← h.len]; exact hi), r⟩
    · rw [List.getElem?_eq_none (by simpa using hi)] at q
      cases q
  · rw [List.getElem?_set_ne hj] at q ⊢
    exact h.at_ j e q
theorem Rel.place (h : Rel G ρ H S) (e : S[l]? = some o) : ∃ a, ρ[l]? = some a ∧ ObR G ρ H o a := by
  have hl := h.len
  have hi := (List.getElem?_eq_some_iff.mp e).1
  exact ⟨_, List.getElem?_eq_getElem (by omega), h.ob l _ o (List.getElem?_eq_getElem (by omega)) e⟩
theorem ObR.some_ (h : ObR G ρ H o a) : H a ≠ none := by
  cases o with
  | lst _ => obtain ⟨_, e, _⟩ := h; rw [e]; exact fun z => nomatch z
  | dk _ => obtain ⟨_, e, _⟩ := h; rw [e]; exact fun z => nomatch z
  | dt _ => obtain ⟨_, _, _, _, e, _⟩ := h; rw [e]; exact fun z => nomatch z
  | dl _ => obtain ⟨_, _, _, _, _, e, _⟩ := h; rw [e]; exact fun z => nomatch z
  | ins _ _ => obtain ⟨_, _, _, _, e, _⟩ := h; rw [e]; exact fun z => nomatch z
theorem Rel.known (h : Rel G ρ H S) (ha : a ∈ ρ) : H a ≠ none := by
  obtain ⟨l, hl⟩ := List.mem_iff_getElem?.mp ha
  have hlt := (List.getElem?_eq_some_iff.mp hl).1
  exact (h.ob l a _ hl (List.getElem?_eq_getElem (by rw [← h.len]; exact hlt))).some_
theorem Rel.apart (h : Rel G ρ H S) (ha : H a = none) : a ∉ ρ := fun hm => h.known hm ha
/-- the object's description, carried -/
theorem ObR.ext (h : ObR G ρ H o a) (x : Ext ρ H ρ' H') (e : H' a = H a) : ObR G ρ' H' o a := by
  cases o with
  | lst _ => obtain ⟨vs, q, r, z⟩ := h; exact ⟨vs, e.trans q, x.rps _ _ r, z⟩
  | dk _ => obtain ⟨vs, q, r, z⟩ := h; exact ⟨vs, e.trans q, x.kv r, z⟩
  | dt _ => obtain ⟨ob, es, ep, xs, q, r1, r2, r3, r4, r5, r6, r7⟩ := h; exact ⟨ob, es, ep, xs, e.trans q, r1, r2, r3, r4, r5, r6, x.xt r7⟩
  | dl _ => obtain ⟨od, ob, es, ep, xs, q, r1, r2, r3, r4, r5, r6, r7⟩ := h; exact ⟨od, ob, es, ep, xs, e.trans q, r1, r2, r3, r4, r5, r6, x.xt r7⟩
  | ins _ _ => obtain ⟨C, dx, vs, m, q, r⟩ := h; exact ⟨C, dx, vs, m, e.trans q, x.fs r⟩
/-- something new that is no place of the store -/
theorem Ext.new {p : Addr} {u : HO} (hp : H p = none) : Ext ρ H ρ (upd H p u) :=
  ⟨[], by simp, (fun _ h => nomatch h), fun b v _ e => by rw [upd_ne (ne_of_none e hp)]; exact e, fun b e => by
    by_cases hb : b = p
    · rw [hb, upd_same]; exact fun z => nomatch z
    · rw [upd_ne hb]; exact e, fun b o v e => by rw [upd_ne (ne_of_none e hp)]; exact e⟩
theorem Rel.new {p : Addr} {u : HO} (h : Rel G ρ H S) (hp : H p = none) : Rel G ρ (upd H p u) S :=
  ⟨h.len, h.nd, fun l a o e1 e2 => (h.ob l a o e1 e2).ext (Ext.new hp) (upd_ne fun z => h.known (z ▸ List.mem_of_getElem? e1) hp)⟩
/-- a new place -/
theorem Ext.alloc {p : Addr} {u : HO} (hp : H p = none) : Ext ρ H (ρ ++ [p]) (upd H p u) :=
  ⟨[p], rfl, fun q hq => by rw [List.mem_singleton.mp hq]; exact hp, fun b v _ e => by rw [upd_ne (ne_of_none e hp)]; exact e, fun b e => by
    by_cases hb : b = p
    · rw [hb, upd_same]; exact fun z => nomatch z
    · rw [upd_ne hb]; exact e, fun b o v e => by rw [upd_ne (ne_of_none e hp)]; exact e⟩
theorem Rel.alloc {p : Addr} {u : HO} (h : Rel G ρ H S) (hp : H p = none) (q : ObR G (ρ ++ [p]) (upd H p u) o p) : Rel G (ρ ++ [p]) (upd H p u) (S ++ [o]) := by
  have hnp : p ∉ ρ := h.apart hp
  refine ⟨by simp [h.len], ?_, fun l a o' e1 e2 => ?_⟩
  · rw [List.nodup_append]
    exact ⟨h.nd, by simp, fun x hx y hy => by rw [List.mem_singleton.mp hy]; exact fun z => hnp (z ▸ hx)⟩
  · have hl := h.len
    by_cases hlt : l < ρ.length
    · rw [List.getElem?_append_left hlt] at e1
      rw [List.getElem?_append_left (by omega)] at e2
      exact (h.ob l a o' e1 e2).ext (Ext.alloc hp) (upd_ne fun z => hnp (z ▸ List.mem_of_getElem? e1))
    · have hb := (List.getElem?_eq_some_iff.mp e1).1
      have hl2 : l = ρ.length := by
        simp at hb
        omega
      subst hl2
      rw [List.getElem?_append_right (Nat.le_refl _)] at e1
      rw [List.getElem?_append_right (by omega)] at e2
      simp [hl] at e1 e2
      subst e1 e2
      exact q
theorem alloc_loc {p : Addr} {K : PySem.W.Frag} (h : Rel G ρ H S) : RpV K (ρ ++ [p]) H' (.loc S.length) (.ref p) := ⟨p, by rw [← h.len]; simp, rfl⟩
/-- a place is written -/
theorem Ext.write {u : HO} (ha : a ∈ ρ) (hf : ∀ o v, H a ≠ some (.frz o v)) : Ext ρ H ρ (upd H a u) :=
  ⟨[], by simp, (fun _ h => nomatch h), fun b v hb e => by rw [upd_ne (show b ≠ a from fun z => hb (by rw [z]; exact ha))]; exact e, fun b e => by
    by_cases hb : b = a
    · rw [hb, upd_same]; exact fun z => nomatch z
    · rw [upd_ne hb]; exact e, fun b o v e => by rw [upd_ne (show b ≠ a from fun z => hf o v (by rw [← z]; exact e))]; exact e⟩
theorem Rel.write {u : HO} (h : Rel G ρ H S) (hl : ρ[l]? = some a) (hf : ∀ o v, H a ≠ some (.frz o v)) (q : ObR G ρ (upd H a u) o a) : Rel G ρ (upd H a u) (S.set l o) := by
  have ha := List.mem_of_getElem? hl
  refine ⟨by simp [h.len], h.nd, fun l' a' o' e1 e2 => ?_⟩
  by_cases hll : l = l'
  · subst hll
    rw [hl] at e1
    cases e1
    have hlt := (List.getElem?_eq_some_iff.mp hl).1
    rw [List.getElem?_set_self (by rw [← h.len]; exact hlt)] at e2
    cases e2
    exact q
  · rw [List.getElem?_set_ne hll] at e2
    refine (h.ob l' a' o' e1 e2).ext (Ext.write ha hf) (upd_ne fun z => hll ?_)
    subst z
    obtain ⟨h1, e1'⟩ := List.getElem?_eq_some_iff.mp e1
    obtain ⟨h2, e2'⟩ := List.getElem?_eq_some_iff.mp hl
    exact (List.getElem_inj h.nd).mp (e2'.trans e1'.symm)
theorem Rel.inj (h : Rel G ρ H S) {l l' : Nat} (e : ρ[l]? = some a) (e' : ρ[l']? = some a) : l = l' := by
  obtain ⟨h1, e1⟩ := List.getElem?_eq_some_iff.mp e
  obtain ⟨h2, e2⟩ := List.getElem?_eq_some_iff.mp e'
  exact (List.getElem_inj h.nd).mp (e1.trans e2.symm)
end
/-! ### how an end follows -/
/-- an exception as the machine has it, and as it lies in the heap -/
def XRep (G : Gc) (x : Xc) (u : Value) (dx : Option Addr) (H : Hp) : Prop :=
  ∃ C, G.mg x.cls = some (.ref C) ∧ u = .ref C ∧ match dx with
    | none => x.fs = []
    | some d => H d = some (.xd (x.fs.map fun p => (p.1, V.int p.2)))
section
variable (G : Gc) (W : WX)
def Out {α β : Type} (rp : List Addr → Hp → α → β → Prop) (ρ : List Addr) (H : Hp) (σ : L2.St) (Q : β → Hp → Prop) : R α → Prop
  | .ok a S' => ∀ ρ' H' b, Ext ρ H ρ' H' → Rel G ρ' H' S' → rp ρ' H' a b → Q b H'
  | .exc x S' => ∀ ρ' H' u dx, Ext ρ H ρ' H' → Rel G ρ' H' S' → XRep G x u dx H' → W u dx σ H'
  | .bad => False
def OutS (ρ : List Addr) (H : Hp) (E : Ends) : RS → Prop
  | .nx σd S' => ∀ ρ' H' σ', Ext ρ H ρ' H' → Rel G ρ' H' S' → REnv G ρ' H' σd σ' → E.nx σ' H'
  | .rt d S' => ∀ ρ' H' v, Ext ρ H ρ' H' → Rel G ρ' H' S' → RpV G.K ρ' H' d v → E.rt v H'
  | .exc x σd S' => ∀ ρ' H' σ' u dx, Ext ρ H ρ' H' → Rel G ρ' H' S' → REnv G ρ' H' σd σ' → XRep G x u dx H' → W u dx σ' H'
  | .bad => False
abbrev rpV : List Addr → Hp → D → V → Prop := fun ρ H d v => RpV G.K ρ H d v
abbrev rpVs : List Addr → Hp → List D → List V → Prop := fun ρ H d v => RpVs G.K ρ H d v
def tG {α β : Type} (rp : List Addr → Hp → α → β → Prop) (c : Env → Store → R α) : L2.St → Hp → (β → Hp → Prop) → Prop := fun σ H Q =>
  ∃ ρ σd S, Rel G ρ H S ∧ REnv G ρ H σd σ ∧ Out G W rp ρ H σ Q (c σd S)
def tE (c : EM) : TE := tG G W (rpV G) c
def tEs (c : EMs) : TA := tG G W (rpVs G) c
def tS (c : SM) : TS := fun E σ H => ∃ ρ σd S, Rel G ρ H S ∧ REnv G ρ H σd σ ∧ OutS G W ρ H E (c σd S)
end
section
variable {G : Gc} {W : WX} {ρ ρ' : List Addr} {H H' : Hp} {S : Store} {σd : Env} {σ : L2.St}
theorem Out.carry {α β : Type} {rp : List Addr → Hp → α → β → Prop} {Q : β → Hp → Prop} {r : R α} (h : Out G W rp ρ H σ Q r) (x : Ext ρ H ρ' H') : Out G W rp ρ' H' σ Q r := by
  cases r with
  | ok a S' => exact fun ρ2 H2 b y => h ρ2 H2 b (x.trans y)
  | exc e S' => exact fun ρ2 H2 u dx y => h ρ2 H2 u dx (x.trans y)
  | bad => exact h
theorem OutS.carry {E : Ends} {r : RS} (h : OutS G W ρ H E r) (x : Ext ρ H ρ' H') : OutS G W ρ' H' E r := by
  cases r with
  | nx a S' => exact fun ρ2 H2 b y => h ρ2 H2 b (x.trans y)
  | rt a S' => exact fun ρ2 H2 b y => h ρ2 H2 b (x.trans y)
  | exc e s S' => exact fun ρ2 H2 σ' u dx y => h ρ2 H2 σ' u dx (x.trans y)
  | bad => exact h
theorem Out.imp {α β : Type} {rp : List Addr → Hp → α → β → Prop} {Q Q' : β → Hp → Prop} {r : R α} (h : Out G W rp ρ H σ Q r) (f : ∀ b H, Q b H → Q' b H) : Out G W rp ρ H σ Q' r := by
  cases r with
  | ok a S' => exact fun ρ2 H2 b y z q => f _ _ (h ρ2 H2 b y z q)
  | exc e S' => exact h
  | bad => exact h
/-- the first part runs; then the rest -/
theorem step {α β γ δ : Type} {rp : List Addr → Hp → α → β → Prop} {rp' : List Addr → Hp → γ → δ → Prop} {c : Env → Store → R α} {f : α → Store → R γ} {Q : δ → Hp → Prop} (hR : Rel G ρ H S) (hE : REnv G ρ H σd σ)
    (h : Out G W rp' ρ H σ Q ((c σd S).bind f)) {Q' : β → Hp → Prop}
    (k : ∀ ρ1 H1 a S1 b, Ext ρ H ρ1 H1 → Rel G ρ1 H1 S1 → REnv G ρ1 H1 σd σ → rp ρ1 H1 a b → c σd S = .ok a S1 → Out G W rp' ρ1 H1 σ Q (f a S1) → Q' b H1) : tG G W rp c σ H Q' := by
  refine ⟨ρ, σd, S, hR, hE, ?_⟩
  cases e : c σd S with
  | ok a S1 =>
    rw [e] at h
    exact fun ρ1 H1 b x r q => k ρ1 H1 a S1 b x r (hE.ext x) q e (Out.carry (show Out G W rp' ρ H σ Q (f a S1) from h) x)
  | exc x S1 =>
    rw [e] at h
    exact h
  | bad =>
    rw [e] at h
    exact h
theorem stepS {α β : Type} {rp : List Addr → Hp → α → β → Prop} {c : Env → Store → R α} {f : α → Store → RS} {E : Ends} (hR : Rel G ρ H S) (hE : REnv G ρ H σd σ)
    (h : OutS G W ρ H E (bindS (c σd S) σd f)) {Q' : β → Hp → Prop}
    (k : ∀ ρ1 H1 a S1 b, Ext ρ H ρ1 H1 → Rel G ρ1 H1 S1 → REnv G ρ1 H1 σd σ → rp ρ1 H1 a b → c σd S = .ok a S1 → OutS G W ρ1 H1 E (f a S1) → Q' b H1) : tG G W rp c σ H Q' := by
  refine ⟨ρ, σd, S, hR, hE, ?_⟩
  cases e : c σd S with
  | ok a S1 =>
    rw [e] at h
    exact fun ρ1 H1 b x r q => k ρ1 H1 a S1 b x r (hE.ext x) q e (OutS.carry (show OutS G W ρ H E (f a S1) from h) x)
  | exc x S1 =>
    rw [e] at h
    exact fun ρ1 H1 u dx y r q => h ρ1 H1 σ u dx y r (hE.ext y) q
  | bad =>
    rw [e] at h
    exact h
theorem Out.here {α β : Type} {rp : List Addr → Hp → α → β → Prop} {Q : β → Hp → Prop} {a : α} {b : β} (h : Out G W rp ρ H σ Q (.ok a S)) (r : Rel G ρ H S) (q : rp ρ H a b) : Q b H := h ρ H b Ext.refl r q
end
end Mn
set_option maxHeartbeats 4000000
/-! One rule for each construct: what the model does, the small machine does. -/
namespace Mn
open PySem PySem.Spec PyProof.Rows L2
abbrev gOf (X : Cx) : Gc := ⟨X.prog, X.w, X.K, X.mg⟩
section
variable {X : Cx}
theorem PE_imp {e : Expr} {t t' : TE} (h : PE X e t) (f : ∀ σ H Q, t' σ H Q → t σ H Q) : PE X e t' := ⟨fun pins s σ H Q I q => h.run pins s σ H Q I (f _ _ _ q)⟩
theorem PT_imp {e : Expr} {t t' : TT} (h : PT X e t) (f : ∀ σ H Q, t' σ H Q → t σ H Q) : PT X e t' := ⟨fun pins s σ H Q I q => h.run pins s σ H Q I (f _ _ _ q)⟩
theorem PW_imp {e : Expr} {t t' : TT} (h : PW X e t) (f : ∀ σ H Q, t' σ H Q → t σ H Q) : PW X e t' := ⟨fun wh pins s σ H Q I q => h.run wh pins s σ H Q I (f _ _ _ q)⟩
theorem PA_imp {e : List Expr} {t t' : TA} (h : PA X e t) (f : ∀ σ H Q, t' σ H Q → t σ H Q) : PA X e t' := ⟨fun pos pins s σ H Q I q => h.run pos pins s σ H Q I (f _ _ _ q)⟩
theorem PS_imp {e : Stmt} {t t' : TS} (h : PS X e t) (f : ∀ D σ H, t' D σ H → t D σ H) : PS X e t' := ⟨fun pins s σ H Q I q => h.run pins s σ H Q I (f _ _ _ q)⟩
theorem PSs_imp {e : List Stmt} {t t' : TS} (h : PSs X e t) (f : ∀ D σ H, t' D σ H → t D σ H) : PSs X e t' := ⟨fun pins s σ H Q I q => h.run pins s σ H Q I (f _ _ _ q)⟩
theorem PI_imp {tg e : Expr} {t t' : TI} (h : PI X tg e t) (f : ∀ σ H Q, t' σ H Q → t σ H Q) : PI X tg e t' := ⟨fun pins s σ H Q I q => h.run pins s σ H Q I (f _ _ _ q)⟩
theorem PG_imp {e : Expr} {t t' : TG} (h : PG X e t) (f : ∀ v σ H Q, t' v σ H Q → t v σ H Q) : PG X e t' := ⟨fun pins s σ H v u Q I r q => h.run pins s σ H v u Q I r (f _ _ _ _ q)⟩
end
/-- the machine's expression, list, statement stand for the model's -/
abbrev ME (X : Cx) (W : WX) (e : Expr) (c : EM) : Prop := PE X e (tE (gOf X) W c)
def Len (c : EMs) (n : Nat) : Prop := ∀ σ S ds S', c σ S = .ok ds S' → ds.length = n
structure MA (X : Cx) (W : WX) (es : List Expr) (c : EMs) (n : Nat) : Prop where
  pa : PA X es (tEs (gOf X) W c)
  len : Len c n
abbrev MS (X : Cx) (W : WX) (st : Stmt) (c : SM) : Prop := PS X st (tS (gOf X) W c)
abbrev MSs (X : Cx) (W : WX) (st : List Stmt) (c : SM) : Prop := PSs X st (tS (gOf X) W c)
/-- a truth value -/
def rB : R D → R Bool
  | .ok (.bl b) S1 => .ok b S1
  | .ok _ _ => .bad
  | .exc x S1 => .exc x S1
  | .bad => .bad
def cB (c : EM) : Env → Store → R Bool := fun σ S => rB (c σ S)
abbrev rpB : List Addr → Hp → Bool → Bool → Prop := fun _ _ a b => a = b
abbrev MT (X : Cx) (W : WX) (e : Expr) (c : EM) : Prop := PT X e (tG (gOf X) W rpB (cB c))
abbrev MW (X : Cx) (W : WX) (e : Expr) (c : EM) : Prop := PW X e (tG (gOf X) W rpB (cB c))
def WT : WX := fun _ _ _ _ => True
section
variable {G : Gc} {W : WX} {ρ : List Addr} {H : Hp} {S : Store} {σd : Env} {σ : L2.St}
theorem Out.wt {α β : Type} {rp : List Addr → Hp → α → β → Prop} {Q : β → Hp → Prop} {r : R α} {σ' : L2.St} (h : Out G W rp ρ H σ Q r) : Out G WT rp ρ H σ' Q r := by
  cases r with
  | ok a S' => exact h
  | exc e S' => exact fun _ _ _ _ _ _ _ => True.intro
  | bad => exact h
theorem Out.sig {α β : Type} {rp : List Addr → Hp → α → β → Prop} {Q : β → Hp → Prop} {r : R α} {σ' : L2.St} (h : Out G WT rp ρ H σ Q r) : Out G WT rp ρ H σ' Q r := h.wt
theorem rB_bind {α : Type} {r : R α} {f : α → Store → R D} : rB (r.bind f) = r.bind fun a S => rB (f a S) := by cases r <;> rfl
theorem rB_tst {r : R D} {f : Bool → Store → R D} : rB (tst r f) = (rB r).bind fun b S => rB (f b S) := by
  cases r with
  | ok a S => cases a <;> rfl
  | exc _ _ => rfl
  | bad => rfl
theorem tst_rB {r : R D} {f : Bool → Store → R D} : tst r f = (rB r).bind f := by
  cases r with
  | ok a S => cases a <;> rfl
  | exc _ _ => rfl
  | bad => rfl
end
section
variable {X : Cx} {W : WX}
/-! ### names, constants -/
theorem me_var {i : Nat} {x : Str} {pos : Pos} (hN : X.N[i]? = some x) (hv : Vis X.env.scope x) (hd : (x == ("__debug__" : Str)) = false := by decide) (hcd : (x == ("__classdict__" : Str)) = false := by decide) : ME X W (.Name x pos) (eVar i) := by
  refine PE_imp (pe_var hN hv hd hcd) fun σ H Q ⟨ρ, σd, S, hR, hE, h⟩ => ?_
  unfold eVar at h
  split at h
  · rename_i d e
    obtain ⟨v, e', r⟩ := hE.at_ i d e
    exact ⟨v, e', h.here hR r⟩
  · exact h.elim
theorem me_cst {e : Expr} {d : D} {v : V} (h : PE X e (tC v)) (r : ∀ ρ H, RpV X.K ρ H d v) : ME X W e (eC d) :=
  PE_imp h fun σ H Q ⟨ρ, σd, S, hR, hE, h⟩ => h.here hR (r _ _)
theorem me_int {i j pos} : ME X W (.Constant (.int i) j pos) (eC (.int i)) := me_cst pe_int fun _ _ => rfl
theorem me_bl {b j pos} : ME X W (.Constant (.bool b) j pos) (eC (.bl b)) := me_cst pe_bl fun _ _ => rfl
theorem me_non {j pos} : ME X W (.Constant .none j pos) (eC .non) := me_cst pe_non fun _ _ => rfl
theorem me_str {x j pos} : ME X W (.Constant (.str x) j pos) (eC (.str x)) := me_cst pe_str fun _ _ => rfl
/-- a constant of the module -/
theorem me_gl {x : Str} {d : D} {pos : Pos} (hg : Gl X x) (hm : ∃ v u, X.mg x = some u ∧ RelV v u ∧ ∀ ρ H, RpV X.K ρ H d v) (hd : (x == ("__debug__" : Str)) = false := by decide) : ME X W (.Name x pos) (eC d) :=
  let ⟨v, u, m, r, q⟩ := hm; me_cst (pe_glob hg m r hd) q
/-! ### lists of arguments, displays -/
theorem ma_nil : MA X W [] eNil 0 := ⟨PA_imp pa_nil fun σ H Q ⟨ρ, σd, S, hR, hE, h⟩ => h.here hR (show RpVs X.K ρ H [] [] from rfl), fun σ S ds S' e => by cases e; rfl⟩
theorem ma_cons {e : Expr} {es : List Expr} {c : EM} {cs : EMs} {n : Nat} (h : ME X W e c) (hs : MA X W es cs n) (hst : starEach (e :: es) X.env = (false, eval e X.env) :: starEach es X.env := by rfl) : MA X W (e :: es) (eCons c cs) (n + 1) := by
  refine ⟨PA_imp (pa_cons h hs.pa hst) fun σ H Q ⟨ρ, σd, S, hR, hE, h⟩ => ?_, fun σ S ds S' e => ?_⟩
  · refine step hR hE h fun ρ1 H1 d S1 v x1 R1 E1 r1 _ o1 => ?_
    refine step R1 E1 o1 fun ρ2 H2 ds S2 vs x2 R2 E2 r2 _ o2 => ?_
    exact o2.here R2 ⟨v, vs, rfl, x2.rp _ _ r1, r2⟩
  · unfold eCons at e
    cases e1 : c σ S with
    | ok d S1 =>
      rw [e1] at e
      cases e2 : cs σ S1 with
      | ok ds' S2 =>
        have e : (cs σ S1).bind (fun ds S2 => R.ok (d :: ds) S2) = .ok ds S' := e
        rw [e2] at e
        cases e
        rw [List.length_cons, hs.len σ S1 ds' _ e2]
      | exc _ _ =>
        have e : (cs σ S1).bind (fun ds S2 => R.ok (d :: ds) S2) = .ok ds S' := e
        rw [e2] at e
        cases e
      | bad =>
        have e : (cs σ S1).bind (fun ds S2 => R.ok (d :: ds) S2) = .ok ds S' := e
        rw [e2] at e
        cases e
    | exc _ _ => rw [e1] at e; cases e
    | bad => rw [e1] at e; cases e
theorem me_tup {es : List Expr} {cs : EMs} {n x1 : Nat} {pos : Pos} (h : MA X W es cs n) (hn : n ≤ sizeLine := by decide) : ME X W (.Tuple es x1 pos) (eTup cs) := by
  refine PE_imp (pe_tup h.pa) fun σ H Q ⟨ρ, σd, S, hR, hE, q⟩ => ?_
  refine step hR hE q fun ρ1 H1 ds S1 vs x1 R1 E1 r1 e1 o1 => ?_
  have hl : vs.length ≤ sizeLine := by rw [r1.length, h.len _ _ _ _ e1]; exact hn
  refine ⟨hl, fun p hp => ?_⟩
  exact o1 ρ1 (upd H1 p (.tup vs)) (.ref p) (Ext.new hp) (R1.new hp) ⟨p, vs, rfl, .inl ⟨.inl upd_same, R1.apart hp⟩, hl, (Ext.new hp).rps _ _ r1⟩
theorem me_lst {es : List Expr} {cs : EMs} {n : Nat} {pos : Pos} (h : MA X W es cs n) (hn : n ≤ sizeLine := by decide) : ME X W (.List es pos) (eLst cs) := by
  refine PE_imp (pe_lst h.pa) fun σ H Q ⟨ρ, σd, S, hR, hE, q⟩ => ?_
  refine step hR hE q fun ρ1 H1 ds S1 vs x1 R1 E1 r1 e1 o1 => ?_
  have hl : vs.length ≤ sizeLine := by rw [r1.length, h.len _ _ _ _ e1]; exact hn
  refine ⟨hl, fun p hp => ?_⟩
  exact o1 (ρ1 ++ [p]) (upd H1 p (.lst vs)) (.ref p) (Ext.alloc hp) (R1.alloc hp ⟨vs, upd_same, (Ext.alloc hp).rps _ _ r1, hl⟩) (alloc_loc R1)
/-! ### operators -/
/-- an operator's wish, by values -/
def r2 (G : Gc) (f : D → D → Store → R D) : L2.R2 := fun x y H Q => ∃ ρ S d e, Rel G ρ H S ∧ RpV G.K ρ H d x ∧ RpV G.K ρ H e y ∧ Out G WT (rpV G) ρ H [] Q (f d e S)
def r1 (G : Gc) (f : D → Store → R D) : V → Hp → VK → Prop := fun x H Q => ∃ ρ S d, Rel G ρ H S ∧ RpV G.K ρ H d x ∧ Out G WT (rpV G) ρ H [] Q (f d S)
def rF (G : Gc) (f : List D → Store → R D) : List V → Hp → VK → Prop := fun vs H Q => ∃ ρ S ds, Rel G ρ H S ∧ RpVs G.K ρ H ds vs ∧ Out G WT (rpV G) ρ H [] Q (f ds S)
theorem me_op {op : Operator} {a b : Expr} {ca cb : EM} {f : D → D → Store → R D} {pos : Pos} (ho : OpR X (binaryOp op) (r2 (gOf X) f)) (ha : ME X W a ca) (hb : ME X W b cb) : ME X W (.BinOp a op b pos) (e2 f ca cb) := by
  refine PE_imp (pe_op ho ha hb) fun σ H Q ⟨ρ, σd, S, hR, hE, h⟩ => ?_
  refine step hR hE h fun ρ1 H1 d S1 v x1 R1 E1 q1 _ o1 => ?_
  refine step R1 E1 o1 fun ρ2 H2 e S2 u x2 R2 E2 q2 _ o2 => ?_
  exact ⟨ρ2, S2, d, e, R2, x2.rp _ _ q1, q2, o2.wt⟩
theorem me_un {op : UnaryOp} {a : Expr} {ca : EM} {f : D → Store → R D} {pos : Pos} (ho : UnR X (unaryOp op) (r1 (gOf X) f)) (ha : ME X W a ca) : ME X W (.UnaryOp op a pos) (e1 f ca) := by
  refine PE_imp (pe_un ho ha) fun σ H Q ⟨ρ, σd, S, hR, hE, h⟩ => ?_
  refine step hR hE h fun ρ1 H1 d S1 v x1 R1 E1 q1 _ o1 => ?_
  exact ⟨ρ1, S1, d, R1, q1, o1.wt⟩
theorem me_cmp {op : CmpOp} {a b : Expr} {ca cb : EM} {f : D → D → Store → R D} {pos : Pos} (ho : OpR X (compareOp op) (r2 (gOf X) f)) (ha : ME X W a ca) (hb : ME X W b cb) (hm : behindInMarks op b = false := by rfl) : ME X W (.Compare a [op] [b] pos) (e2 f ca cb) := by
  refine PE_imp (pe_cmpR ho ha hb hm) fun σ H Q ⟨ρ, σd, S, hR, hE, h⟩ => ?_
  refine step hR hE h fun ρ1 H1 d S1 v x1 R1 E1 q1 _ o1 => ?_
  refine step R1 E1 o1 fun ρ2 H2 e S2 u x2 R2 E2 q2 _ o2 => ?_
  exact ⟨ρ2, S2, d, e, R2, x2.rp _ _ q1, q2, o2.wt⟩
/-- of two ints -/
theorem ints2 {G : Gc} {ρ : List Addr} {H : Hp} {x y : V} {i j : Int} (h1 : RpV G.K ρ H (.int i) x) (h2 : RpV G.K ρ H (.int j) y) : x = .int i ∧ y = .int j := ⟨h1, h2⟩
theorem or_int {f : Value → Value → Sem Value} {C : Int → Int → Prop} {g : Int → Int → V} {g' : Int → Int → D} {o : D → D → Store → R D} (h : OpR X f (rI C g)) (hg : ∀ ρ H i j, RpV X.K ρ H (g' i j) (g i j))
    (ho : ∀ G ρ H Q d e S, Out G WT (rpV G) ρ H [] Q (o d e S) → ∃ i j, d = .int i ∧ e = .int j ∧ C i j ∧ o d e S = .ok (g' i j) S) : OpR X f (r2 (gOf X) o) := by
  intro pins s σ H x y v u Q I rx ry ⟨ρ, S, d, e, hR, hd, he, q⟩
  obtain ⟨i, j, rfl, rfl, hc, eo⟩ := ho _ _ _ _ _ _ _ q
  rw [eo] at q
  exact h pins s σ H x y v u Q I rx ry ⟨i, j, hd, he, hc, q.here hR (hg _ _ _ _)⟩
theorem or_int0 {f : Value → Value → Sem Value} {g : Int → Int → V} {g' : Int → Int → D} {o : D → D → Store → R D} (h : OpR X f (rI0 g)) (hg : ∀ ρ H i j, RpV X.K ρ H (g' i j) (g i j))
    (ho : ∀ G ρ H Q d e S, Out G WT (rpV G) ρ H [] Q (o d e S) → ∃ i j, d = .int i ∧ e = .int j ∧ o d e S = .ok (g' i j) S) : OpR X f (r2 (gOf X) o) := by
  intro pins s σ H x y v u Q I rx ry ⟨ρ, S, d, e, hR, hd, he, q⟩
  obtain ⟨i, j, rfl, rfl, eo⟩ := ho _ _ _ _ _ _ _ q
  rw [eo] at q
  exact h pins s σ H x y v u Q I rx ry ⟨i, j, hd, he, q.here hR (hg _ _ _ _)⟩
theorem Out.ite {α β : Type} {G : Gc} {W : WX} {rp : List Addr → Hp → α → β → Prop} {ρ : List Addr} {H : Hp} {σ : L2.St} {Q : β → Hp → Prop} {c : Prop} [Decidable c] {r : R α} (h : Out G W rp ρ H σ Q (if c then r else .bad)) : c ∧ Out G W rp ρ H σ Q r := by
  by_cases hc : c
  · rw [if_pos hc] at h; exact ⟨hc, h⟩
  · rw [if_neg hc] at h; exact h.elim
theorem or_sub : OpR X (binaryOp .Sub) (r2 (gOf X) oSub) := or_int0 (g' := fun i j => .int (i - j)) op_sub (fun _ _ _ _ => rfl) fun G ρ H Q d e S q => by
  unfold oSub at q ⊢
  split at q
  · exact ⟨_, _, rfl, rfl, rfl⟩
  · exact q.elim
theorem or_div : OpR X (binaryOp .FloorDiv) (r2 (gOf X) oDiv) := or_int (g' := fun i j => .int (i / j)) op_fdiv (fun _ _ _ _ => rfl) fun G ρ H Q d e S q => by
  unfold oDiv at q ⊢
  split at q
  · obtain ⟨hc, q⟩ := q.ite
    exact ⟨_, _, rfl, rfl, hc, if_pos hc⟩
  · exact q.elim
theorem or_mod : OpR X (binaryOp .Mod) (r2 (gOf X) oMod) := or_int (g' := fun i j => .int (i % j)) op_mod (fun _ _ _ _ => rfl) fun G ρ H Q d e S q => by
  unfold oMod at q ⊢
  split at q
  · obtain ⟨hc, q⟩ := q.ite
    exact ⟨_, _, rfl, rfl, hc, if_pos hc⟩
  · exact q.elim
theorem or_pow : OpR X (binaryOp .Pow) (r2 (gOf X) oPow) := or_int (g' := fun i j => .int (i ^ j.toNat)) op_pow (fun _ _ _ _ => rfl) fun G ρ H Q d e S q => by
  unfold oPow at q ⊢
  split at q
  · obtain ⟨hc, q⟩ := q.ite
    exact ⟨_, _, rfl, rfl, hc, if_pos hc⟩
  · exact q.elim
theorem or_cmpI {op : CmpOp} {f : Int → Int → Bool} (h : OpR X (compareOp op) (rI0 fun i j => .bl (f i j))) : OpR X (compareOp op) (r2 (gOf X) (oCmp f)) := or_int0 (g' := fun i j => .bl (f i j)) h (fun _ _ _ _ => rfl) fun G ρ H Q d e S q => by
  unfold oCmp at q ⊢
  split at q
  · exact ⟨_, _, rfl, rfl, rfl⟩
  · exact q.elim
theorem or_lt : OpR X (compareOp .Lt) (r2 (gOf X) oLt) := or_cmpI op_lt
theorem or_le : OpR X (compareOp .LtE) (r2 (gOf X) oLe) := or_cmpI op_le
theorem or_gt : OpR X (compareOp .Gt) (r2 (gOf X) oGt) := or_cmpI op_gt
theorem or_ge : OpR X (compareOp .GtE) (r2 (gOf X) oGe) := or_cmpI op_ge
theorem ur_neg : UnR X (unaryOp .USub) (r1 (gOf X) oNeg) := by
  intro pins s σ H x v Q I rx ⟨ρ, S, d, hR, hd, q⟩
  unfold oNeg at q
  split at q
  · exact un_neg pins s σ H x v Q I rx ⟨_, hd, q.here hR rfl⟩
  · exact q.elim
/-- lists at places -/
theorem Rel.lst {G : Gc} {ρ : List Addr} {H : Hp} {S : Store} {l : Nat} {xs : List D} {v : V} (hR : Rel G ρ H S) (e : S[l]? = some (.lst xs)) (hv : RpV G.K ρ H (.loc l) v) :
    ∃ a vs, v = .ref a ∧ ρ[l]? = some a ∧ H a = some (.lst vs) ∧ RpVs G.K ρ H xs vs ∧ vs.length ≤ sizeLine := by
  obtain ⟨a, ea, vs, h1, h2, h3⟩ := hR.place e
  obtain ⟨a', ea', rfl⟩ := hv
  rw [ea] at ea'
  cases ea'
  exact ⟨a, vs, rfl, ea, h1, h2, h3⟩
theorem Out.newL {G : Gc} {ρ : List Addr} {H : Hp} {S : Store} {xs : List D} {vs : List V} {σ : L2.St} {W : WX} {Q : V → Hp → Prop} {p : Addr} (q : Out G W (rpV G) ρ H σ Q (.ok (.loc S.length) (S ++ [.lst xs]))) (hR : Rel G ρ H S) (hp : H p = none)
    (r : RpVs G.K ρ H xs vs) (hz : vs.length ≤ sizeLine) : Q (.ref p) (upd H p (.lst vs)) :=
  q (ρ ++ [p]) _ _ (Ext.alloc hp) (hR.alloc hp ⟨vs, upd_same, (Ext.alloc hp).rps _ _ r, hz⟩) (alloc_loc hR)
theorem Out.newT {G : Gc} {ρ : List Addr} {H : Hp} {S : Store} {xs : List D} {vs : List V} {σ : L2.St} {W : WX} {Q : V → Hp → Prop} {p : Addr} (q : Out G W (rpV G) ρ H σ Q (.ok (.tup xs) S)) (hR : Rel G ρ H S) (hp : H p = none)
    (r : RpVs G.K ρ H xs vs) (hz : vs.length ≤ sizeLine) : Q (.ref p) (upd H p (.tup vs)) :=
  q ρ _ _ (Ext.new hp) (hR.new hp) ⟨p, vs, rfl, .inl ⟨.inl upd_same, hR.apart hp⟩, hz, (Ext.new hp).rps _ _ r⟩
theorem RpVs.nil_iff {K : PySem.W.Frag} {ρ : List Addr} {H : Hp} {ds : List D} {vs : List V} (h : RpVs K ρ H ds vs) : vs = [] ↔ ds = [] := by
  have hl := h.length
  constructor
  · intro e
    rw [e, List.length_nil] at hl
    exact List.eq_nil_of_length_eq_zero hl.symm
  · intro e
    rw [e, List.length_nil] at hl
    exact List.eq_nil_of_length_eq_zero hl
theorem or_add : OpR X (binaryOp .Add) (r2 (gOf X) oAdd) := by
  intro pins s σ H x y v u Q I rx ry ⟨ρ, S, d, e, hR, hd, he, q⟩
  unfold oAdd at q
  split at q
  · exact op_add pins s σ H x y v u Q I rx ry ⟨_, _, hd, he, q.here hR rfl⟩
  · obtain ⟨hz, q⟩ := q.ite
    exact op_add_str pins s σ H x y v u Q I rx ry ⟨_, _, hd, he, hz, q.here hR rfl⟩
  · obtain ⟨hz, q⟩ := q.ite
    obtain ⟨a, vs, ea, ta, za, ra⟩ := hd
    obtain ⟨b, us, eb, tb, zb, rb⟩ := he
    have hz' : vs.length + us.length ≤ sizeLine := by rw [ra.length, rb.length]; exact hz
    refine op_catA pins s σ H x y v u Q I rx ry ⟨a, b, vs, us, ea, eb, ta.sq, tb.sq, hz', fun e0 => ?_, fun e0 e1 => ?_, fun e0 e1 p hp => ?_⟩
    · have e0' := ra.nil_iff.mp e0
      subst e0'
      exact q.here hR ⟨b, us, rfl, tb, zb, by simpa using rb⟩
    · have e1' := rb.nil_iff.mp e1
      subst e1'
      exact q.here hR ⟨a, vs, rfl, ta, za, by simpa using ra⟩
    · exact q.newT hR hp (ra.append rb) (by rw [List.length_append]; exact hz')
  · split at q
    · rename_i e1 e2
      obtain ⟨hz, q⟩ := q.ite
      obtain ⟨a, vs, ea, _, ha, ra, za⟩ := hR.lst e1 hd
      obtain ⟨b, us, eb, _, hb, rb, zb⟩ := hR.lst e2 he
      have hz' : vs.length + us.length ≤ sizeLine := by rw [ra.length, rb.length]; exact hz
      exact op_cat pins s σ H x y v u Q I rx ry ⟨a, b, vs, us, ea, eb, ha, hb, hz', fun p hp => q.newL hR hp (ra.append rb) (by rw [List.length_append]; exact hz')⟩
    · exact q.elim
  · exact q.elim
theorem len_rep {α : Type} (xs : List α) : ∀ n : Nat, (List.replicate n xs).flatten.length = xs.length * n
  | 0 => by simp
  | n + 1 => by rw [List.replicate_succ, List.flatten_cons, List.length_append, len_rep xs n, Nat.mul_succ]; omega
theorem or_mul : OpR X (binaryOp .Mult) (r2 (gOf X) oMul) := by
  intro pins s σ H x y v u Q I rx ry ⟨ρ, S, d, e, hR, hd, he, q⟩
  unfold oMul at q
  split at q
  · rename_i i j
    by_cases hc : mulOk i j = true
    · rw [if_pos hc] at q
      exact op_mul pins s σ H x y v u Q I rx ry ⟨_, _, hd, he, (by have h := of_decide_eq_true hc; exact h), q.here hR rfl⟩
    · rw [if_neg hc] at q
      exact q.elim
  · rename_i a' k'
    obtain ⟨⟨h0, h1, h2, h3⟩, q⟩ := q.ite
    obtain ⟨a, vs, ea, ta, za, ra⟩ := hd
    refine op_repT pins s σ H x y v u Q I rx ry ⟨a, _, vs, ea, he, ta.sq, fun z => h0 (ra.nil_iff.mp z), h1, h2, by rw [ra.length]; exact h3, fun p hp => q.newT hR hp (ra.rep _) ?_⟩
    rw [len_rep, ra.length, sizeLine_eq]
    have h4 : k'.toNat ≤ 1000 := by omega
    have h5 := Nat.mul_le_mul h3 h4
    omega
  · split at q
    · rename_i e1
      obtain ⟨⟨h1, h2, h3⟩, q⟩ := q.ite
      obtain ⟨a, vs, ea, _, ha, ra, za⟩ := hR.lst e1 hd
      refine op_rep pins s σ H x y v u Q I rx ry ⟨a, _, vs, ea, he, ha, h1, h2, by rw [ra.length]; exact h3, fun p hp => q.newL hR hp (ra.rep _) ?_⟩
      rw [len_rep, ra.length]
      exact h3
    · exact q.elim
  · exact q.elim
/-! ### is None -/
theorem me_isN {a : Expr} {ca : EM} {j pos pos'} (ha : ME X W a ca) : ME X W (.Compare a [.Is] [.Constant .none j pos'] pos) (e1 oIsN ca) := by
  refine PE_imp (pe_cmpR op_isN ha pe_non (nomark _)) fun σ H Q ⟨ρ, σd, S, hR, hE, h⟩ => ?_
  refine step hR hE h fun ρ1 H1 d S1 v x1 R1 E1 q1 _ o1 => ?_
  refine ⟨rfl, ?_⟩
  have e : decide (v = V.non) = decide (d = .non) := by
    cases d with
    | non => rw [show v = _ from q1]; rfl
    | bl b => rw [show v = _ from q1]; rfl
    | int b => rw [show v = _ from q1]; rfl
    | str b => rw [show v = _ from q1]; rfl
    | tup b => obtain ⟨a, vs, e, _⟩ := q1; rw [e]; rfl
    | ro b => obtain ⟨a, vs, e, _⟩ := q1; rw [e]; rfl
    | loc b => obtain ⟨a, _, e⟩ := q1; rw [e]; rfl
  rw [e]
  exact o1.here R1 rfl
theorem me_notN {a : Expr} {ca : EM} {j pos pos'} (ha : ME X W a ca) : ME X W (.Compare a [.IsNot] [.Constant .none j pos'] pos) (e1 oNotN ca) := by
  refine PE_imp (pe_cmpR op_notN ha pe_non (nomark _)) fun σ H Q ⟨ρ, σd, S, hR, hE, h⟩ => ?_
  refine step hR hE h fun ρ1 H1 d S1 v x1 R1 E1 q1 _ o1 => ?_
  refine ⟨rfl, ?_⟩
  have e : decide (v = V.non) = decide (d = .non) := by
    cases d with
    | non => rw [show v = _ from q1]; rfl
    | bl b => rw [show v = _ from q1]; rfl
    | int b => rw [show v = _ from q1]; rfl
    | str b => rw [show v = _ from q1]; rfl
    | tup b => obtain ⟨a, vs, e, _⟩ := q1; rw [e]; rfl
    | ro b => obtain ⟨a, vs, e, _⟩ := q1; rw [e]; rfl
    | loc b => obtain ⟨a, _, e⟩ := q1; rw [e]; rfl
  rw [e]
  exact o1.here R1 rfl
/-! ### == -/
mutual
theorem pd_dp {G : Gc} {ρ : List Addr} {H : Hp} {S : Store} (hR : Rel G ρ H S) : ∀ (n : Nat) (d : D) (v : V) (p : PyData), pd n S d = some p → RpV G.K ρ H d v → Dp G.K H v p
  | 0, _, _, _, e, _ => by simp [pd] at e
  | n + 1, .non, v, p, e, h => by
    simp only [pd, Option.some.injEq] at e
    rw [← e, show v = _ from h]; exact .non
  | n + 1, .bl b, v, p, e, h => by
    simp only [pd, Option.some.injEq] at e
    rw [← e, show v = _ from h]; exact .bl b
  | n + 1, .int b, v, p, e, h => by
    simp only [pd, Option.some.injEq] at e
    rw [← e, show v = _ from h]; exact .int b
  | n + 1, .str b, v, p, e, h => by
    simp only [pd, Option.some.injEq] at e
    rw [← e, show v = _ from h]; exact .str b
  | n + 1, .tup xs, v, p, e, h => by
    simp only [pd, Option.map_eq_some_iff] at e
    obtain ⟨ps, e, rfl⟩ := e
    obtain ⟨a, vs, rfl, ta, _, ra⟩ := h
    exact .tup ta.sq (pds_dp hR n xs vs ps e ra)
  | n + 1, .ro xs, v, p, e, h => by
    simp only [pd, Option.map_eq_some_iff] at e
    obtain ⟨ps, e, rfl⟩ := e
    obtain ⟨a, vs, rfl, ta, _, ra⟩ := h
    exact .lst ta.sq (pds_dp hR n xs vs ps e ra)
  | n + 1, .loc l, v, p, e, h => by
    simp only [pd] at e
    split at e
    · rename_i xs el
      simp only [Option.map_eq_some_iff] at e
      obtain ⟨ps, e, rfl⟩ := e
      obtain ⟨a, vs, rfl, _, ha, ra, _⟩ := hR.lst el h
      exact .lst (SqL.of ha) (pds_dp hR n xs vs ps e ra)
    · cases e
theorem pds_dp {G : Gc} {ρ : List Addr} {H : Hp} {S : Store} (hR : Rel G ρ H S) : ∀ (n : Nat) (ds : List D) (vs : List V) (ps : List PyData), ds.mapM (pd n S) = some ps → RpVs G.K ρ H ds vs → DpAll G.K H vs ps
  | n, [], vs, ps, e, h => by
    simp at e
    rw [show vs = [] from h, e]
    exact .nil
  | n, d :: ds, vs, ps, e, h => by
    obtain ⟨v, r, rfl, h1, h2⟩ := h
    simp only [List.mapM_cons, Option.bind_eq_bind, Option.bind_eq_some_iff, Option.pure_def, Option.some.injEq] at e
    obtain ⟨p, e1, ps', e2, rfl⟩ := e
    exact .cons (pd_dp hR n d v p e1 h1) (pds_dp hR n ds r ps' e2 h2)
end
theorem or_eq (hu : X.A.units + 64 < cLine) : OpR X (compareOp .Eq) (r2 (gOf X) oEq) := by
  intro pins s σ H x y v u Q I rx ry ⟨ρ, S, d, e, hR, hd, he, q⟩
  unfold oEq at q
  split at q
  · cases (show x = _ from hd); cases (show y = _ from he)
    refine op_eq pins s σ H _ _ v u Q I rx ry ⟨rfl, ?_⟩
    rw [dec_int]
    rw [← Bool.beq_eq_decide_eq] at q
    exact q.here hR rfl
  · cases (show x = _ from hd); cases (show y = _ from he)
    refine op_eq pins s σ H _ _ v u Q I rx ry ⟨rfl, ?_⟩
    rw [dec_str]
    rw [← Bool.beq_eq_decide_eq] at q
    exact q.here hR rfl
  · cases (show x = _ from hd); cases (show y = _ from he)
    refine op_eq pins s σ H _ _ v u Q I rx ry ⟨rfl, ?_⟩
    rw [dec_bl]
    rw [← Bool.beq_eq_decide_eq] at q
    exact q.here hR rfl
  · split at q
    · rename_i p1 p2 e1 e2
      obtain ⟨⟨s1, s2⟩, q⟩ := q.ite
      exact op_eqD hu pins s σ H x y v u Q I rx ry ⟨p1, p2, pd_dp hR 9 _ _ _ e1 hd, pd_dp hR 9 _ _ _ e2 he, s1, s2, q.here hR rfl⟩
    · exact q.elim
theorem or_ne (hu : X.A.units + 64 < cLine) : OpR X (compareOp .NotEq) (r2 (gOf X) oNe) := by
  intro pins s σ H x y v u Q I rx ry ⟨ρ, S, d, e, hR, hd, he, q⟩
  unfold oNe oEq at q
  split at q
  · cases (show x = _ from hd); cases (show y = _ from he)
    refine op_ne pins s σ H _ _ v u Q I rx ry ⟨rfl, ?_⟩
    rw [dec_int]
    rw [← Bool.beq_eq_decide_eq] at q
    exact q.here hR rfl
  · cases (show x = _ from hd); cases (show y = _ from he)
    refine op_ne pins s σ H _ _ v u Q I rx ry ⟨rfl, ?_⟩
    rw [dec_str]
    rw [← Bool.beq_eq_decide_eq] at q
    exact q.here hR rfl
  · cases (show x = _ from hd); cases (show y = _ from he)
    refine op_ne pins s σ H _ _ v u Q I rx ry ⟨rfl, ?_⟩
    rw [dec_bl]
    rw [← Bool.beq_eq_decide_eq] at q
    exact q.here hR rfl
  · split at q
    · rename_i p1 p2 e1 e2
      by_cases hc : SeqAt.shaped p1 = true ∧ SeqAt.shaped p2 = true
      · rw [if_pos hc] at q
        exact op_neD hu pins s σ H x y v u Q I rx ry ⟨p1, p2, pd_dp hR 9 _ _ _ e1 hd, pd_dp hR 9 _ _ _ e2 he, hc.1, hc.2, q.here hR rfl⟩
      · rw [if_neg hc] at q
        exact q.elim
    · exact q.elim
end
end Mn
set_option maxHeartbeats 4000000
/-! Rules: tests, subscripts, calls of built-ins and of defs, methods of lists and texts. -/
namespace Mn
open PySem PySem.Spec PyProof.Rows L2
section
variable {X : Cx} {W : WX}
/-! ### tests -/
theorem mt_val {e : Expr} {c : EM} (h : ME X W e c) (he : ∀ whole, isTrue e X.env whole = (do let v ← whole; standAt e.pos; holding [v] (truthy v)) := by intro _; rfl) : MT X W e c := by
  refine PT_imp (pt_val h he) fun σ H Q ⟨ρ, σd, S, hR, hE, h⟩ => ?_
  refine ⟨ρ, σd, S, hR, hE, ?_⟩
  unfold cB at h
  cases e : c σd S with
  | ok d S1 =>
    rw [e] at h
    cases d with
    | bl b => exact fun ρ' H' v x r q => ⟨b, q, h ρ' H' b x r rfl⟩
    | _ => exact h.elim
  | exc x S1 => rw [e] at h; exact h
  | bad => rw [e] at h; exact h
theorem mt_cmp {op : CmpOp} {a b : Expr} {ca cb : EM} {f : D → D → Store → R D} {pos : Pos} (ho : OpR X (compareOp op) (r2 (gOf X) f)) (ha : ME X W a ca) (hb : ME X W b cb) (hm : behindInMarks op b = false := by rfl) : MT X W (.Compare a [op] [b] pos) (e2 f ca cb) := by
  refine PT_imp (pt_cmpR ho ha hb hm) fun σ H Q ⟨ρ, σd, S, hR, hE, h⟩ => ?_
  unfold cB e2 at h
  rw [rB_bind] at h
  refine step hR hE h fun ρ1 H1 d S1 v x1 R1 E1 q1 _ o1 => ?_
  rw [rB_bind] at o1
  refine step R1 E1 o1 fun ρ2 H2 e S2 u x2 R2 E2 q2 _ o2 => ?_
  refine ⟨ρ2, S2, d, e, R2, x2.rp _ _ q1, q2, ?_⟩
  cases er : f d e S2 with
  | ok r S3 =>
    rw [er] at o2
    cases r with
    | bl b => exact fun ρ' H' v x r q => ⟨b, q, o2 ρ' H' b x r rfl⟩
    | _ => exact o2.elim
  | exc x S1 => exact fun _ _ _ _ _ _ _ => True.intro
  | bad => rw [er] at o2; exact o2
theorem mt_of1 {e : Expr} {a : Expr} {ca : EM} {f : D → Store → R D} {r : V → Hp → VK → Prop} (h : PT X e (tTest (fun σ H Q => tE (gOf X) W ca σ H fun v H1 => r v H1 Q)))
    (hr : ∀ ρ H S d v Q, Rel (gOf X) ρ H S → RpV X.K ρ H d v → Out (gOf X) WT (rpV (gOf X)) ρ H [] Q (f d S) → r v H Q) : MT X W e (e1 f ca) := by
  refine PT_imp h fun σ H Q ⟨ρ, σd, S, hR, hE, h⟩ => ?_
  unfold cB e1 at h
  rw [rB_bind] at h
  refine step hR hE h fun ρ1 H1 d S1 v x1 R1 E1 q1 _ o1 => ?_
  refine hr ρ1 H1 S1 d v _ R1 q1 ?_
  cases er : f d S1 with
  | ok r S3 =>
    rw [er] at o1
    cases r with
    | bl b => exact fun ρ' H' v x r q => ⟨b, q, o1 ρ' H' b x r rfl⟩
    | _ => exact o1.elim
  | exc x S1 => exact fun _ _ _ _ _ _ _ => True.intro
  | bad => rw [er] at o1; exact o1
theorem non_iff {K : PySem.W.Frag} {ρ : List Addr} {H : Hp} {d : D} {v : V} (q1 : RpV K ρ H d v) : decide (v = V.non) = decide (d = .non) := by
  cases d with
  | non => rw [show v = _ from q1]; rfl
  | bl b => rw [show v = _ from q1]; rfl
  | int b => rw [show v = _ from q1]; rfl
  | str b => rw [show v = _ from q1]; rfl
  | tup b => obtain ⟨a, vs, e, _⟩ := q1; rw [e]; rfl
  | ro b => obtain ⟨a, vs, e, _⟩ := q1; rw [e]; rfl
  | loc b => obtain ⟨a, _, e⟩ := q1; rw [e]; rfl
theorem mt_isN {a : Expr} {ca : EM} {j pos pos'} (ha : ME X W a ca) : MT X W (.Compare a [.Is] [.Constant .none j pos'] pos) (e1 oIsN ca) :=
  mt_of1 (a := a) (r := fun v H Q => V.non = .non ∧ Q (.bl (decide (v = .non))) H) (pt_cmpR op_isN ha pe_non (nomark _)) fun ρ H S d v Q R q o => ⟨rfl, by rw [non_iff q]; exact o.here R rfl⟩
theorem mt_notN {a : Expr} {ca : EM} {j pos pos'} (ha : ME X W a ca) : MT X W (.Compare a [.IsNot] [.Constant .none j pos'] pos) (e1 oNotN ca) :=
  mt_of1 (a := a) (r := fun v H Q => V.non = .non ∧ Q (.bl (!decide (v = .non))) H) (pt_cmpR op_notN ha pe_non (nomark _)) fun ρ H S d v Q R q o => ⟨rfl, by rw [non_iff q]; exact o.here R rfl⟩
theorem stepB {c : EM} {G : Gc} {ρ : List Addr} {H : Hp} {S : Store} {σd : Env} {σ : L2.St} {γ δ : Type} {rp' : List Addr → Hp → γ → δ → Prop} {f : Bool → Store → R γ} {Q : δ → Hp → Prop} (hR : Rel G ρ H S) (hE : REnv G ρ H σd σ)
    (h : Out G W rp' ρ H σ Q ((rB (c σd S)).bind f)) {Q' : Bool → Hp → Prop}
    (k : ∀ ρ1 H1 b S1, Ext ρ H ρ1 H1 → Rel G ρ1 H1 S1 → REnv G ρ1 H1 σd σ → Out G W rp' ρ1 H1 σ Q (f b S1) → Q' b H1) : tG G W rpB (cB c) σ H Q' :=
  step (c := cB c) hR hE h fun ρ1 H1 a S1 b x r e q _ o => by cases q; exact k ρ1 H1 a S1 x r e o
theorem mt_not {a : Expr} {ca : EM} {pos : Pos} (ha : MT X W a ca) : MT X W (.UnaryOp .Not a pos) (eNot ca) := by
  refine PT_imp (pt_not ha) fun σ H Q ⟨ρ, σd, S, hR, hE, h⟩ => ?_
  unfold cB eNot at h
  rw [rB_tst] at h
  exact stepB hR hE h fun ρ1 H1 b S1 x1 R1 E1 o1 => o1.here R1 rfl
theorem mw_and1 {a : Expr} {ca : EM} {pos : Pos} (ha : MT X W a ca) : MW X W (.BoolOp .And [a] pos) ca := pw_and1 ha
theorem mw_or1 {a : Expr} {ca : EM} {pos : Pos} (ha : MT X W a ca) : MW X W (.BoolOp .Or [a] pos) ca := pw_or1 ha
theorem mw_and {a b : Expr} {rest : List Expr} {ca cb : EM} {pos : Pos} (ha : MT X W a ca) (hb : MW X W (.BoolOp .And (b :: rest) pos) cb) : MW X W (.BoolOp .And (a :: b :: rest) pos) (eAnd ca cb) := by
  refine PW_imp (pw_and ha hb) fun σ H Q ⟨ρ, σd, S, hR, hE, h⟩ => ?_
  unfold cB eAnd at h
  rw [rB_tst] at h
  refine stepB hR hE h fun ρ1 H1 b S1 x1 R1 E1 o1 => ?_
  cases b with
  | true => rw [if_pos rfl]; exact ⟨ρ1, σd, S1, R1, E1, o1⟩
  | false => rw [if_neg Bool.false_ne_true]; exact o1.here R1 rfl
theorem mw_or {a b : Expr} {rest : List Expr} {ca cb : EM} {pos : Pos} (ha : MT X W a ca) (hb : MW X W (.BoolOp .Or (b :: rest) pos) cb) : MW X W (.BoolOp .Or (a :: b :: rest) pos) (eOr ca cb) := by
  refine PW_imp (pw_or ha hb) fun σ H Q ⟨ρ, σd, S, hR, hE, h⟩ => ?_
  unfold cB eOr at h
  rw [rB_tst] at h
  refine stepB hR hE h fun ρ1 H1 b S1 x1 R1 E1 o1 => ?_
  cases b with
  | true => rw [if_pos rfl]; exact o1.here R1 rfl
  | false => rw [if_neg Bool.false_ne_true]; exact ⟨ρ1, σd, S1, R1, E1, o1⟩
theorem mt_w {e : Expr} {c : EM} (h : MW X W e c) : MT X W e c := PW.pt h
/-! ### and, or, not, if as values -/
theorem me_one {op : BoolOp} {a : Expr} {ca : EM} {pos : Pos} (h : ME X W a ca) : ME X W (.BoolOp op [a] pos) ca := pe_one h
theorem stepT {c : EM} {G : Gc} {ρ : List Addr} {H : Hp} {S : Store} {σd : Env} {σ : L2.St} {γ δ : Type} {rp' : List Addr → Hp → γ → δ → Prop} {f : Bool → Store → R γ} {Q : δ → Hp → Prop} (hR : Rel G ρ H S) (hE : REnv G ρ H σd σ)
    (h : Out G W rp' ρ H σ Q ((rB (c σd S)).bind f)) {Q' : VK}
    (k : ∀ ρ1 H1 b S1, Ext ρ H ρ1 H1 → Rel G ρ1 H1 S1 → REnv G ρ1 H1 σd σ → Out G W rp' ρ1 H1 σ Q (f b S1) → Q' (.bl b) H1) : tE G W c σ H Q' := by
  refine ⟨ρ, σd, S, hR, hE, ?_⟩
  cases e : c σd S with
  | ok d S1 =>
    rw [e] at h
    cases d with
    | bl b => exact fun ρ1 H1 v x r q => by rw [show v = _ from q]; exact k ρ1 H1 b S1 x r (hE.ext x) (Out.carry (show Out G W rp' ρ H σ Q (f b S1) from h) x)
    | _ => exact h.elim
  | exc x S1 => rw [e] at h; exact h
  | bad => rw [e] at h; exact h
theorem me_and {a b : Expr} {rest : List Expr} {ca cb : EM} {pos : Pos} (ha : ME X W a ca) (hb : ME X W (.BoolOp .And (b :: rest) pos) cb) : ME X W (.BoolOp .And (a :: b :: rest) pos) (eAnd ca cb) := by
  refine PE_imp (pe_and ha hb) fun σ H Q ⟨ρ, σd, S, hR, hE, h⟩ => ?_
  unfold eAnd at h
  rw [tst_rB] at h
  refine stepT hR hE h fun ρ1 H1 b S1 x1 R1 E1 o1 => ⟨b, rfl, ?_⟩
  cases b with
  | true => rw [if_pos rfl]; exact ⟨ρ1, σd, S1, R1, E1, o1⟩
  | false => rw [if_neg Bool.false_ne_true]; exact o1.here R1 rfl
theorem me_or {a b : Expr} {rest : List Expr} {ca cb : EM} {pos : Pos} (ha : ME X W a ca) (hb : ME X W (.BoolOp .Or (b :: rest) pos) cb) : ME X W (.BoolOp .Or (a :: b :: rest) pos) (eOr ca cb) := by
  refine PE_imp (pe_or ha hb) fun σ H Q ⟨ρ, σd, S, hR, hE, h⟩ => ?_
  unfold eOr at h
  rw [tst_rB] at h
  refine stepT hR hE h fun ρ1 H1 b S1 x1 R1 E1 o1 => ⟨b, rfl, ?_⟩
  cases b with
  | true => rw [if_pos rfl]; exact o1.here R1 rfl
  | false => rw [if_neg Bool.false_ne_true]; exact ⟨ρ1, σd, S1, R1, E1, o1⟩
theorem me_not {a : Expr} {ca : EM} {pos : Pos} (ha : ME X W a ca) : ME X W (.UnaryOp .Not a pos) (eNot ca) := by
  refine PE_imp (pe_not ha) fun σ H Q ⟨ρ, σd, S, hR, hE, h⟩ => ?_
  unfold eNot at h
  rw [tst_rB] at h
  exact stepT hR hE h fun ρ1 H1 b S1 x1 R1 E1 o1 => ⟨b, rfl, o1.here R1 rfl⟩
theorem me_if {c a b : Expr} {cc ca cb : EM} {pos : Pos} (hc : MT X W c cc) (ha : ME X W a ca) (hb : ME X W b cb) : ME X W (.IfExp c a b pos) (eIf cc ca cb) := by
  refine PE_imp (pe_ifExp hc ha hb) fun σ H Q ⟨ρ, σd, S, hR, hE, h⟩ => ?_
  unfold eIf at h
  rw [tst_rB] at h
  refine stepB hR hE h fun ρ1 H1 b S1 x1 R1 E1 o1 => ?_
  cases b with
  | true => rw [if_pos rfl]; exact ⟨ρ1, σd, S1, R1, E1, o1⟩
  | false => rw [if_neg Bool.false_ne_true]; exact ⟨ρ1, σd, S1, R1, E1, o1⟩
/-! ### chains of comparisons -/
theorem r2_test {G : Gc} {ρ : List Addr} {H : Hp} {S : Store} {d e : D} {x y : V} {f : D → D → Store → R D} {σ : L2.St} {γ δ : Type} {rp' : List Addr → Hp → γ → δ → Prop} {g : Bool → Store → R γ} {Q : δ → Hp → Prop} (hR : Rel G ρ H S) (h1 : RpV G.K ρ H d x) (h2 : RpV G.K ρ H e y)
    (h : Out G W rp' ρ H σ Q ((rB (f d e S)).bind g)) {Q' : VK} (k : ∀ ρ1 H1 b S1, Ext ρ H ρ1 H1 → Rel G ρ1 H1 S1 → Out G W rp' ρ1 H1 σ Q (g b S1) → Q' (.bl b) H1) : r2 G f x y H Q' := by
  refine ⟨ρ, S, d, e, hR, h1, h2, ?_⟩
  cases er : f d e S with
  | ok d S1 =>
    rw [er] at h
    cases d with
    | bl b => exact fun ρ1 H1 v x r q => by rw [show v = _ from q]; exact k ρ1 H1 b S1 x r (Out.carry (show Out G W rp' ρ H σ Q (g b S1) from h) x)
    | _ => exact h.elim
  | exc x S1 => exact fun _ _ _ _ _ _ _ => True.intro
  | bad => rw [er] at h; exact h
theorem me_ch {op op' : CmpOp} {f g : D → D → Store → R D} {a b c : Expr} {ca cb cc : EM} {pos : Pos} (ho : OpR X (compareOp op) (r2 (gOf X) f)) (ho' : OpR X (compareOp op') (r2 (gOf X) g)) (ha : ME X W a ca) (hb : ME X W b cb) (hc : ME X W c cc)
    (hm : lastMarks [op, op'] [b, c] = false := by with_unfolding_all rfl) : ME X W (.Compare a [op, op'] [b, c] pos) (eCh f g ca cb cc) := by
  refine PE_imp (pe_chain ho ho' ha hb hc hm) fun σ H Q ⟨ρ, σd, S, hR, hE, h⟩ => ?_
  unfold eCh at h
  refine step hR hE h fun ρ1 H1 d S1 v x1 R1 E1 q1 _ o1 => ?_
  refine step R1 E1 o1 fun ρ2 H2 e S2 u x2 R2 E2 q2 _ o2 => ?_
  rw [tst_rB] at o2
  refine r2_test R2 (x2.rp _ _ q1) q2 o2 fun ρ3 H3 b S3 x3 R3 o3 => ⟨b, rfl, ?_⟩
  cases b with
  | true =>
    rw [if_pos rfl]
    exact step R3 (E2.ext x3) o3 fun ρ4 H4 e4 S4 u4 x4 R4 E4 q4 _ o4 => ⟨ρ4, S4, e, e4, R4, x4.rp _ _ (x3.rp _ _ q2), q4, o4.wt⟩
  | false => rw [if_neg Bool.false_ne_true]; exact o3.here R3 rfl
theorem mt_ch {op op' : CmpOp} {f g : D → D → Store → R D} {a b c : Expr} {ca cb cc : EM} {pos : Pos} (ho : OpR X (compareOp op) (r2 (gOf X) f)) (ho' : OpR X (compareOp op') (r2 (gOf X) g)) (ha : ME X W a ca) (hb : ME X W b cb) (hc : ME X W c cc)
    (hm : lastMarks [op, op'] [b, c] = false := by with_unfolding_all rfl) : MT X W (.Compare a [op, op'] [b, c] pos) (eCh f g ca cb cc) := by
  refine PT_imp (pt_chain ho ho' ha hb hc hm) fun σ H Q ⟨ρ, σd, S, hR, hE, h⟩ => ?_
  unfold cB eCh at h
  rw [rB_bind] at h
  refine step hR hE h fun ρ1 H1 d S1 v x1 R1 E1 q1 _ o1 => ?_
  rw [rB_bind] at o1
  refine step R1 E1 o1 fun ρ2 H2 e S2 u x2 R2 E2 q2 _ o2 => ?_
  rw [rB_tst] at o2
  refine r2_test R2 (x2.rp _ _ q1) q2 o2 fun ρ3 H3 b S3 x3 R3 o3 => ⟨b, rfl, ?_⟩
  cases b with
  | true =>
    rw [if_pos rfl]
    rw [rB_bind] at o3
    refine step R3 (E2.ext x3) o3 fun ρ4 H4 e4 S4 u4 x4 R4 E4 q4 _ o4 => ?_
    have o5 : Out (gOf X) W rpB ρ4 H4 σ Q ((rB (g e e4 S4)).bind fun b S => .ok b S) := by
      cases er : rB (g e e4 S4) <;> (rw [er] at o4; exact o4)
    exact r2_test R4 (x4.rp _ _ (x3.rp _ _ q2)) q4 o5 fun ρ6 H6 b S6 x6 R6 o6 => ⟨b, rfl, o6.here R6 rfl⟩
  | false => rw [if_neg Bool.false_ne_true]; exact ⟨false, rfl, o3.here R3 rfl⟩
def tChain3 (r r' r'' : L2.R2) (ta tb tc td : TE) : TE := fun σ H Q => ta σ H fun x H1 => tb σ H1 fun y H2 => r x y H2 fun z H3 => ∃ k, z = .bl k ∧
  (if k = true then tc σ H3 fun w' H4 => r' y w' H4 fun z' H5 => ∃ k', z' = .bl k' ∧ (if k' = true then td σ H5 fun u H6 => r'' w' u H6 Q else Q (.bl false) H5) else Q (.bl false) H3)
theorem pe_chain3 {op op' op'' : CmpOp} {r r' r'' : L2.R2} {a b c d : Expr} {ta tb tc td : TE} {pos : Pos} (ho : OpR X (compareOp op) r) (ho' : OpR X (compareOp op') r') (ho'' : OpR X (compareOp op'') r'') (ha : PE X a ta) (hb : PE X b tb) (hc : PE X c tc) (hd : PE X d td)
    (hm : lastMarks [op, op', op''] [b, c, d] = false := by with_unfolding_all rfl) : PE X (.Compare a [op, op', op''] [b, c, d] pos) (tChain3 r r' r'' ta tb tc td) := by
  refine ⟨fun pins s σ H Q I h => ?_⟩
  refine Compare_chain (thn (ha.run pins s σ H _ I h) fun v s1 ⟨x, H1, I1, r1, q1⟩ => chain_link (thn (hb.run pins s1 σ H1 _ I1 q1) fun u s2 ⟨y, H2, I2, r2, q2⟩ =>
    thn (ho pins s2 σ H2 x y v u _ I2 r1 r2 q2) fun d s3 ⟨z, H3, I3, r3, k, e, q3⟩ => ?_)) hm
  subst e
  cases r3
  refine wpAny_truthy_bool ?_
  cases k with
  | false => exact ite_ff ⟨.bl false, H3, I3, rfl, q3⟩
  | true =>
    refine ite_tt (chain_link (thn (hc.run pins s3 σ H3 _ I3 q3) fun w' s4 ⟨z', H4, I4, r4, q4⟩ => thn (ho' pins s4 σ H4 y z' u w' _ I4 r2 r4 q4) fun d' s5 ⟨z5, H5, I5, r5, k5, e5, q5⟩ => ?_))
    subst e5
    cases r5
    refine wpAny_truthy_bool ?_
    cases k5 with
    | false => exact ite_ff ⟨.bl false, H5, I5, rfl, q5⟩
    | true => exact ite_tt (chain_last (thn (hd.run pins s5 σ H5 _ I5 q5) fun w6 s6 ⟨z6, H6, I6, r6, q6⟩ => ho'' pins s6 σ H6 z' z6 w' w6 Q I6 r4 r6 q6))
theorem me_ch3 {op op' op'' : CmpOp} {f g h : D → D → Store → R D} {a b c d : Expr} {ca cb cc cd : EM} {pos : Pos} (ho : OpR X (compareOp op) (r2 (gOf X) f)) (ho' : OpR X (compareOp op') (r2 (gOf X) g)) (ho'' : OpR X (compareOp op'') (r2 (gOf X) h))
    (ha : ME X W a ca) (hb : ME X W b cb) (hc : ME X W c cc) (hd : ME X W d cd) (hm : lastMarks [op, op', op''] [b, c, d] = false := by with_unfolding_all rfl) : ME X W (.Compare a [op, op', op''] [b, c, d] pos) (eCh3 f g h ca cb cc cd) := by
  refine PE_imp (pe_chain3 ho ho' ho'' ha hb hc hd hm) fun σ H Q ⟨ρ, σd, S, hR, hE, h⟩ => ?_
  unfold eCh3 at h
  refine step hR hE h fun ρ1 H1 d S1 v x1 R1 E1 q1 _ o1 => ?_
  refine step R1 E1 o1 fun ρ2 H2 e S2 u x2 R2 E2 q2 _ o2 => ?_
  rw [tst_rB] at o2
  refine r2_test R2 (x2.rp _ _ q1) q2 o2 fun ρ3 H3 b S3 x3 R3 o3 => ⟨b, rfl, ?_⟩
  cases b with
  | true =>
    rw [if_pos rfl]
    refine step R3 (E2.ext x3) o3 fun ρ4 H4 e4 S4 u4 x4 R4 E4 q4 _ o4 => ?_
    rw [tst_rB] at o4
    refine r2_test R4 (x4.rp _ _ (x3.rp _ _ q2)) q4 o4 fun ρ5 H5 b S5 x5 R5 o5 => ⟨b, rfl, ?_⟩
    cases b with
    | true =>
      rw [if_pos rfl]
      exact step R5 (E4.ext x5) o5 fun ρ6 H6 e6 S6 u6 x6 R6 E6 q6 _ o6 => ⟨ρ6, S6, e4, e6, R6, x6.rp _ _ (x5.rp _ _ q4), q6, o6.wt⟩
    | false => rw [if_neg Bool.false_ne_true]; exact o5.here R5 rfl
  | false => rw [if_neg Bool.false_ne_true]; exact o3.here R3 rfl
theorem mt_e {e : Expr} {c : EM} (h : ME X W e c) (he : ∀ whole, isTrue e X.env whole = (do let v ← whole; standAt e.pos; holding [v] (truthy v))) : MT X W e c := mt_val h he
/-! ### subscripts, slices -/
theorem atI_rp {K : PySem.W.Frag} {ρ : List Addr} {H : Hp} {ds : List D} {vs : List V} {i : Int} {d : D} (h : RpVs K ρ H ds vs) (e : atI ds i = some d) : ∃ v, atI vs i = some v ∧ RpV K ρ H d v := by
  unfold atI at e ⊢
  rw [h.length]
  cases q : ixN ds.length i with
  | none => rw [q] at e; cases e
  | some j =>
    rw [q] at e
    exact h.get e
/-- what the subscript's rule is over lists, tuples and texts; over dicts: elsewhere -/
def oIxS : D → D → Store → R D
  | .tup xs, .int i, S => match atI xs i with
    | some d => .ok d S
    | none => .bad
  | .str z, .int i, S => if z.length ≤ sizeLine then match atI z.cps.toList i with
      | some c => .ok (.str ⟨#[c]⟩) S
      | none => .bad
    else .bad
  | .loc l, .int i, S => match S[l]? with
    | some (.lst xs) => match atI xs i with
      | some d => .ok d S
      | none => .bad
    | _ => .bad
  | _, _, _ => .bad
theorem ir_seq : IxR X (r2 (gOf X) oIxS) := by
  intro value slice pins s σ H x y v u Q I rx ry ⟨ρ, S, d, e, hR, hd, he, q⟩ hs
  unfold oIxS at q
  split at q
  · split at q
    · rename_i e0
      obtain ⟨a, vs, ea, ta, _, ra⟩ := hd
      obtain ⟨w', e1, r'⟩ := atI_rp ra e0
      exact ix_tup value slice pins s σ H x y v u Q I rx ry ⟨a, vs, _, w', ea, he, ta.sq, e1, q.here hR r'⟩ hs
    · exact q.elim
  · obtain ⟨hz, q⟩ := q.ite
    split at q
    · rename_i e0
      exact ix_str value slice pins s σ H x y v u Q I rx ry ⟨_, _, _, hd, he, hz, e0, q.here hR rfl⟩ hs
    · exact q.elim
  · split at q
    · rename_i e0
      obtain ⟨a, vs, ea, _, ha, ra, _⟩ := hR.lst e0 hd
      split at q
      · rename_i e1
        obtain ⟨w', e2, r'⟩ := atI_rp ra e1
        exact ix_list value slice pins s σ H x y v u Q I rx ry ⟨a, vs, _, w', ea, he, SqL.of ha, e2, q.here hR r'⟩ hs
      · exact q.elim
    · exact q.elim
  · exact q.elim
theorem me_ix {f : D → D → Store → R D} {a b : Expr} {ca cb : EM} {pos : Pos} (hi : IxR X (r2 (gOf X) f)) (ha : ME X W a ca) (hb : ME X W b cb) (hs : PlainIx b := by intro _ _; rfl) : ME X W (.Subscript a b pos) (e2 f ca cb) := by
  refine PE_imp (pe_ix hi ha hb hs) fun σ H Q ⟨ρ, σd, S, hR, hE, h⟩ => ?_
  refine step hR hE h fun ρ1 H1 d S1 v x1 R1 E1 q1 _ o1 => ?_
  refine step R1 E1 o1 fun ρ2 H2 e S2 u x2 R2 E2 q2 _ o2 => ?_
  exact ⟨ρ2, S2, d, e, R2, x2.rp _ _ q1, q2, o2.wt⟩
abbrev rpO : List Addr → Hp → Option Int → Option Int → Prop := fun _ _ a b => a = b
abbrev MP (X : Cx) (W : WX) (e : Option Expr) (c : PM) : Prop := PO X e (tG (gOf X) W rpO c)
theorem mp_no : MP X W none pNo := by
  refine ⟨fun pins s σ H Q I ⟨ρ, σd, S, hR, hE, h⟩ => ?_⟩
  exact po_none.run pins s σ H Q I (h.here hR rfl)
theorem mp_of {e : Expr} {c : EM} (h : ME X W e c) : MP X W (some e) (pOf c) := by
  refine ⟨fun pins s σ H Q I ⟨ρ, σd, S, hR, hE, h'⟩ => ?_⟩
  refine (po_some h).run pins s σ H Q I ?_
  refine step hR hE h' fun ρ1 H1 d S1 v x1 R1 E1 q1 _ o1 => ?_
  cases d with
  | int i => exact ⟨i, q1, o1.here R1 rfl⟩
  | _ => exact o1.elim
def rSlM (G : Gc) : V → Option Int → Option Int → Hp → VK → Prop := fun x lo hi H Q => ∃ ρ S d, Rel G ρ H S ∧ RpV G.K ρ H d x ∧ Out G WT (rpV G) ρ H [] Q (oSl d lo hi S)
theorem RpVs.cut {K : PySem.W.Frag} {ρ : List Addr} {H : Hp} {ds : List D} {vs : List V} (h : RpVs K ρ H ds vs) (lo hi : Option Int) : RpVs K ρ H (Mn.cut ds lo hi) (cutV vs lo hi) := by
  unfold Mn.cut cutV
  rw [h.length]
  exact (h.drop _).take _
theorem sl_all {X : Cx} : SlR X (rSlM (gOf X)) := by
  intro pins s σ H x v vl vu lo hi sl Q I rx hs pl pu ⟨ρ, S, d, hR, hd, q⟩
  unfold oSl at q
  split at q
  · obtain ⟨a, vs, ea, ta, za, ra⟩ := hd
    refine sl_tupA pins s σ H x v vl vu lo hi sl Q I rx hs pl pu ⟨a, vs, ea, ta.sq, fun ⟨e1, e2⟩ => ?_, fun _ p hp => ?_⟩
    · refine q.here hR ⟨a, vs, rfl, ta, za, ?_⟩
      have e : cutV vs lo hi = vs := by
        unfold cutV
        rw [e1, e2, List.drop_zero, Nat.sub_zero, List.take_length]
      rw [← e]
      exact ra.cut lo hi
    · exact q.newT hR hp (ra.cut lo hi) (Nat.le_trans (cutV_length vs lo hi) za)
  · split at q
    · rename_i e0
      obtain ⟨a, vs, ea, _, ha, ra, za⟩ := hR.lst e0 hd
      exact sl_list pins s σ H x v vl vu lo hi sl Q I rx hs pl pu ⟨a, vs, ea, SqL.of ha, fun p hp => q.newL hR hp (ra.cut lo hi) (Nat.le_trans (cutV_length vs lo hi) za)⟩
    · exact q.elim
  · obtain ⟨hz, q⟩ := q.ite
    exact sl_str pins s σ H x v vl vu lo hi sl Q I rx hs pl pu ⟨_, hd, hz, q.here hR rfl⟩
  · exact q.elim
theorem me_sl {a : Expr} {lo hi : Option Expr} {ca : EM} {pl ph : PM} {p2 pos : Pos} (ha : ME X W a ca) (hl : MP X W lo pl) (hh : MP X W hi ph) : ME X W (.Subscript a (.Slice lo hi none p2) pos) (eSl ca pl ph) := by
  refine PE_imp (pe_slice sl_all ha hl hh) fun σ H Q ⟨ρ, σd, S, hR, hE, h⟩ => ?_
  refine step hR hE h fun ρ1 H1 d S1 v x1 R1 E1 q1 _ o1 => ?_
  refine step R1 E1 o1 fun ρ2 H2 e S2 u x2 R2 E2 q2 _ o2 => ?_
  refine step R2 E2 o2 fun ρ3 H3 e3 S3 u3 x3 R3 E3 q3 _ o3 => ?_
  cases q2
  cases q3
  exact ⟨ρ3, S3, d, R3, (x2.trans x3).rp _ _ q1, o3.wt⟩
/-! ### built-ins -/
theorem me_B {id : String} {f : List D → Store → R D} {x : Str} {e : Expr} {es : List Expr} {cs : EMs} {n : Nat} {p pos : Pos} (hc : CallR X (.builtin id) (rF (gOf X) f)) (hg : Gl X x) (hm : X.mg x = none) (hv : bootBuiltins x = some (.builtin id)) (ha : MA X W (e :: es) cs n)
    (hn : x ≠ "__name__" := by decide) (hdb : (x == ("__debug__" : Str)) = false := by decide) (he : starEach (e :: es) X.env = (false, eval e X.env) :: starEach es X.env := by rfl) (hpl : (backTo pos (starEach es X.env)).any (·.1) = false := by rfl) :
    ME X W (.Call (.Name x p) (e :: es) [] pos) (eF f cs) := by
  refine PE_imp (pe_callB hc hg hm hv ha.pa hn hdb he hpl) fun σ H Q ⟨ρ, σd, S, hR, hE, h⟩ => ?_
  exact step hR hE h fun ρ1 H1 d S1 v x1 R1 E1 q1 _ o1 => ⟨ρ1, S1, d, R1, q1, o1.wt⟩
theorem me_Ty {T : String} {f : List D → Store → R D} {x : Str} {e : Expr} {es : List Expr} {cs : EMs} {n : Nat} {p pos : Pos} (hc : CallR X (.type T) (rF (gOf X) f)) (hg : Gl X x) (hm : X.mg x = none) (hv : bootBuiltins x = some (.type T)) (ha : MA X W (e :: es) cs n)
    (hn : x ≠ "__name__" := by decide) (hdb : (x == ("__debug__" : Str)) = false := by decide) (he : starEach (e :: es) X.env = (false, eval e X.env) :: starEach es X.env := by rfl) (hpl : (backTo pos (starEach es X.env)).any (·.1) = false := by rfl) :
    ME X W (.Call (.Name x p) (e :: es) [] pos) (eF f cs) := by
  refine PE_imp (pe_callTy hc hg hm hv ha.pa hn hdb he hpl) fun σ H Q ⟨ρ, σd, S, hR, hE, h⟩ => ?_
  exact step hR hE h fun ρ1 H1 d S1 v x1 R1 E1 q1 _ o1 => ⟨ρ1, S1, d, R1, q1, o1.wt⟩
/-- one value -/
def on1 (f : D → Store → R D) : List D → Store → R D
  | [d], S => f d S
  | _, _ => .bad
def on2 (f : D → D → Store → R D) : List D → Store → R D
  | [d, e], S => f d e S
  | _, _ => .bad
theorem Out.on1 {G : Gc} {ρ : List Addr} {H : Hp} {σ : L2.St} {Q : VK} {f : D → Store → R D} {S : Store} {ds : List D} {vs : List V} (h : Out G WT (rpV G) ρ H σ Q (Mn.on1 f ds S)) (r : RpVs G.K ρ H ds vs) :
    ∃ d v, vs = [v] ∧ RpV G.K ρ H d v ∧ Out G WT (rpV G) ρ H σ Q (f d S) := by
  unfold Mn.on1 at h
  split at h
  · obtain ⟨v, r', e, h1, h2⟩ := r
    rw [show r' = [] from h2] at e
    exact ⟨_, v, e, h1, h⟩
  · exact h.elim
theorem Out.on2 {G : Gc} {ρ : List Addr} {H : Hp} {σ : L2.St} {Q : VK} {f : D → D → Store → R D} {S : Store} {ds : List D} {vs : List V} (h : Out G WT (rpV G) ρ H σ Q (Mn.on2 f ds S)) (r : RpVs G.K ρ H ds vs) :
    ∃ d e v u, vs = [v, u] ∧ RpV G.K ρ H d v ∧ RpV G.K ρ H e u ∧ Out G WT (rpV G) ρ H σ Q (f d e S) := by
  unfold Mn.on2 at h
  split at h
  · obtain ⟨v, r', e, h1, h2⟩ := r
    obtain ⟨u, r'', e', h3, h4⟩ := h2
    rw [show r'' = [] from h4] at e'
    rw [e'] at e
    exact ⟨_, _, v, u, e, h1, h3, h⟩
  · exact h.elim
def bAbs : D → Store → R D
  | .int i, S => .ok (.int (if i < 0 then -i else i)) S
  | _, _ => .bad
theorem cr_abs : CallR X (.builtin "abs") (rF (gOf X) (on1 bAbs)) := by
  intro pins s σ H vs us Q I rv ⟨ρ, S, ds, hR, hd, q⟩
  obtain ⟨d, v, rfl, hd, q⟩ := q.on1 hd
  cases d with
  | int i => exact call_abs pins s σ H [v] us Q I rv ⟨i, by rw [show v = _ from hd], q.here hR rfl⟩
  | _ => exact q.elim
def bMax2 : D → D → Store → R D
  | .int i, .int j, S => .ok (.int (if j > i then j else i)) S
  | _, _, _ => .bad
def bMin2 : D → D → Store → R D
  | .int i, .int j, S => .ok (.int (if j < i then j else i)) S
  | _, _, _ => .bad
theorem cr_max2 (hc : X.calm = true) : CallR X (.builtin "max") (rF (gOf X) (on2 bMax2)) := by
  intro pins s σ H vs us Q I rv ⟨ρ, S, ds, hR, hd, q⟩
  obtain ⟨d, e, v, u, rfl, hd, he, q⟩ := q.on2 hd
  unfold bMax2 at q
  split at q
  · exact call_max2 hc pins s σ H [v, u] us Q I rv ⟨_, _, by rw [show v = _ from hd, show u = _ from he], q.here hR rfl⟩
  · exact q.elim
theorem cr_min2 (hc : X.calm = true) : CallR X (.builtin "min") (rF (gOf X) (on2 bMin2)) := by
  intro pins s σ H vs us Q I rv ⟨ρ, S, ds, hR, hd, q⟩
  obtain ⟨d, e, v, u, rfl, hd, he, q⟩ := q.on2 hd
  unfold bMin2 at q
  split at q
  · exact call_min2 hc pins s σ H [v, u] us Q I rv ⟨_, _, by rw [show v = _ from hd, show u = _ from he], q.here hR rfl⟩
  · exact q.elim
/-- a list's or tuple's own items -/
theorem seq_of {G : Gc} {ρ : List Addr} {H : Hp} {S : Store} {d : D} {v : V} {xs : List D} (hR : Rel G ρ H S) (e : seqOf S d = some xs) (h : RpV G.K ρ H d v) :
    ∃ a vs, v = .ref a ∧ RpVs G.K ρ H xs vs ∧ vs.length ≤ sizeLine ∧ (SqL G.K H a vs ∨ SqT G.K H a vs) ∧ ((∃ ys, d = .tup ys) → SqT G.K H a vs) ∧ ((∀ ys, d ≠ .tup ys) → SqL G.K H a vs) := by
  cases d with
  | tup ys =>
    cases e
    obtain ⟨a, vs, e, t, z, r⟩ := h
    exact ⟨a, vs, e, r, z, .inr t.sq, fun _ => t.sq, fun q => absurd rfl (q _)⟩
  | ro ys =>
    cases e
    obtain ⟨a, vs, e, t, z, r⟩ := h
    exact ⟨a, vs, e, r, z, .inl t.sq, (fun ⟨_, q⟩ => nomatch q), fun _ => t.sq⟩
  | loc l =>
    unfold seqOf at e
    simp only at e
    split at e
    · rename_i e0
      cases e
      obtain ⟨a, vs, ea, _, ha, ra, z⟩ := hR.lst e0 h
      exact ⟨a, vs, ea, ra, z, .inl (SqL.of ha), (fun ⟨_, q⟩ => nomatch q), fun _ => SqL.of ha⟩
    · cases e
  | _ => cases e
def bLen : D → Store → R D := fun d S => match d with
  | .str z => if z.length ≤ sizeLine then .ok (.int z.length) S else .bad
  | d => match seqOf S d with
    | some xs => .ok (.int xs.length) S
    | none => .bad
theorem cr_len : CallR X (.builtin "len") (rF (gOf X) (on1 bLen)) := by
  intro pins s σ H vs us Q I rv ⟨ρ, S, ds, hR, hd, q⟩
  obtain ⟨d, v, rfl, hd, q⟩ := q.on1 hd
  unfold bLen at q
  split at q
  · obtain ⟨hz, q⟩ := q.ite
    exact call_len pins s σ H [v] us Q I rv ⟨v, _, rfl, by rw [show v = _ from hd]; exact ⟨hz, rfl⟩, q.here hR rfl⟩
  · split at q
    · rename_i e
      obtain ⟨a, vs, ev, r, z, hq, _⟩ := seq_of hR e hd
      refine call_len pins s σ H [v] us Q I rv ⟨v, vs.length, rfl, ?_, by rw [r.length]; exact q.here hR rfl⟩
      rw [ev]
      exact hq.imp (fun h => ⟨vs, h, rfl⟩) fun h => ⟨vs, h, rfl⟩
    · exact q.elim
def bList : D → Store → R D := fun d S => match seqOf S d with
  | some xs => .ok (.loc S.length) (S ++ [.lst xs])
  | none => .bad
theorem cr_list : CallR X (.type "list") (rF (gOf X) (on1 bList)) := by
  intro pins s σ H vs us Q I rv ⟨ρ, S, ds, hR, hd, q⟩
  obtain ⟨d, v, rfl, hd, q⟩ := q.on1 hd
  unfold bList at q
  split at q
  · rename_i e
    obtain ⟨a, vs, ev, r, z, hq, _⟩ := seq_of hR e hd
    exact call_list_of pins s σ H [v] us Q I rv ⟨a, vs, by rw [ev], hq, fun p hp => q.newL hR hp r z⟩
  · exact q.elim
def bTuple : D → Store → R D := fun d S => match seqOf S d with
  | some xs => .ok (.tup xs) S
  | none => .bad
theorem cr_tuple : CallR X (.type "tuple") (rF (gOf X) (on1 bTuple)) := by
  intro pins s σ H vs us Q I rv ⟨ρ, S, ds, hR, hd, q⟩
  obtain ⟨d, v, rfl, hd, q⟩ := q.on1 hd
  unfold bTuple at q
  split at q
  · rename_i e
    obtain ⟨a, vs, ev, r, z, hq, h1, h2⟩ := seq_of hR e hd
    refine call_tuple_of pins s σ H [v] us Q I rv ⟨a, vs, by rw [ev], ?_⟩
    by_cases ht : ∃ ys, d = .tup ys
    · refine .inr ⟨h1 ht, ?_⟩
      obtain ⟨ys, rfl⟩ := ht
      cases e
      rw [← ev]
      exact q.here hR hd
    · exact .inl ⟨h2 fun ys e => ht ⟨ys, e⟩, fun p hp => q.newT hR hp r z⟩
  · exact q.elim
/-- all bools, all ints -/
def blsOf : List D → Option (List Bool)
  | [] => some []
  | .bl b :: r => (blsOf r).map (b :: ·)
  | _ :: _ => none
def intsOf : List D → Option (List Int)
  | [] => some []
  | .int b :: r => (intsOf r).map (b :: ·)
  | _ :: _ => none
theorem blsOf_rp {K : PySem.W.Frag} {ρ : List Addr} {H : Hp} : ∀ {ds : List D} {vs : List V} {bs : List Bool}, blsOf ds = some bs → RpVs K ρ H ds vs → vs = bs.map V.bl
  | [], _, _, e, h => by cases e; rw [show _ = [] from h]; rfl
  | d :: ds, _, bs, e, h => by
    obtain ⟨v, r, rfl, h1, h2⟩ := h
    cases d with
    | bl b =>
      obtain ⟨bs', e', rfl⟩ := Option.map_eq_some_iff.mp e
      rw [show v = _ from h1, blsOf_rp e' h2]
      rfl
    | _ => cases e
theorem intsOf_rp {K : PySem.W.Frag} {ρ : List Addr} {H : Hp} : ∀ {ds : List D} {vs : List V} {bs : List Int}, intsOf ds = some bs → RpVs K ρ H ds vs → vs = bs.map V.int
  | [], _, _, e, h => by cases e; rw [show _ = [] from h]; rfl
  | d :: ds, _, bs, e, h => by
    obtain ⟨v, r, rfl, h1, h2⟩ := h
    cases d with
    | int b =>
      obtain ⟨bs', e', rfl⟩ := Option.map_eq_some_iff.mp e
      rw [show v = _ from h1, intsOf_rp e' h2]
      rfl
    | _ => cases e
theorem intsOf_map : ∀ ns : List Int, intsOf (ns.map D.int) = some ns
  | [] => rfl
  | n :: ns => by
    show (intsOf (ns.map D.int)).map (n :: ·) = _
    rw [intsOf_map ns]; rfl
theorem blsOf_map : ∀ ns : List Bool, blsOf (ns.map D.bl) = some ns
  | [] => rfl
  | n :: ns => by
    show (blsOf (ns.map D.bl)).map (n :: ·) = _
    rw [blsOf_map ns]; rfl
/-- of a list of bools -/
def onBs (f : List Bool → Bool) : D → Store → R D := fun d S => match d with
  | .loc l => match S[l]? with
    | some (.lst xs) => match blsOf xs with
      | some bs => .ok (.bl (f bs)) S
      | none => .bad
    | _ => .bad
  | _ => .bad
abbrev bAny := onBs fun bs => bs.any id
abbrev bAll := onBs fun bs => bs.all id
theorem cr_onBs {id : String} {f : List Bool → Bool} (h : CallR X (.builtin id) (fun vs H Q => ∃ (a : Addr) (bs : List Bool), vs = [V.ref a] ∧ SqL X.K H a (bs.map V.bl) ∧ Q (.bl (f bs)) H)) : CallR X (.builtin id) (rF (gOf X) (on1 (onBs f))) := by
  intro pins s σ H vs us Q I rv ⟨ρ, S, ds, hR, hd, q⟩
  obtain ⟨d, v, rfl, hd, q⟩ := q.on1 hd
  unfold onBs at q
  split at q
  · split at q
    · rename_i e0
      split at q
      · rename_i e1
        obtain ⟨a, vs, ea, _, ha, ra, _⟩ := hR.lst e0 hd
        rw [blsOf_rp e1 ra] at ha
        exact h pins s σ H [v] us Q I rv ⟨a, _, by rw [ea], SqL.of ha, q.here hR rfl⟩
      · exact q.elim
    · exact q.elim
  · exact q.elim
theorem cr_any' (hc : X.calm = true) : CallR X (.builtin "any") (rF (gOf X) (on1 bAny)) := cr_onBs (cr_any hc)
theorem cr_all' (hc : X.calm = true) : CallR X (.builtin "all") (rF (gOf X) (on1 bAll)) := cr_onBs (cr_all hc)
/-- str(n) of a small int, or of a text -/
def bStr : D → Store → R D
  | .int i, S => if i.natAbs.log2 < 1920 then .ok (.str (toString i)) S else .bad
  | .str z, S => .ok (.str z) S
  | _, _ => .bad
def bInt : D → Store → R D
  | .int i, S => .ok (.int i) S
  | .bl b, S => .ok (.int (if b then 1 else 0)) S
  | .str z, S => if z.length ≤ 640 then match PySem.intText? z with
      | some n => .ok (.int n) S
      | none => .bad
    else .bad
  | _, _ => .bad
end
end Mn
set_option maxHeartbeats 4000000
/-! Rules: sum, min, max, sorted, in; methods of lists and texts; calls of defs; statements; loops; comprehensions. -/
namespace Mn
open PySem PySem.Spec PyProof.Rows L2
section
variable {X : Cx} {W : WX}
theorem cr_str : CallR X (.type "str") (rF (gOf X) (on1 bStr)) := by
  intro pins s σ H vs us Q I rv ⟨ρ, S, ds, hR, hd, q⟩
  obtain ⟨d, v, rfl, hd, q⟩ := q.on1 hd
  unfold bStr at q
  split at q
  · obtain ⟨hz, q⟩ := q.ite
    exact call_str_int pins s σ H [v] us Q I rv ⟨_, by rw [show v = _ from hd], hz, q.here hR rfl⟩
  · obtain ⟨u, rfl, rx⟩ := vals1 rv
    rw [show v = _ from hd] at rx
    obtain ⟨t, rfl⟩ := rx
    exact SkE.call_str_str pins s σ H [.str _] [_] Q I (.cons ⟨_, rfl⟩ .nil) ⟨_, rfl, q.here hR rfl⟩
  · exact q.elim
theorem cr_int : CallR X (.type "int") (rF (gOf X) (on1 bInt)) := by
  intro pins s σ H vs us Q I rv ⟨ρ, S, ds, hR, hd, q⟩
  obtain ⟨d, v, rfl, hd, q⟩ := q.on1 hd
  unfold bInt at q
  split at q
  · exact call_int1 pins s σ H [v] us Q I rv (.inl ⟨_, by rw [show v = _ from hd], q.here hR rfl⟩)
  · exact call_int1 pins s σ H [v] us Q I rv (.inr ⟨_, by rw [show v = _ from hd], q.here hR rfl⟩)
  · obtain ⟨hz, q⟩ := q.ite
    split at q
    · rename_i e
      exact call_int_str pins s σ H [v] us Q I rv ⟨_, _, by rw [show v = _ from hd], e, hz, q.here hR rfl⟩
    · exact q.elim
  · exact q.elim
/-! ### sum, min, max of ints -/
def onIs (f : List Int → Option Int) : D → Store → R D := fun d S => match seqOf S d with
  | some xs => match intsOf xs with
    | some ns => match f ns with
      | some n => .ok (.int n) S
      | none => .bad
    | none => .bad
  | none => .bad
abbrev bSum := onIs fun ns => some ns.sum
abbrev bMin := onIs fun ns => match ns with
  | [] => none
  | n :: r => some (r.foldl min n)
abbrev bMax := onIs fun ns => match ns with
  | [] => none
  | n :: r => some (r.foldl max n)
theorem onIs_cases {G : Gc} {ρ : List Addr} {H : Hp} {S : Store} {σ : L2.St} {Q : VK} {f : List Int → Option Int} {d : D} {v : V} (q : Out G WT (rpV G) ρ H σ Q (onIs f d S)) (hR : Rel G ρ H S) (hd : RpV G.K ρ H d v) :
    ∃ a ns n, v = .ref a ∧ (SqL G.K H a (ns.map V.int) ∨ SqT G.K H a (ns.map V.int)) ∧ f ns = some n ∧ Q (.int n) H := by
  unfold onIs at q
  split at q
  · rename_i e0
    split at q
    · rename_i e1
      split at q
      · rename_i e2
        obtain ⟨a, vs, ev, r, z, hq, _⟩ := seq_of hR e0 hd
        rw [intsOf_rp e1 r] at hq
        exact ⟨a, _, _, ev, hq, e2, q.here hR rfl⟩
      · exact q.elim
    · exact q.elim
  · exact q.elim
theorem sum_rawT {prog : Program} {w : World} {A : Around} {E : Value → Shared → Prop} {s : Shared} {l : Addr} {its : List Value} {ns : List Int} {Q : Value → Shared → Prop} (hh : A.handled = none) (hl : s.heap.IsTuple l its.toArray) (hi : IntsAre its ns)
    (h : ∀ h' tk t', (∀ b o, s.heap.get? b = some o → h'.get? b = some o) → Q (.int ns.sum t') { s with heap := h', toks := tk }) : wpAny (model prog w) A (call (.builtin "sum") [.ref l]) Q E s := by
  obtain ⟨xs, e⟩ := hi.allInts.items
  have hn : numsOf (intItems xs).toList = ns := by rw [← e]; exact hi.numsOf
  rw [nums_intItems] at hn
  rw [e] at hl
  refine PySem.W.ktm_sumG hh hl fun h' tk t' hk => ?_
  have := h h' tk t' hk
  rw [preSum_eq, List.take_of_length_le (by simp), hn]; exact this
theorem cr_sum' (hc : X.calm = true) : CallR X (.builtin "sum") (rF (gOf X) (on1 bSum)) := by
  intro pins s σ H vs us Q I rv ⟨ρ, S, ds, hR, hd, q⟩
  obtain ⟨d, v, rfl, hd, q⟩ := q.on1 hd
  obtain ⟨a, ns, n, rfl, hq, e, q⟩ := onIs_cases q hR hd
  cases e
  rcases hq with hq | hq
  · exact cr_sum hc pins s σ H [_] us Q I rv ⟨a, ns, rfl, hq, q⟩
  · obtain ⟨its, r, hl, _⟩ := I.tuple hq
    rw [Vals.ref1 rv]
    exact sum_rawT (I.ok.hd hc) hl r.ints fun h' tk t' hk => ⟨.int _, H, I.kept hk, ⟨_, rfl⟩, q⟩
theorem reads_ints {h : Heap} : ∀ {ns : List Int} {us : List Value}, IntsAre us ns → ∃ as, ReadsAll h us (ns.map PyData.int) as
  | [], _, i => by cases i; exact ⟨_, .nil⟩
  | n :: ns, _, i => by
    cases i with
    | cons t _ r =>
      obtain ⟨as, q⟩ := reads_ints (h := h) r
      exact ⟨_, .cons (.int _ _) q⟩
theorem alike_ints (ns : List Int) : PySem.W.AlikeAll (ns.map PyData.int) := by
  constructor
  · intro x hx y hy
    obtain ⟨i, _, rfl⟩ := List.mem_map.mp hx
    obtain ⟨j, _, rfl⟩ := List.mem_map.mp hy
    rfl
  · intro x hx
    obtain ⟨i, _, rfl⟩ := List.mem_map.mp hx
    exact fun z => nomatch z
theorem depth_ints : ∀ ns : List Int, PyData.depthAll (ns.map PyData.int) ≤ 1
  | [] => Nat.zero_le _
  | n :: ns => by
    have := depth_ints ns
    simp only [List.map_cons, PyData.depthAll, PyData.depth]
    omega
theorem read_int {h : Heap} {v : Value} {m : Int} {bs : List Addr} (r : Reads h v (.int m) bs) : ∃ t, v = .int m t := by
  cases r; exact ⟨_, rfl⟩
theorem cr_min' (hc : X.calm = true) (hu : X.A.units + 64 < cLine) : CallR X (.builtin "min") (rF (gOf X) (on1 bMin)) := by
  intro pins s σ H vs us Q I rv ⟨ρ, S, ds, hR, hd, q⟩
  obtain ⟨d, v, rfl, hd, q⟩ := q.on1 hd
  obtain ⟨a, ns, n, rfl, hq, e, q⟩ := onIs_cases q hR hd
  cases ns with
  | nil => cases e
  | cons x r =>
    cases e
    have hu' : X.A.units + 1 + PyData.depthAll (.int x :: r.map PyData.int) < cLine := by
      have := depth_ints (x :: r)
      rw [List.map_cons] at this
      omega
    rw [Vals.ref1 rv]
    have fin : ∀ (i : Nat) v h' tk bs, Reads h' v (PySem.W.minD (.int x) (r.map PyData.int)) bs → (∀ b o, s.heap.get? b = some o → h'.get? b = some o) → EP X pins σ Q v { s with heap := h', toks := tk } := fun i v h' tk bs rd hk => by
      rw [PySem.W.minD_ints] at rd
      obtain ⟨t, rfl⟩ := read_int rd
      exact ⟨.int _, H, I.kept hk, ⟨_, rfl⟩, q⟩
    rcases hq with hq | hq
    · obtain ⟨its, r', hl, _⟩ := I.list hq
      obtain ⟨as, hr⟩ := reads_ints (h := s.heap) r'.ints
      exact PySem.W.min_list_data (I.ok.hd hc) hl.isList (x := .int x) (xs := r.map PyData.int) (by simpa using hr) (alike_ints (x :: r)) hu' fun i v h' tk bs _ rd hk => fin i v h' tk bs rd hk
    · obtain ⟨its, r', hl, _⟩ := I.tuple hq
      obtain ⟨as, hr⟩ := reads_ints (h := s.heap) r'.ints
      exact PySem.W.min_tuple_data (I.ok.hd hc) hl (x := .int x) (xs := r.map PyData.int) (by simpa using hr) (alike_ints (x :: r)) hu' fun i v h' tk bs _ rd hk => fin i v h' tk bs rd hk
theorem cr_max' (hc : X.calm = true) (hu : X.A.units + 64 < cLine) : CallR X (.builtin "max") (rF (gOf X) (on1 bMax)) := by
  intro pins s σ H vs us Q I rv ⟨ρ, S, ds, hR, hd, q⟩
  obtain ⟨d, v, rfl, hd, q⟩ := q.on1 hd
  obtain ⟨a, ns, n, rfl, hq, e, q⟩ := onIs_cases q hR hd
  cases ns with
  | nil => cases e
  | cons x r =>
    cases e
    have hu' : X.A.units + 1 + PyData.depthAll (.int x :: r.map PyData.int) < cLine := by
      have := depth_ints (x :: r)
      rw [List.map_cons] at this
      omega
    rw [Vals.ref1 rv]
    have fin : ∀ (i : Nat) v h' tk bs, Reads h' v (PySem.W.maxD (.int x) (r.map PyData.int)) bs → (∀ b o, s.heap.get? b = some o → h'.get? b = some o) → EP X pins σ Q v { s with heap := h', toks := tk } := fun i v h' tk bs rd hk => by
      rw [PySem.W.maxD_ints] at rd
      obtain ⟨t, rfl⟩ := read_int rd
      exact ⟨.int _, H, I.kept hk, ⟨_, rfl⟩, q⟩
    rcases hq with hq | hq
    · obtain ⟨its, r', hl, _⟩ := I.list hq
      obtain ⟨as, hr⟩ := reads_ints (h := s.heap) r'.ints
      exact PySem.W.max_list_data (I.ok.hd hc) hl.isList (x := .int x) (xs := r.map PyData.int) (by simpa using hr) (alike_ints (x :: r)) hu' fun i v h' tk bs _ rd hk => fin i v h' tk bs rd hk
    · obtain ⟨its, r', hl, _⟩ := I.tuple hq
      obtain ⟨as, hr⟩ := reads_ints (h := s.heap) r'.ints
      exact PySem.W.max_tuple_data (I.ok.hd hc) hl (x := .int x) (xs := r.map PyData.int) (by simpa using hr) (alike_ints (x :: r)) hu' fun i v h' tk bs _ rd hk => fin i v h' tk bs rd hk
/-! ### sorted -/
/-- data that can be put in order -/
def sortOk (ps : List PyData) : Bool := (ps.all fun p => ps.all fun q => PySem.W.alike p q) && ((ps.all fun p => match p with | .tuple (_ :: _) => true | _ => false) || (ps.all fun p => match p with | .none => false | .tuple _ => false | _ => true)) && ps.all fun p => decide (p.depth ≤ 60)
def sortD (S : Store) (xs : List D) : List D := xs.mergeSort (PySem.W.dataLe false fun d => (pd 9 S d).getD .none)
def bSorted : D → Store → R D := fun d S => match d with
  | .loc l => match S[l]? with
    | some (.lst xs) => match xs.mapM (pd 9 S) with
      | some ps => if sortOk ps = true then .ok (.loc S.length) (S ++ [.lst (sortD S xs)]) else .bad
      | none => .bad
    | _ => .bad
  | _ => .bad
end
end Mn
set_option maxHeartbeats 4000000
/-! Dicts of tuple keys; in; subscripts read and stored; sorted. -/
namespace Mn
open PySem PySem.Spec PyProof.Rows L2
mutual
theorem ofKey_nkey : ∀ (x : D) (k : NestedKey), nkey x = some k → ofKey k = x
  | .non, _, e => by cases e; rfl
  | .bl _, _, e => by cases e
  | .int _, _, e => by cases e; rfl
  | .str _, _, e => by cases e; rfl
  | .tup xs, k, e => by
    simp only [nkey, Option.map_eq_some_iff] at e
    obtain ⟨ks, e, rfl⟩ := e
    simp only [ofKey]
    rw [ofKeys_nkeys xs ks e]
  | .ro _, _, e => by cases e
  | .loc _, _, e => by cases e
theorem ofKeys_nkeys : ∀ (xs : List D) (ks : List NestedKey), nkeys xs = some ks → ofKeys ks = xs
  | [], _, e => by cases e; rfl
  | x :: xs, ks, e => by
    simp only [nkeys] at e
    split at e
    · rename_i k ks' e1 e2
      cases e
      simp only [ofKeys]
      rw [ofKey_nkey x k e1, ofKeys_nkeys xs ks' e2]
    · cases e
end
theorem tkey_of {x : D} {k : NestedKey} (h : tkey x = some k) : ofKey k = x ∧ k.depth ≤ 8 ∧ ∃ ds, x = .tup ds := by
  unfold tkey at h
  split at h
  · split at h
    · rename_i e
      split at h
      · rename_i hd
        cases h
        exact ⟨ofKey_nkey _ _ e, hd, _, rfl⟩
      · cases h
    · cases h
  · cases h
section
variable {X : Cx} {W : WX} {pins : List (Addr × Obj)} {s : Shared} {σ : L2.St} {H : Hp}
mutual
theorem nested_of {ρ : List Addr} (I : Inv X pins σ H s) : ∀ (k : NestedKey) (v : V) (u : Value), RpV X.K ρ H (ofKey k) v → RelV v u → NestedIs s.heap k u
  | .none, _, _, h, r => by
    rw [show _ = V.non from h] at r
    cases r
    exact .none
  | .num i, _, _, h, r => by
    rw [show _ = V.int i from h] at r
    obtain ⟨t, rfl⟩ := r
    exact .int i t
  | .text x, _, _, h, r => by
    rw [show _ = V.str x from h] at r
    obtain ⟨t, rfl⟩ := r
    exact .text x t
  | .tup ks, _, _, h, r => by
    obtain ⟨a, vs, rfl, ta, _, ra⟩ := h
    cases r
    obtain ⟨its, rv, ⟨o, ho, hc, n, hd⟩, _⟩ := I.tuple ta.sq
    exact .tup ho hc hd (nesteds_of I ks vs its ra rv)
theorem nesteds_of {ρ : List Addr} (I : Inv X pins σ H s) : ∀ (ks : List NestedKey) (vs : List V) (us : List Value), RpVs X.K ρ H (ofKeys ks) vs → Vals vs us → NestedAll s.heap ks us
  | [], _, _, h, r => by
    rw [show _ = [] from h] at r
    cases r
    exact .nil
  | k :: ks, _, _, h, r => by
    obtain ⟨v, vs, rfl, h1, h2⟩ := h
    cases r with
    | cons r1 r2 => exact .cons (nested_of I k v _ h1 r1) (nesteds_of I ks vs _ h2 r2)
end
abbrev nk (X : Cx) := nestedKind X.prog X.w
theorem xt_is {ρ : List Addr} (I : Inv X pins σ H s) : ∀ {kvs : List (NestedKey × D)} {xs : List (NestedKey × Addr × Value)}, XtR X.K ρ H kvs xs → ∀ x ∈ xs, (nk X).is s.heap x.1 x.2.1
  | [], _, h, x, hx => by rw [show _ = [] from h] at hx; exact nomatch hx
  | p :: ps, _, h, x, hx => by
    obtain ⟨b, u, v, r, rfl, z, h1, _, _, h3⟩ := h
    rcases List.mem_cons.mp hx with rfl | hx
    · exact ⟨nested_of I _ _ _ h1 rfl, z⟩
    · exact xt_is I h3 x hx
theorem xt_at {K : PySem.W.Frag} {ρ : List Addr} : ∀ {kvs : List (NestedKey × D)} {xs : List (NestedKey × Addr × Value)} (k : NestedKey), XtR K ρ H kvs xs →
    (kvs.lookup k = none ∧ atKey xs k = none) ∨ ∃ d p v, kvs.lookup k = some d ∧ atKey xs k = some p ∧ RelV v p.2 ∧ RpV K ρ H d v
  | [], _, k, h => by rw [show _ = [] from h]; exact .inl ⟨rfl, rfl⟩
  | p :: ps, _, k, h => by
    obtain ⟨b, u, v, r, rfl, z, h1, ru, h2, h3⟩ := h
    by_cases hk : p.1 = k
    · refine .inr ⟨p.2, (b, u), v, ?_, ?_, ru, h2⟩
      · obtain ⟨k', d⟩ := p
        cases hk
        simp
      · simp [atKey, hk]
    · rcases xt_at k h3 with ⟨e1, e2⟩ | ⟨d, q, v', e1, e2, e3⟩
      · refine .inl ⟨?_, ?_⟩
        · obtain ⟨k', d⟩ := p
          have hk' : (k == k') = false := by simpa using fun e => hk e.symm
          simp [List.lookup_cons, hk', e1]
        · have e2' : List.find? (fun x => decide (x.1 = k)) r = none := by simpa [atKey] using e2
          simp [atKey, hk, e2']
      · refine .inr ⟨d, q, v', ?_, ?_, e3⟩
        · obtain ⟨k', d'⟩ := p
          have hk' : (k == k') = false := by simpa using fun e => hk e.symm
          simp [List.lookup_cons, hk', e1]
        · simpa [atKey, hk] using e2
theorem xt_any {K : PySem.W.Frag} {ρ : List Addr} {kvs : List (NestedKey × D)} {xs : List (NestedKey × Addr × Value)} (k : NestedKey) (h : XtR K ρ H kvs xs) : (atKey xs k).isSome = kvs.any fun p => decide (p.1 = k) := by
  have e : ∀ ps : List (NestedKey × D), (ps.lookup k).isSome = ps.any fun p => decide (p.1 = k) := by
    intro ps
    induction ps with
    | nil => rfl
    | cons p ps ih =>
      obtain ⟨k', d⟩ := p
      by_cases hk : k' = k
      · subst hk; simp
      · have hk' : (k == k') = false := by simpa using fun e => hk e.symm
        simp [List.lookup_cons, hk', hk, ih]
  rw [← e]
  rcases xt_at k h with ⟨e1, e2⟩ | ⟨d, p, v, e1, e2, _⟩ <;> rw [e1, e2] <;> rfl
theorem xt_put {K : PySem.W.Frag} {ρ : List Addr} {k : NestedKey} {b : Addr} {u : Value} {v : V} {d : D} (hk : k.depth ≤ 8) (hb : RpV K ρ H (ofKey k) (.ref b)) (ru : RelV v u) (rv : RpV K ρ H d v) :
    ∀ {kvs : List (NestedKey × D)} {xs : List (NestedKey × Addr × Value)}, XtR K ρ H kvs xs → XtR K ρ H (kput kvs k d) (storedH xs k b u) := by
  have mapped : ∀ {kvs : List (NestedKey × D)} {xs : List (NestedKey × Addr × Value)}, XtR K ρ H kvs xs → XtR K ρ H (kvs.map fun p => if p.1 = k then (p.1, d) else p) (xs.map (putAt k u)) := by
    intro kvs
    induction kvs with
    | nil => intro xs h; rw [show xs = [] from h]; rfl
    | cons p ps ih =>
      intro xs h
      obtain ⟨b', u', v', r, rfl, z, h1, ru', h2, h3⟩ := h
      by_cases e : p.1 = k
      · simp only [List.map_cons, putAt, e, if_true]
        exact ⟨b', u, v, _, rfl, hk, by rw [← e]; exact h1, ru, rv, ih h3⟩
      · simp only [List.map_cons, putAt, e, if_false]
        exact ⟨b', u', v', _, rfl, z, h1, ru', h2, ih h3⟩
  have app : ∀ {kvs : List (NestedKey × D)} {xs : List (NestedKey × Addr × Value)}, XtR K ρ H kvs xs → XtR K ρ H (kvs ++ [(k, d)]) (xs ++ [(k, b, u)]) := by
    intro kvs
    induction kvs with
    | nil => intro xs h; rw [show xs = [] from h]; exact ⟨b, u, v, [], rfl, hk, hb, ru, rv, rfl⟩
    | cons p ps ih =>
      intro xs h
      obtain ⟨b', u', v', r, rfl, z, h1, ru', h2, h3⟩ := h
      exact ⟨b', u', v', _, rfl, z, h1, ru', h2, ih h3⟩
  intro kvs xs h
  unfold kput storedH
  rw [xt_any k h]
  split
  · exact mapped h
  · exact app h
theorem xt_len {K : PySem.W.Frag} {ρ : List Addr} : ∀ {kvs : List (NestedKey × D)} {xs : List (NestedKey × Addr × Value)}, XtR K ρ H kvs xs → xs.length = kvs.length
  | [], _, h => by rw [show _ = [] from h]; rfl
  | p :: ps, _, h => by
    obtain ⟨b, u, v, r, rfl, z, h1, _, _, h3⟩ := h
    simp [xt_len h3]
/-- a dict at a place, in the heap, walked or not -/
theorem Rel.dx {ρ : List Addr} {S : Store} {l : Nat} {kvs : List (NestedKey × D)} {ob : Ob} {v : V} (hR : Rel (gOf X) ρ H S) (e : S[l]? = some ob) (eo : ob.dict? = some kvs) (hv : RpV X.K ρ H (.loc l) v) :
    ∃ a xs, v = .ref a ∧ ρ[l]? = some a ∧ XtR X.K ρ H kvs xs ∧ (a == sysModules) = false ∧ xs.length ≤ sizeLine ∧ ∀ {pins : List (Addr × Obj)} {s : Shared} {σ : L2.St}, Inv X pins σ H s → s.heap.DictOfH (nk X) a xs := by
  obtain ⟨a, ea, q⟩ := hR.place e
  obtain ⟨a', ea', rfl⟩ := hv
  rw [ea] at ea'
  cases ea'
  cases ob with
  | dt _ =>
    cases eo
    obtain ⟨o, es, ep, xs, h1, h2, h3, h4, h5, h6, h7, h8⟩ := q
    refine ⟨a, xs, rfl, ea, h8, h6, h7, fun {pins s σ} I => ?_⟩
    have q : s.heap.get? a = some o := (I.hok a _ h1).1
    exact ⟨o, es, ep, q, h2, h3, h4, xt_is I h8, h5⟩
  | dl _ =>
    cases eo
    obtain ⟨od, o, es, ep, xs, h1, h2, h3, h4, h5, h6, h7, h8⟩ := q
    refine ⟨a, xs, rfl, ea, h8, h6, h7, fun {pins s σ} I => ?_⟩
    have q : s.heap.get? a = some o := (I.hok a _ h1).2.1
    exact ⟨o, es, ep, q, h2, h3, h4, xt_is I h8, h5⟩
  | _ => cases eo
/-- a dict at a place that is not walked -/
theorem Rel.dt {ρ : List Addr} {S : Store} {l : Nat} {kvs : List (NestedKey × D)} {v : V} (hR : Rel (gOf X) ρ H S) (e : S[l]? = some (.dt kvs)) (hv : RpV X.K ρ H (.loc l) v) :
    ∃ a o xs, v = .ref a ∧ ρ[l]? = some a ∧ H a = some (dtO o a) ∧ XtR X.K ρ H kvs xs ∧ (a == sysModules) = false ∧ xs.length ≤ sizeLine ∧ ∀ {pins : List (Addr × Obj)} {s : Shared} {σ : L2.St}, Inv X pins σ H s → s.heap.DictOfH (nk X) a xs ∧ s.heap.get? a = some o ∧ o.ExactDict := by
  obtain ⟨a, ea, o, es, ep, xs, h1, h2, h3, h4, h5, h6, h7, h8⟩ := hR.place e
  obtain ⟨a', ea', rfl⟩ := hv
  rw [ea] at ea'
  cases ea'
  refine ⟨a, o, xs, rfl, ea, h1, h8, h6, h7, fun {pins s σ} I => ?_⟩
  have q : s.heap.get? a = some o := (I.hok a _ h1).1
  exact ⟨⟨o, es, ep, q, h2, h3, h4, xt_is I h8, h5⟩, q, h2⟩
/-- a dict is written -/
theorem dt_write {ρ : List Addr} {S : Store} {l : Nat} {a : Addr} {o : Obj} {kvs : List (NestedKey × D)} {xs : List (NestedKey × Addr × Value)} {h' : Heap} {t' : Nat} (I : Inv X pins σ H s) (hR : Rel (gOf X) ρ H S) (ea : ρ[l]? = some a) (hH : H a = some (dtO o a)) (hs : (a == sysModules) = false)
    (hm : h'.DictOfH (nk X) a xs) (sb : Heap.SameBut a s.heap h') (hx : XtR X.K ρ H kvs xs) (hz : xs.length ≤ sizeLine) :
    ∃ H', Inv X pins σ H' { s with heap := h', toks := t' } ∧ Ext ρ H ρ H' ∧ Rel (gOf X) ρ H' (S.set l (.dt kvs)) := by
  obtain ⟨o', es, ep, q1, q2, q3, q4, q5, q6⟩ := hm
  have ha := List.mem_of_getElem? ea
  have hf : ∀ o v, H a ≠ some (.frz o v) := fun o v z => by rw [hH] at z; cases z
  refine ⟨upd H a (dtO o' a), ?_, Ext.write ha hf, hR.write ea hf ⟨o', es, ep, xs, upd_same, q2, q3, q4, q6, hs, hz, (Ext.write ha hf).xt hx⟩⟩
  refine I.write (t' := t') (x := a) (e := a) (by rw [hH]; exact True.intro) (.inl rfl) (fun b u hb e => (sb.2 b hb).trans e) ⟨_, q1⟩ ⟨q1, ⟨_, q1⟩, fun h1 h2 e1 k => k _ e1⟩
theorem depth_room {k : NestedKey} (hu : X.A.units + 64 < cLine) : (nk X).room X.A.in1 := by show X.A.units + 1 + 8 < cLine; omega
/-! ### in -/
theorem flat_ints {K : PySem.W.Frag} {ρ : List Addr} {i : Int} : ∀ {ys : List D} {vs : List V}, ys.all (fun y => match y with | .int _ => true | _ => false) = true → RpVs K ρ H ys vs → vs.all flatV = true ∧ inV (.int i) vs = decide (D.int i ∈ ys)
  | [], _, _, h => by rw [show _ = [] from h]; exact ⟨rfl, rfl⟩
  | y :: ys, _, e, h => by
    obtain ⟨v, r, rfl, h1, h2⟩ := h
    simp only [List.all_cons, Bool.and_eq_true] at e
    obtain ⟨q1, q2⟩ := flat_ints (i := i) e.2 h2
    cases y with
    | int j =>
      rw [show v = V.int j from h1]
      refine ⟨by simp only [List.all_cons, flatV, q1, Bool.and_self], ?_⟩
      show (eqV (V.int j) (V.int i) || inV (V.int i) r) = _
      rw [q2, show eqV (V.int j) (V.int i) = (j == i) from rfl]
      by_cases hij : i = j
      · subst hij; simp
      · simp only [List.mem_cons, D.int.injEq, hij, false_or]
        rw [show (j == i) = false from by simpa using fun e => hij e.symm, Bool.false_or]
    | _ => simp at e
theorem flat_strs {K : PySem.W.Frag} {ρ : List Addr} {i : Str} : ∀ {ys : List D} {vs : List V}, ys.all (fun y => match y with | .str _ => true | _ => false) = true → RpVs K ρ H ys vs → vs.all flatV = true ∧ inV (.str i) vs = decide (D.str i ∈ ys)
  | [], _, _, h => by rw [show _ = [] from h]; exact ⟨rfl, rfl⟩
  | y :: ys, _, e, h => by
    obtain ⟨v, r, rfl, h1, h2⟩ := h
    simp only [List.all_cons, Bool.and_eq_true] at e
    obtain ⟨q1, q2⟩ := flat_strs (i := i) e.2 h2
    cases y with
    | str j =>
      rw [show v = V.str j from h1]
      refine ⟨by simp only [List.all_cons, flatV, q1, Bool.and_self], ?_⟩
      show (eqV (V.str j) (V.str i) || inV (V.str i) r) = _
      rw [q2, show eqV (V.str j) (V.str i) = (j == i) from rfl]
      by_cases hij : i = j
      · subst hij; simp
      · simp only [List.mem_cons, D.str.injEq, hij, false_or]
        rw [show (j == i) = false from by simpa using fun e => hij e.symm, Bool.false_or]
    | _ => simp at e
theorem or_in (hu : X.A.units + 65 < cLine) : OpR X (compareOp .In) (r2 (gOf X) oIn) := by
  intro pins s σ H x y v u Q I rx ry ⟨ρ, S, d, e, hR, hd, he, q⟩
  unfold oIn at q
  split at q
  · exact op_in_str pins s σ H x y v u Q I rx ry ⟨_, _, hd, he, q.here hR rfl⟩
  · split at q
    · rename_i e0
      unfold inLst at q
      split at q
      · rename_i e1 e2
        obtain ⟨⟨s1, s2⟩, q⟩ := q.ite
        obtain ⟨a, vs, ea, _, ha, ra, _⟩ := hR.lst e0 he
        exact op_inD hu pins s σ H x y v u Q I rx ry ⟨_, _, pd_dp hR 9 _ _ _ e1 hd, by rw [ea]; exact .lst (SqL.of ha) (pds_dp hR 9 _ _ _ e2 ra), s1, s2, q.here hR rfl⟩
      · exact q.elim
    · rename_i e0
      split at q
      · rename_i k eo ek
        obtain ⟨ek, kd, ds, rfl⟩ := tkey_of ek
        obtain ⟨a, xs, rfl, ea, hx, hsm, hz, hm⟩ := hR.dx e0 eo he
        cases ry
        have hb := id hd
        obtain ⟨b, vs, rfl, _⟩ := hb
        cases rx
        refine wpAny_in_heap (depth_room (k := k) (by omega)) (a := b) (k := k) ⟨nested_of I k (V.ref b) (Value.ref b) (by rw [ek]; exact hd) rfl, kd⟩ hsm (hm I) ?_
        refine ⟨.bl _, H, I.tok _, ?_, q.here hR rfl⟩
        rcases xt_at k hx with ⟨e1, e2⟩ | ⟨d', p, v', e1, e2, _⟩ <;> (rw [e1, e2]; rfl)
      · exact q.elim
    · exact q.elim
  · rename_i ys _
    split at q
    · rename_i b eb
      obtain ⟨a, vs, rfl, ta, _, ra⟩ := he
      unfold inFlat at eb
      split at eb
      · split at eb
        · rename_i hall
          cases eb
          obtain ⟨f1, f2⟩ := flat_ints hall ra
          cases (show x = _ from hd)
          exact op_in_seq pins s σ H _ _ v u Q I rx ry ⟨a, vs, rfl, .inr ta.sq, rfl, f1, by rw [if_neg Bool.false_ne_true, f2]; exact q.here hR rfl⟩
        · cases eb
      · split at eb
        · rename_i hall
          cases eb
          obtain ⟨f1, f2⟩ := flat_strs hall ra
          cases (show x = _ from hd)
          exact op_in_seq pins s σ H _ _ v u Q I rx ry ⟨a, vs, rfl, .inr ta.sq, rfl, f1, by rw [if_neg Bool.false_ne_true, f2]; exact q.here hR rfl⟩
        · cases eb
      · cases eb
    · exact q.elim
  · exact q.elim
theorem not_out {G : Gc} {ρ : List Addr} {H : Hp} {σ : L2.St} {Q : VK} {r : R D} (h : Out G WT (rpV G) ρ H σ Q (notR r)) : Out G WT (rpV G) ρ H σ (fun v H' => ∃ b, v = .bl b ∧ Q (.bl (!b)) H') r := by
  unfold notR tst at h
  split at h
  · exact fun ρ' H' v x r q => ⟨_, q, h ρ' H' _ x r rfl⟩
  · exact h.elim
  · exact h
  · exact h
theorem or_notIn (hu : X.A.units + 65 < cLine) : OpR X (compareOp .NotIn) (r2 (gOf X) oNotIn) := by
  intro pins s σ H x y v u Q I rx ry ⟨ρ, S, d, e, hR, hd, he, q⟩
  unfold oNotIn at q
  replace q := not_out q
  unfold oIn at q
  split at q
  · obtain ⟨b, eb, q⟩ := q.here hR rfl
    cases eb
    exact L2.op_notin_str pins s σ H x y v u Q I rx ry ⟨_, _, hd, he, q⟩
  · split at q
    · rename_i e0
      unfold inLst at q
      split at q
      · rename_i e1 e2
        obtain ⟨⟨s1, s2⟩, q⟩ := q.ite
        obtain ⟨b, eb, q⟩ := q.here hR rfl
        cases eb
        obtain ⟨a, vs, ea, _, ha, ra, _⟩ := hR.lst e0 he
        exact op_notInD hu pins s σ H x y v u Q I rx ry ⟨_, _, pd_dp hR 9 _ _ _ e1 hd, by rw [ea]; exact .lst (SqL.of ha) (pds_dp hR 9 _ _ _ e2 ra), s1, s2, q⟩
      · exact q.elim
    · rename_i e0
      split at q
      · rename_i k eo ek
        obtain ⟨b, eb, q⟩ := q.here hR rfl
        cases eb
        obtain ⟨ek, kd, ds, rfl⟩ := tkey_of ek
        obtain ⟨a, xs, rfl, ea, hx, hsm, hz, hm⟩ := hR.dx e0 eo he
        cases ry
        have hb := id hd
        obtain ⟨b, vs, rfl, _⟩ := hb
        cases rx
        show wpAny (model X.prog X.w) X.A (do return Value.bool (!(← contains (.ref a) (.ref b)))) _ _ s
        refine wpAny_bind (wpAny_contains_heap (depth_room (k := k) (by omega)) (a := b) (k := k) ⟨nested_of I k (V.ref b) (Value.ref b) (by rw [ek]; exact hd) rfl, kd⟩ hsm (hm I) (wpAny_pure ?_))
        refine ⟨.bl _, H, I.tok _, ?_, q⟩
        rcases xt_at k hx with ⟨e1, e2⟩ | ⟨d', p, v', e1, e2, _⟩ <;> (rw [e1, e2]; rfl)
      · exact q.elim
    · exact q.elim
  · rename_i ys _
    split at q
    · rename_i b eb
      obtain ⟨b', eb', q⟩ := q.here hR rfl
      cases eb'
      obtain ⟨a, vs, rfl, ta, _, ra⟩ := he
      unfold inFlat at eb
      split at eb
      · split at eb
        · rename_i hall
          cases eb
          obtain ⟨f1, f2⟩ := flat_ints hall ra
          cases (show x = _ from hd)
          exact op_notIn_seq pins s σ H _ _ v u Q I rx ry ⟨a, vs, rfl, .inr ta.sq, rfl, f1, by rw [if_pos rfl, f2]; exact q⟩
        · cases eb
      · split at eb
        · rename_i hall
          cases eb
          obtain ⟨f1, f2⟩ := flat_strs hall ra
          cases (show x = _ from hd)
          exact op_notIn_seq pins s σ H _ _ v u Q I rx ry ⟨a, vs, rfl, .inr ta.sq, rfl, f1, by rw [if_pos rfl, f2]; exact q⟩
        · cases eb
      · cases eb
    · exact q.elim
  · exact q.elim
/-! ### o[i] -/
/-- the read of an item, by values: getItem itself -/
theorem get_list {ρ : List Addr} {S : Store} {l : Nat} {xs : List D} {i : Int} {d : D} {x y : V} {v u : Value} {Q : VK} (I : Inv X pins σ H s) (hR : Rel (gOf X) ρ H S) (e0 : S[l]? = some (.lst xs)) (hd : RpV X.K ρ H (.loc l) x) (he : RpV X.K ρ H (.int i) y) (rx : RelV x v) (ry : RelV y u) (e1 : atI xs i = some d)
    (q : ∀ w', RpV X.K ρ H d w' → Q w' H) : wpAny (model X.prog X.w) X.A (getItem v u) (EP X pins σ Q) X.xe s := by
  obtain ⟨a, vs, rfl, _, ha, ra, _⟩ := hR.lst e0 hd
  cases (show y = _ from he)
  cases rx
  obtain ⟨t, rfl⟩ := ry
  obtain ⟨w', e2, r'⟩ := atI_rp ra e1
  obtain ⟨its, rv, pl, hz⟩ := I.list (SqL.of ha)
  obtain ⟨j, h1, h2, h3, h4, h5⟩ := atI_get e2
  obtain ⟨w, ew, rw'⟩ := rv.get h2
  have hl := rv.length
  have hn := line63
  have fin : EP X pins σ Q w s := ⟨w', H, I, rw', q w' r'⟩
  by_cases h0 : 0 ≤ i
  · have hj : i.toNat = j := by
      rw [seqIndex_of h0 h5] at h1
      exact Option.some.inj h1
    exact wpAny_getItem_list pl.isList h0 (by omega) (by rw [hj]; simpa using ew) fin
  · have hj : (i + (its.toArray.size : Int)).toNat = j := by
      rw [seqIndex_neg (by omega) h4] at h1
      rw [List.size_toArray, ← hl]
      exact Option.some.inj h1
    exact wpAny_getItem_list_neg pl.isList (by omega) (by rw [List.size_toArray] <;> omega) (by omega) (by rw [hj]; simpa using ew) fin
theorem get_dt {ρ : List Addr} {S : Store} {l : Nat} {kvs : List (NestedKey × D)} {k : NestedKey} {d e : D} {x y : V} {v u : Value} {Q : VK} (hu : X.A.units + 64 < cLine) (I : Inv X pins σ H s) (hR : Rel (gOf X) ρ H S) {ob : Ob} (e0 : S[l]? = some ob) (eo : ob.dict? = some kvs) (hd : RpV X.K ρ H (.loc l) x) (he : RpV X.K ρ H e y) (rx : RelV x v) (ry : RelV y u)
    (ek : tkey e = some k) (e1 : kvs.lookup k = some d) (q : ∀ w', RpV X.K ρ H d w' → Q w' H) : wpAny (model X.prog X.w) X.A (getItem v u) (EP X pins σ Q) X.xe s ∧ s.TypeIs v "dict" := by
  obtain ⟨ek, kd, ds, rfl⟩ := tkey_of ek
  obtain ⟨a, xs, rfl, ea, hx, hsm, hz, hm⟩ := hR.dx e0 eo hd
  cases rx
  have hb := id he
  obtain ⟨b, vs, rfl, _⟩ := hb
  cases ry
  refine ⟨?_, (hm I).typeIs⟩
  rcases xt_at k hx with ⟨e2, _⟩ | ⟨d', p, v', e2, e3, e4, e5⟩
  · rw [e1] at e2; cases e2
  · rw [e1] at e2
    cases e2
    exact wpAny_getItem_heap (depth_room (k := k) hu) (a := b) (k := k) ⟨nested_of I k (V.ref b) (Value.ref b) (by rw [ek]; exact he) rfl, kd⟩ (hm I) e3 ⟨v', H, I.tok _, e4, q v' e5⟩
theorem ir_all (hu : X.A.units + 64 < cLine) : IxR X (r2 (gOf X) oIx) := by
  intro value slice pins s σ H x y v u Q I rx ry ⟨ρ, S, d, e, hR, hd, he, q⟩ hs
  unfold oIx at q
  split at q
  · split at q
    · rename_i e0
      obtain ⟨a, vs, ea, ta, _, ra⟩ := hd
      obtain ⟨w', e1, r'⟩ := atI_rp ra e0
      exact ix_tup value slice pins s σ H x y v u Q I rx ry ⟨a, vs, _, w', ea, he, ta.sq, e1, q.here hR r'⟩ hs
    · exact q.elim
  · obtain ⟨hz, q⟩ := q.ite
    split at q
    · rename_i e0
      exact ix_str value slice pins s σ H x y v u Q I rx ry ⟨_, _, _, hd, he, hz, e0, q.here hR rfl⟩ hs
    · exact q.elim
  · split at q
    · rename_i e0
      split at q
      · split at q
        · rename_i e1
          obtain ⟨a, vs, ea, _, ha, ra, _⟩ := hR.lst e0 hd
          obtain ⟨w', e2, r'⟩ := atI_rp ra e1
          exact ix_list value slice pins s σ H x y v u Q I rx ry ⟨a, vs, _, w', ea, he, SqL.of ha, e2, q.here hR r'⟩ hs
        · exact q.elim
      · exact q.elim
    · rename_i e0
      split at q
      · rename_i k eo ek
        split at q
        · rename_i e1
          obtain ⟨g, ty⟩ := get_dt hu I hR e0 eo hd he rx ry ek e1 fun w' r' => q.here hR r'
          exact tail_any ty PySem.F.slot_dict_getitem.lookup g hs
        · exact q.elim
      · exact q.elim
    · exact q.elim
  · exact q.elim
theorem gt_all (hu : X.A.units + 64 < cLine) : PGet X (r2 (gOf X) oIx) := by
  intro pins s σ H x y v u Q I rx ry ⟨ρ, S, d, e, hR, hd, he, q⟩
  unfold oIx at q
  split at q
  · split at q
    · rename_i e0
      obtain ⟨a, vs, rfl, ta, _, ra⟩ := hd
      obtain ⟨w', e1, r'⟩ := atI_rp ra e0
      cases (show y = _ from he)
      cases rx
      obtain ⟨t, rfl⟩ := ry
      obtain ⟨its, r, pl, hz⟩ := I.tuple ta.sq
      obtain ⟨j, h1, h2, h3, h4, h5⟩ := atI_get e1
      obtain ⟨w, ew, rw'⟩ := r.get h2
      have hl := r.length
      have hn := line63
      exact getItem_tuple (j := j) pl (by omega) (by omega) (by rw [List.size_toArray, ← hl]; exact h1) (by simpa using ew) ⟨w', H, I, rw', q.here hR r'⟩
    · exact q.elim
  · rename_i z i
    obtain ⟨hz, q⟩ := q.ite
    split at q
    · rename_i c e0
      cases (show x = _ from hd)
      cases (show y = _ from he)
      obtain ⟨t, rfl⟩ := rx
      obtain ⟨t', rfl⟩ := ry
      obtain ⟨j, h1, h2, h3, h4, h5⟩ := atI_get e0
      have hl : z.cps.toList.length = z.length := by simp [Str.length]
      rw [hl] at h1 h4 h5
      have hn := line63
      exact getItem_str (c := c) (by
        have e1 : decide (i < -(2 ^ 63 : Int)) = false := decide_eq_false (by omega)
        have e2 : decide (i ≥ 2 ^ 63) = false := decide_eq_false (by omega)
        rw [e1, e2, Bool.or_false]) (by rw [h1]; simpa using h2) ⟨.str ⟨#[c]⟩, H, I.tok _, ⟨_, rfl⟩, q.here hR rfl⟩
    · exact q.elim
  · split at q
    · rename_i e0
      split at q
      · split at q
        · rename_i e1
          exact get_list I hR e0 hd he rx ry e1 fun w' r' => q.here hR r'
        · exact q.elim
      · exact q.elim
    · rename_i e0
      split at q
      · rename_i k eo ek
        split at q
        · rename_i e1
          exact (get_dt hu I hR e0 eo hd he rx ry ek e1 fun w' r' => q.here hR r').1
        · exact q.elim
      · exact q.elim
    · exact q.elim
  · exact q.elim
/-! ### o[i] = v -/
def rPut (G : Gc) : V → V → V → Hp → (Hp → Prop) → Prop := fun o i v H Q => ∃ ρ S d e f S', Rel G ρ H S ∧ RpV G.K ρ H d o ∧ RpV G.K ρ H e i ∧ RpV G.K ρ H f v ∧ oPut d e f S = some S' ∧ ∀ ρ' H', Ext ρ H ρ' H' → Rel G ρ' H' S' → Q H'
theorem st_all (hu : X.A.units + 64 < cLine) : PSet X (rPut (gOf X)) := by
  intro pins s σ H o i v ov iv u Q I ro ri rv ⟨ρ, S, d, e, f, S', hR, hd, he, hf, ep, q⟩
  unfold oPut at ep
  split at ep
  · split at ep
    · rename_i e0
      split at ep
      · split at ep
        · rename_i j ej
          cases ep
          obtain ⟨a, vs, ea, el, ha, ra, hz⟩ := hR.lst e0 hd
          refine set_list pins s σ H o i v ov iv u Q I ro ri rv ⟨a, vs, _, j, ea, he, ha, by rw [ra.length]; exact ej, ?_⟩
          have hz0 : ∀ o v, H a ≠ some (.frz o v) := fun o v z => by rw [ha] at z; cases z
          refine q ρ _ (Ext.write (List.mem_of_getElem? el) hz0) (hR.write el hz0 ⟨_, upd_same, ?_, by rw [List.length_set]; exact hz⟩)
          exact (Ext.write (List.mem_of_getElem? el) hz0).rps _ _ (ra.set hf j)
        · cases ep
      · cases ep
    · rename_i e0
      split at ep
      · rename_i k ek
        split at ep
        · rename_i hlt
          cases ep
          obtain ⟨ek, kd, ds, rfl⟩ := tkey_of ek
          obtain ⟨a, ob, xs, rfl, ea, ha, hx, hsm, hz, hm⟩ := hR.dt e0 hd
          cases ro
          have hb := id he
          obtain ⟨b, vs, rfl, _⟩ := hb
          cases ri
          have hx' := xt_put (b := b) kd (by rw [ek]; exact he) rv hf hx
          have hl := xt_len hx
          have hz' : (storedH xs k b u).length ≤ sizeLine := by
            unfold storedH
            split
            · rw [List.length_map]; exact hz
            · rw [List.length_append, List.length_singleton, hl]; omega
          refine wpAny_setItem_heap (depth_room (k := k) hu) (a := b) (k := k) ⟨nested_of I k (V.ref b) (Value.ref b) (by rw [ek]; exact he) rfl, kd⟩ (hm I).1 (fun h' hm' sb => ?_) hz
          obtain ⟨H', I', x', R'⟩ := dt_write (t' := s.toks + (nk X).draws k) I hR ea ha hsm hm' sb hx' hz'
          exact ⟨H', I', q ρ H' x' R'⟩
        · cases ep
      · cases ep
    · cases ep
  · cases ep
end
end Mn
set_option maxHeartbeats 4000000
/-! sorted; methods; calls of defs; statements; while; for. -/
namespace Mn
open PySem PySem.Spec PyProof.Rows L2
section
variable {X : Cx} {W : WX}
/-! ### sorted -/
theorem each_of {ρ : List Addr} {H : Hp} : ∀ {ds : List D} {vs : List V} {us : List Value}, RpVs X.K ρ H ds vs → Vals vs us → PySem.W.EachIs (fun u d => ∃ v, RelV v u ∧ RpV X.K ρ H d v) us ds
  | [], _, _, h, r => by rw [show _ = [] from h] at r; cases r; exact .nil
  | d :: ds, _, _, h, r => by
    obtain ⟨v, vs, rfl, h1, h2⟩ := h
    cases r with
    | cons r1 r2 => exact .cons ⟨v, r1, h1⟩ (each_of h2 r2)
theorem of_each {ρ : List Addr} {H : Hp} : ∀ {ds : List D} {us : List Value}, PySem.W.EachIs (fun u d => ∃ v, RelV v u ∧ RpV X.K ρ H d v) us ds → ∃ vs, Vals vs us ∧ RpVs X.K ρ H ds vs
  | [], _, h => by cases h; exact ⟨[], .nil, rfl⟩
  | d :: ds, _, h => by
    cases h with
    | cons h1 h2 =>
      obtain ⟨v, r1, q1⟩ := h1
      obtain ⟨vs, r2, q2⟩ := of_each h2
      exact ⟨v :: vs, .cons r1 r2, v, vs, rfl, q1, q2⟩
theorem mapM_mem {α β : Type} {f : α → Option β} : ∀ {xs : List α} {ys : List β}, xs.mapM f = some ys → ∀ x ∈ xs, ∃ y ∈ ys, f x = some y
  | [], _, _, x, hx => nomatch hx
  | a :: xs, ys, e, x, hx => by
    simp only [List.mapM_cons, Option.bind_eq_bind, Option.bind_eq_some_iff, Option.pure_def, Option.some.injEq] at e
    obtain ⟨p, e1, ps', e2, rfl⟩ := e
    rcases List.mem_cons.mp hx with rfl | hx
    · exact ⟨p, List.mem_cons_self, e1⟩
    · obtain ⟨y, hy, e⟩ := mapM_mem e2 x hx
      exact ⟨y, List.mem_cons_of_mem _ hy, e⟩
theorem mapM_map {α β : Type} {f : α → Option β} {z : β} : ∀ {xs : List α} {ys : List β}, xs.mapM f = some ys → xs.map (fun x => (f x).getD z) = ys
  | [], ys, e => by simp at e; simp [e]
  | a :: xs, ys, e => by
    simp only [List.mapM_cons, Option.bind_eq_bind, Option.bind_eq_some_iff, Option.pure_def, Option.some.injEq] at e
    obtain ⟨p, e1, ps', e2, rfl⟩ := e
    simp [e1, mapM_map e2]
theorem each_mem' {R : Value → D → Prop} {us : List Value} {ds : List D} (h : PySem.W.EachIs R us ds) : PySem.W.EachIs (fun u d => R u d ∧ d ∈ ds) us ds := by
  induction h with
  | nil => exact .nil
  | cons h1 h2 ih => exact .cons ⟨h1, List.mem_cons_self⟩ (ih.mono fun _ _ q => ⟨q.1, List.mem_cons_of_mem _ q.2⟩)
theorem sortOk_alike {ps : List PyData} (h : sortOk ps = true) : PySem.W.AllAlike ps ∧ PySem.W.Sortable ps ∧ ∀ p ∈ ps, p.depth ≤ 60 := by
  unfold sortOk at h
  simp only [Bool.and_eq_true, Bool.or_eq_true, List.all_eq_true, decide_eq_true_eq] at h
  obtain ⟨⟨h1, h2⟩, h3⟩ := h
  refine ⟨fun d hd d' hd' => h1 d hd d' hd', ?_, h3⟩
  rcases h2 with h2 | h2
  · refine .inl fun d hd => ?_
    have q := h2 d hd
    split at q
    · exact ⟨_, _, rfl⟩
    · cases q
  · refine .inr fun d hd => ?_
    have q := h2 d hd
    split at q
    · cases q
    · cases q
    · rename_i n1 n2
      exact ⟨fun z => n1 z, fun xs z => n2 xs z⟩
theorem cr_sorted' (hu : X.A.units + 64 < cLine) : CallR X (.builtin "sorted") (rF (gOf X) (on1 bSorted)) := by
  intro pins s σ H vs us Q I rv ⟨ρ, S, ds, hR, hd, q⟩
  obtain ⟨d, v, rfl, hd, q⟩ := q.on1 hd
  unfold bSorted at q
  split at q
  · split at q
    · rename_i xs e0
      split at q
      · rename_i ps e1
        obtain ⟨hso, q⟩ := q.ite
        obtain ⟨hal, hsb, hdp⟩ := sortOk_alike hso
        obtain ⟨a, vs, rfl, _, ha, ra, hz⟩ := hR.lst e0 hd
        rw [Vals.ref1 rv]
        obtain ⟨its, r, pl, _⟩ := I.list (SqL.of ha)
        have em := mapM_map (z := PyData.none) e1
        have hE := each_of ra r
        have hE2 : PySem.W.EachIs (fun v b => ∃ as, Reads s.heap v ((pd 9 S b).getD .none) as) its xs := (each_mem' hE).mono fun u d' ⟨⟨v', rv', rp'⟩, hm⟩ => by
          obtain ⟨p, _, ep⟩ := mapM_mem e1 d' hm
          rw [ep]
          exact Dp.reads I p v' u (pd_dp hR 9 _ _ _ ep rp') rv'
        refine PySem.W.sorted_data (enc := fun d => (pd 9 S d).getD .none) pl.isList hE hE2 (by rw [em]; exact hal) (by rw [em]; exact hsb) (by rw [← ra.length]; exact hz) (fun b hb => ?_) fun out hlen ho => ?_
        · obtain ⟨p, hp, ep⟩ := mapM_mem e1 b hb
          show X.A.units + 2 + ((pd 9 S b).getD .none).depth < cLine
          rw [ep]
          have := hdp p hp
          show X.A.units + 2 + p.depth < cLine
          omega
        · obtain ⟨vs', rv', rp'⟩ := of_each ho
          obtain ⟨ep, he'⟩ := PyProof.Rows.sortedAll_at s.heap its out.toArray
          have hl' : vs'.length ≤ sizeLine := by rw [rv'.length, hlen, ← ra.length]; exact hz
          refine ⟨.ref _, upd H (s.heap.objs.size + 1) (.lst vs'), I.laid (t' := s.toks) (fun _ _ => PyProof.Rows.sortedAll_old) (Nat.le_succ _) ⟨hl', out, ep, rv', he'⟩, rfl, ?_⟩
          exact q.newL hR (I.hok.fresh (Nat.le_succ _)) rp' hl'
      · exact q.elim
    · exact q.elim
  · exact q.elim
/-! ### methods -/
def isL (d : D) (S : Store) : Bool := match d with
  | .loc l => match S[l]? with
    | some (.lst _) => true
    | _ => false
  | _ => false
def isS (d : D) (S : Store) : Bool := match d with
  | .str _ => true
  | _ => false
def eM (chk : D → Store → Bool) (f : List D → Store → R D) (o : EM) (es : EMs) : EM := fun σ S => (o σ S).bind fun x S1 => if chk x S1 = true then (es σ S1).bind fun ds S2 => f (x :: ds) S2 else .bad
def Chk (X : Cx) (T : String) (chk : D → Store → Bool) : Prop := ∀ ρ H S d v, Rel (gOf X) ρ H S → RpV X.K ρ H d v → chk d S = true → tyV X.K T v H
theorem chk_l : Chk X "list" isL := by
  intro ρ H S d v hR hd h
  unfold isL at h
  split at h
  · split at h
    · rename_i e0
      obtain ⟨a, vs, rfl, _, ha, _⟩ := hR.lst e0 hd
      exact .inl ⟨rfl, _, SqL.of ha⟩
    · cases h
  · cases h
theorem chk_s : Chk X "str" isS := by
  intro ρ H S d v hR hd h
  unfold isS at h
  split at h
  · rw [show v = _ from hd]; rfl
  · cases h
theorem me_M {T id : String} {name : Str} {f : List D → Store → R D} {chk : D → Store → Bool} {o e : Expr} {es : List Expr} {co : EM} {cs : EMs} {n : Nat} {apos cpos : Pos} (pa : PlainAttrs T) (slot : Slot T name id) (hty : typeOf (.builtin id) = pure (.type "method_descriptor"))
    (hm : MtR X id (fun x xs H Q => rF (gOf X) f (x :: xs) H Q)) (hk : Chk X T chk) (ho : ME X W o co) (ha : MA X W (e :: es) cs n)
    (hbase : attributeBase o name X.env (eval o X.env) = eval o X.env := by rfl)
    (hfew : ((backTo cpos (starEach (e :: es) X.env)).all (fun x => !x.1) && (backToKw cpos (keywordEach [] X.env)).all (fun x => x.1.isSome)
      && decide ((e :: es).length + ([] : List Keyword).length + (if ([] : List Keyword).isEmpty then 0 else 1) < 30)) = true := by rfl)
    (hline : (apos.endLine == cpos.line) = true := by rfl) (hs : starEach (e :: es) X.env = (false, eval e X.env) :: starEach es X.env := by rfl) (hplain : (backTo cpos (starEach es X.env)).any (·.1) = false := by rfl) :
    ME X W (.Call (.Attribute o name apos) (e :: es) [] cpos) (eM chk f co cs) := by
  refine PE_imp (pe_bm pa slot hty hm ho ha.pa hbase hfew hline hs hplain) fun σ H Q ⟨ρ, σd, S, hR, hE, h⟩ => ?_
  refine step hR hE h fun ρ1 H1 d S1 v x1 R1 E1 q1 _ o1 => ?_
  obtain ⟨hc, o1⟩ := o1.ite
  refine ⟨hk ρ1 H1 S1 d v R1 q1 hc, ?_⟩
  exact step R1 E1 o1 fun ρ2 H2 ds S2 vs x2 R2 E2 q2 _ o2 => ⟨ρ2, S2, d :: ds, R2, ⟨v, vs, rfl, x2.rp _ _ q1, q2⟩, o2.wt⟩
theorem me_M0 {T id : String} {name : Str} {f : List D → Store → R D} {chk : D → Store → Bool} {o : Expr} {co : EM} {apos cpos : Pos} (pa : PlainAttrs T) (slot : Slot T name id) (hty : typeOf (.builtin id) = pure (.type "method_descriptor"))
    (hm : MtR X id (fun x xs H Q => rF (gOf X) f (x :: xs) H Q)) (hk : Chk X T chk) (ho : ME X W o co)
    (hbase : attributeBase o name X.env (eval o X.env) = eval o X.env := by rfl) (hline : (apos.endLine == cpos.line) = true := by rfl) :
    ME X W (.Call (.Attribute o name apos) [] [] cpos) (eM chk f co eNil) := by
  refine PE_imp (pe_bm0 pa slot hty hm ho hbase hline) fun σ H Q ⟨ρ, σd, S, hR, hE, h⟩ => ?_
  refine step hR hE h fun ρ1 H1 d S1 v x1 R1 E1 q1 _ o1 => ?_
  obtain ⟨hc, o1⟩ := o1.ite
  exact ⟨hk ρ1 H1 S1 d v R1 q1 hc, ρ1, S1, [d], R1, ⟨v, [], rfl, q1, rfl⟩, Out.wt (show Out (gOf X) W (rpV (gOf X)) ρ1 H1 σ Q (f [d] S1) from o1)⟩
/-- a list is written -/
theorem Out.wrL {G : Gc} {ρ : List Addr} {H : Hp} {S : Store} {l : Nat} {a : Addr} {ys : List D} {vs us : List V} {d : D} {v : V} {σ : L2.St} {W : WX} {Q : V → Hp → Prop} (q : Out G W (rpV G) ρ H σ Q (.ok d (S.set l (.lst ys)))) (hR : Rel G ρ H S) (el : ρ[l]? = some a) (ha : H a = some (.lst vs))
    (r : RpVs G.K ρ H ys us) (hz : us.length ≤ sizeLine) (rd : RpV G.K ρ H d v) : Q v (upd H a (.lst us)) := by
  have hm := List.mem_of_getElem? el
  have hf : ∀ o u, H a ≠ some (.frz o u) := fun o u z => by rw [ha] at z; cases z
  exact q ρ _ v (Ext.write hm hf) (hR.write el hf ⟨us, upd_same, (Ext.write hm hf).rps _ _ r, hz⟩) ((Ext.write hm hf).rp _ _ rd)
def mAppend : List D → Store → R D
  | [.loc l, y], S => match S[l]? with
    | some (.lst xs) => if xs.length < sizeLine then .ok .non (S.set l (.lst (xs ++ [y]))) else .bad
    | _ => .bad
  | _, _ => .bad
theorem mr_append : MtR X "list.append" (fun x xs H Q => rF (gOf X) mAppend (x :: xs) H Q) := by
  intro pins s σ H x xs v us Q I rx rs ⟨ρ, S, ds, hR, hd, q⟩
  unfold mAppend at q
  split at q
  · split at q
    · rename_i l y S _ zs e0
      obtain ⟨hz, q⟩ := q.ite
      obtain ⟨x', r, e, h1, y', r', e', h2, h3⟩ := hd
      rw [show r' = [] from h3] at e'
      rw [e'] at e
      cases e
      obtain ⟨a, vs, rfl, el, ha, ra, hz'⟩ := hR.lst e0 h1
      exact mt_append pins s σ H _ _ v us Q I rx rs ⟨a, vs, y', rfl, rfl, ha, by rw [ra.length]; exact hz, q.wrL hR el ha (ra.append ⟨_, [], rfl, h2, rfl⟩) (by rw [List.length_append, ra.length]; exact hz) rfl⟩
    · exact q.elim
  · exact q.elim
def mPop : List D → Store → R D
  | [.loc l], S => match S[l]? with
    | some (.lst xs) => match xs[xs.length - 1]? with
      | some y => .ok y (S.set l (.lst xs.dropLast))
      | none => .bad
    | _ => .bad
  | _, _ => .bad
theorem mr_pop : MtR X "list.pop" (fun x xs H Q => rF (gOf X) mPop (x :: xs) H Q) := by
  intro pins s σ H x xs v us Q I rx rs ⟨ρ, S, ds, hR, hd, q⟩
  unfold mPop at q
  split at q
  · split at q
    · rename_i zs e0
      split at q
      · rename_i y ey
        obtain ⟨x', r, e, h1, h3⟩ := hd
        rw [show r = [] from h3] at e
        cases e
        obtain ⟨a, vs, rfl, el, ha, ra, hz'⟩ := hR.lst e0 h1
        obtain ⟨y', ey', ry'⟩ := ra.get ey
        rw [← ra.length] at ey'
        exact mt_pop pins s σ H _ _ v us Q I rx rs ⟨a, vs, y', rfl, rfl, ha, ey', q.wrL hR el ha ra.dropLast (by rw [List.length_dropLast]; omega) ry'⟩
      · exact q.elim
    · exact q.elim
  · exact q.elim
def mPopAt : List D → Store → R D
  | [.loc l, .int i], S => match S[l]? with
    | some (.lst xs) => if 0 ≤ i ∧ i < xs.length then match xs[i.toNat]? with
        | some y => .ok y (S.set l (.lst (xs.eraseIdx i.toNat)))
        | none => .bad
      else .bad
    | _ => .bad
  | _, _ => .bad
theorem mr_popAt : MtR X "list.pop" (fun x xs H Q => rF (gOf X) mPopAt (x :: xs) H Q) := by
  intro pins s σ H x xs v us Q I rx rs ⟨ρ, S, ds, hR, hd, q⟩
  unfold mPopAt at q
  split at q
  · rename_i _ l i
    split at q
    · rename_i zs e0
      obtain ⟨⟨h0, h1'⟩, q⟩ := q.ite
      split at q
      · rename_i y ey
        obtain ⟨x', r, e, h1, y0, r', e', h2, h3⟩ := hd
        rw [show r' = [] from h3] at e'
        rw [e'] at e
        cases e
        cases (show y0 = _ from h2)
        obtain ⟨a, vs, rfl, el, ha, ra, hz'⟩ := hR.lst e0 h1
        obtain ⟨y', ey', ry'⟩ := ra.get ey
        have hl := ra.length
        have hn := line63
        refine mt_popAt pins s σ H _ _ v us Q I rx rs ⟨a, vs, i, i.toNat, y', rfl, rfl, ha, by omega, by omega, ?_, ey', q.wrL hR el ha (ra.erase _) (Nat.le_trans (len_erase _ _) hz') ry'⟩
        exact seqIndex_of h0 (by omega)
      · exact q.elim
    · exact q.elim
  · exact q.elim
def mExtend : List D → Store → R D
  | [.loc l, .loc m], S => match S[l]?, S[m]? with
    | some (.lst xs), some (.lst ys) => if xs.length + ys.length ≤ sizeLine then .ok .non (S.set l (.lst (xs ++ ys))) else .bad
    | _, _ => .bad
  | _, _ => .bad
theorem mr_extend : MtR X "list.extend" (fun x xs H Q => rF (gOf X) mExtend (x :: xs) H Q) := by
  intro pins s σ H x xs v us Q I rx rs ⟨ρ, S, ds, hR, hd, q⟩
  unfold mExtend at q
  split at q
  · split at q
    · rename_i zs ws e0 e1
      obtain ⟨hz, q⟩ := q.ite
      obtain ⟨x', r, e, h1, y', r', e', h2, h3⟩ := hd
      rw [show r' = [] from h3] at e'
      rw [e'] at e
      cases e
      obtain ⟨a, vs, rfl, el, ha, ra, hz'⟩ := hR.lst e0 h1
      obtain ⟨b, ws', rfl, _, hb, rb, _⟩ := hR.lst e1 h2
      have hz2 : vs.length + ws'.length ≤ sizeLine := by rw [ra.length, rb.length]; exact hz
      exact mt_extend pins s σ H _ _ v us Q I rx rs ⟨a, b, vs, ws', rfl, rfl, ha, hb, hz2, q.wrL hR el ha (ra.append rb) (by rw [List.length_append]; exact hz2) rfl⟩
    · exact q.elim
  · exact q.elim
/-! ### defs -/
/-- what a def of the machine promises -/
def spF (G : Gc) (n : Nat) (g : Fn) : Sp := fun vs H Q E => vs.length = n ∧ ∃ ρ S ds, Rel G ρ H S ∧ RpVs G.K ρ H ds vs ∧ Out G (fun u dx _ H' => E u dx H') (rpV G) ρ H [] Q (g ds S)
structure CallOk (P : Program) (w : World) (K : PySem.W.Frag) (mg : Str → Option Value) (base : Heap) (k : Nat) (x : Str) (n : Nat) (g : Fn) : Prop where
  ex : ∃ f fd ps, mg x = some (.ref f) ∧ PySem.W.keepIn K (.ref f) = true ∧ ps.length = n ∧ Binds K fd ps [] ∧ FnOk P w K mg base (L2.CX P w) k f fd ps (spF ⟨P, w, K, mg⟩ n g)
theorem me_call {k n m : Nat} {x : Str} {g : Fn} {e : Expr} {es : List Expr} {cs : EMs} {p pos : Pos} (F : CallOk X.prog X.w X.K X.mg X.base k x n g) (hr : Room k X.A) (tk : Takes X W) (hg : Gl X x) (ha : MA X W (e :: es) cs m) (hn : m = n := by rfl)
    (hdb : (x == ("__debug__" : Str)) = false := by decide) (he : starEach (e :: es) X.env = (false, eval e X.env) :: starEach es X.env := by rfl) (hpl : (backTo pos (starEach es X.env)).any (·.1) = false := by rfl) :
    ME X W (.Call (.Name x p) (e :: es) [] pos) (eF g cs) := by
  obtain ⟨f, fd, ps, hm, hk, hl, hb, F⟩ := F.ex
  refine PE_imp (pe_callSD (E := fun σ u dx H => W u dx σ H) F hr hg hm hk hb .nil (fun σ => passAt tk σ) ha.pa hdb he hpl) fun σ H Q ⟨ρ, σd, S, hR, hE, h⟩ => ?_
  refine step hR hE h fun ρ1 H1 ds S1 vs x1 R1 E1 q1 e1 o1 => ?_
  rw [List.append_nil]
  refine ⟨by rw [q1.length, ha.len _ _ _ _ e1]; exact hn, ρ1, S1, ds, R1, q1, ?_⟩
  cases er : g ds S1 with
  | ok a S2 => rw [er] at o1; exact o1
  | exc a S2 => rw [er] at o1; exact o1
  | bad => rw [er] at o1; exact o1.elim
/-! ### statements -/
theorem ms_nil : MSs X W [] sNil := PSs_imp pss_nil fun D σ H ⟨ρ, σd, S, hR, hE, h⟩ => h ρ H σ Ext.refl hR hE
theorem ms_cons {st : Stmt} {rest : List Stmt} {a b : SM} (h1 : MS X W st a) (h2 : MSs X W rest b) : MSs X W (st :: rest) (sSeq a b) := by
  refine PSs_imp (pss_cons h1 h2) fun D σ H ⟨ρ, σd, S, hR, hE, h⟩ => ?_
  refine ⟨ρ, σd, S, hR, hE, ?_⟩
  unfold sSeq at h
  cases e : a σd S with
  | nx σ1 S1 =>
    rw [e] at h
    exact fun ρ' H' σ' x r q => ⟨ρ', σ1, S1, r, q, OutS.carry (show OutS (gOf X) W ρ H D (b σ1 S1) from h) x⟩
  | rt v S1 => rw [e] at h; exact h
  | exc x s1 S1 => rw [e] at h; exact h
  | bad => rw [e] at h; exact h
theorem ms_one {st : Stmt} {a : SM} (h : MS X W st a) : MSs X W [st] a := pss_one h
theorem ms_never {st : Stmt} : MS X W st sNever := PS_imp ps_never fun D σ H ⟨ρ, σd, S, hR, hE, h⟩ => h
theorem ms_pass {pos : Pos} : MS X W (.Pass pos) sNil := PS_imp ps_pass fun D σ H ⟨ρ, σd, S, hR, hE, h⟩ => h ρ H σ Ext.refl hR hE
theorem OutS.nx_here {G : Gc} {ρ : List Addr} {H : Hp} {E : Ends} {σd : Env} {S : Store} {σ : L2.St} (h : OutS G W ρ H E (.nx σd S)) (hR : Rel G ρ H S) (hE : REnv G ρ H σd σ) : E.nx σ H := h ρ H σ Ext.refl hR hE
theorem OutS.rt_here {G : Gc} {ρ : List Addr} {H : Hp} {E : Ends} {d : D} {v : V} {S : Store} (h : OutS G W ρ H E (.rt d S)) (hR : Rel G ρ H S) (r : RpV G.K ρ H d v) : E.rt v H := h ρ H v Ext.refl hR r
theorem ms_expr {e : Expr} {c : EM} {pos : Pos} (h : ME X W e c) (hs : swapsWith e none pos.line X.env = pure false := by rfl) : MS X W (.Expr e pos) (sExpr c) := by
  refine PS_imp (ps_expr h hs) fun D σ H ⟨ρ, σd, S, hR, hE, h⟩ => ?_
  exact stepS hR hE h fun ρ1 H1 d S1 v x1 R1 E1 q1 _ o1 => o1.nx_here R1 E1
theorem ms_ret {e : Expr} {c : EM} {pos : Pos} (h : ME X W e c) : MS X W (.Return (some e) pos) (sRet c) := by
  refine PS_imp (ps_ret h) fun D σ H ⟨ρ, σd, S, hR, hE, h⟩ => ?_
  exact stepS hR hE h fun ρ1 H1 d S1 v x1 R1 E1 q1 _ o1 => o1.rt_here R1 q1
/-- a target -/
def Agree (own : List Nat) (σ σ' : L2.St) : Prop := σ'.length = σ.length ∧ ∀ i, i ∉ own → σ'[i]? = σ[i]?
def tTg (G : Gc) (own : List Nat) (t : TgM) : TG := fun v σ H Q => ∃ ρ S d σd, Rel G ρ H S ∧ REnv G ρ H σd σ ∧ RpV G.K ρ H d v ∧ ∃ σd', t d σd = some σd' ∧ ∀ σ', REnv G ρ H σd' σ' → Agree own σ σ' → Q σ' H
def tTgs (G : Gc) (own : List Nat) (t : List D → Env → Option Env) : TGs := fun vs σ H Q => ∃ ρ S ds σd, Rel G ρ H S ∧ REnv G ρ H σd σ ∧ RpVs G.K ρ H ds vs ∧ ∃ σd', t ds σd = some σd' ∧ ∀ σ', REnv G ρ H σd' σ' → Agree own σ σ' → Q σ' H
def MG (X : Cx) (own : List Nat) (tg : Expr) (t : TgM) : Prop := PG X tg (tTg (gOf X) own t)
def MGs (X : Cx) (own : List Nat) (tg : List Expr) (t : List D → Env → Option Env) : Prop := PGs X tg (tTgs (gOf X) own t)
theorem Agree.refl {own : List Nat} {σ : L2.St} : Agree own σ σ := ⟨rfl, fun _ _ => rfl⟩
theorem Agree.trans {own : List Nat} {σ σ1 σ2 : L2.St} (a : Agree own σ σ1) (b : Agree own σ1 σ2) : Agree own σ σ2 := ⟨b.1.trans a.1, fun i h => (b.2 i h).trans (a.2 i h)⟩
theorem PGs_imp {e : List Expr} {t t' : TGs} (h : PGs X e t) (f : ∀ v σ H Q, t' v σ H Q → t v σ H Q) : PGs X e t' := ⟨fun pins s σ H v u Q I r q => h.run pins s σ H v u Q I r (f _ _ _ _ q)⟩
theorem mg_n {own : List Nat} {i : Nat} {x : Str} {pos : Pos} (hN : X.N.Nodup) (hi : X.N[i]? = some x) (hx : Loc X.env.scope x) (ho : i ∈ own := by decide) (hf : X.fn x = true ∨ X.env.scope.names.lookup x = some .local := by first | exact .inl rfl | exact .inr rfl | assumption) : MG X own (.Name x pos) (tgN i) :=
  PG_imp (pg_name hN hi hx hf) fun v σ H Q ⟨ρ, S, d, σd, hR, hE, hd, σd', e, k⟩ => by
    cases e
    exact k _ (hE.set hd) ⟨List.length_set, fun j hj => List.getElem?_set_ne fun z => hj (by rw [← z]; exact ho)⟩
theorem mg_nil {own : List Nat} : MGs X own [] tgNil := PGs_imp pgs_nil fun vs σ H Q ⟨ρ, S, ds, σd, hR, hE, hd, σd', e, k⟩ => by
  unfold tgNil at e
  split at e
  · cases e
    exact ⟨hd, k _ hE Agree.refl⟩
  · cases e
theorem mg_cons {own : List Nat} {e : Expr} {es : List Expr} {t : TgM} {ts : List D → Env → Option Env} (h1 : MG X own e t) (h2 : MGs X own es ts) (hs : (assignEach (e :: es) X.env).map (·.2) = assign e X.env :: (assignEach es X.env).map (·.2) := by rfl) : MGs X own (e :: es) (tgCons t ts) := by
  refine PGs_imp (pgs_cons h1 h2 hs) fun vs σ H Q ⟨ρ, S, ds, σd, hR, hE, hd, σd', e, k⟩ => ?_
  unfold tgCons at e
  split at e
  · split at e
    · rename_i e1
      obtain ⟨v, r, rfl, h1, h2⟩ := hd
      exact ⟨v, r, rfl, ρ, S, _, σd, hR, hE, h1, _, e1, fun σ' E' A => ⟨ρ, S, _, _, hR, E', h2, σd', e, fun σ2 E2 A2 => k σ2 E2 (A.trans A2)⟩⟩
    · cases e
  · cases e
/-- how many a written tuple of targets takes -/
def TLen (t : List D → Env → Option Env) (n : Nat) : Prop := ∀ ds σ σ', t ds σ = some σ' → ds.length = n
theorem tl_nil : TLen tgNil 0 := fun ds σ σ' e => by
  unfold tgNil at e
  split at e
  · rfl
  · cases e
theorem tl_cons {t : TgM} {ts : List D → Env → Option Env} {n : Nat} (h : TLen ts n) : TLen (tgCons t ts) (n + 1) := fun ds σ σ' e => by
  unfold tgCons at e
  split at e
  · split at e
    · rw [List.length_cons, h _ _ _ e]
    · cases e
  · cases e
theorem mg_t {own : List Nat} {es : List Expr} {k n : Nat} {ts : List D → Env → Option Env} {pos : Pos} (hc : X.calm = true) (h : MGs X own es ts) (hl : TLen ts n) (hn : (assignEach es X.env).length = n := by rfl) (hst : (assignEach es X.env).findIdx? (·.1) = none := by rfl) : MG X own (.Tuple es k pos) (tgT ts) := by
  refine PG_imp (pg_tup hc h hn hst) fun v σ H Q ⟨ρ, S, d, σd, hR, hE, hd, σd', e, q⟩ => ?_
  unfold tgT at e
  split at e
  · obtain ⟨a, vs, rfl, ta, hz, ra⟩ := hd
    exact ⟨a, vs, rfl, ta.sq, by rw [ra.length]; exact hl _ _ _ e, ρ, S, _, σd, hR, hE, ra, σd', e, q⟩
  · cases e
theorem ms_asg {own : List Nat} {tg e : Expr} {c : EM} {t : TgM} {pos : Pos} (he : ME X W e c) (hg : MG X own tg t) (hs : swapsWithSole [tg] e pos.line X.env = pure false := by rfl) (hw : swappedStores [tg] e X.env = pure none := by rfl)
    (h1 : (assignEach [tg] X.env).map (·.2) = [assign tg X.env] := by rfl) : MS X W (.Assign [tg] e pos) (sSet t c) := by
  refine PS_imp (ps_asg he hg hs hw h1) fun D σ H ⟨ρ, σd, S, hR, hE, h⟩ => ?_
  refine stepS hR hE h fun ρ1 H1 d S1 v x1 R1 E1 q1 _ o1 => ?_
  split at o1
  · rename_i σ1 e1
    exact ⟨ρ1, S1, d, σd, R1, E1, q1, σ1, e1, fun σ' E' _ => o1.nx_here R1 E'⟩
  · exact o1.elim
theorem ms_set {i : Nat} {x : Str} {e : Expr} {c : EM} {pos pos' : Pos} (hN : X.N.Nodup) (hi : X.N[i]? = some x) (hx : Loc X.env.scope x) (he : ME X W e c) (hs : swapsWith e (some (.Name x pos')) pos.line X.env = pure false := by rfl) (hf : X.fn x = true ∨ X.env.scope.names.lookup x = some .local := by first | exact .inl rfl | exact .inr rfl | assumption) :
    MS X W (.Assign [.Name x pos'] e pos) (sSet (tgN i) c) := by
  refine PS_imp (ps_set hN hi hx he hs hf) fun D σ H ⟨ρ, σd, S, hR, hE, h⟩ => ?_
  exact stepS hR hE h fun ρ1 H1 d S1 v x1 R1 E1 q1 _ o1 => OutS.nx_here (show OutS (gOf X) W ρ1 H1 D (.nx (σd.set i (some d)) S1) from o1) R1 (E1.set q1)
theorem ms_put {o i e : Expr} {co ci ce : EM} {pos tpos : Pos} (hu : X.A.units + 64 < cLine) (ho : ME X W o co) (hi : ME X W i ci) (he : ME X W e ce)
    (ha : ∀ v, assign (.Subscript o i tpos) X.env v = (do
      let ov ← holding [v] (eval o X.env)
      let iv ← holding [v, ov] (eval i X.env)
      standAt tpos
      holding [v, ov, iv] (setItem ov iv v)
      release [v, ov, iv] []) := by intro _; rfl)
    (hs : swapsWithSole [.Subscript o i tpos] e pos.line X.env = pure false := by rfl) (hw : swappedStores [.Subscript o i tpos] e X.env = pure none := by rfl)
    (h1 : (assignEach [.Subscript o i tpos] X.env).map (·.2) = [assign (.Subscript o i tpos) X.env] := by rfl) : MS X W (.Assign [.Subscript o i tpos] e pos) (sPut co ci ce) := by
  refine PS_imp (ps_asg he (pg_sub ho hi (st_all hu) ha) hs hw h1) fun D σ H ⟨ρ, σd, S, hR, hE, h⟩ => ?_
  refine stepS hR hE h fun ρ1 H1 d S1 v x1 R1 E1 q1 _ o1 => ?_
  refine stepS R1 E1 o1 fun ρ2 H2 d2 S2 v2 x2 R2 E2 q2 _ o2 => ?_
  refine stepS R2 E2 o2 fun ρ3 H3 d3 S3 v3 x3 R3 E3 q3 _ o3 => ?_
  split at o3
  · rename_i S4 e4
    exact ⟨ρ3, S3, d2, d3, d, S4, R3, x3.rp _ _ q2, q3, (x2.trans x3).rp _ _ q1, e4, fun ρ' H' x r => o3 ρ' H' σ x r (E3.ext x)⟩
  · exact o3.elim
/-- op=, by values -/
theorem ip_of {op : Operator} {f : D → D → Store → R D} {r : L2.R2} (h : OpR X (inplaceOp op) r) (k : ∀ x y H Q, r2 (gOf X) f x y H Q → r x y H Q) : PIp X op (r2 (gOf X) f) := fun pins s σ H x y v u Q I r1 r2 h' => h pins s σ H x y v u Q I r1 r2 (k _ _ _ _ h')
def iAdd : D → D → Store → R D
  | .int i, .int j, S => .ok (.int (i + j)) S
  | _, _, _ => .bad
theorem ip_add' : PIp X .Add (r2 (gOf X) iAdd) := ip_of iop_add fun x y H Q ⟨ρ, S, d, e, hR, hd, he, q⟩ => by
  unfold iAdd at q
  split at q
  · exact ⟨_, _, hd, he, q.here hR rfl⟩
  · exact q.elim
theorem ip_sub' : PIp X .Sub (r2 (gOf X) oSub) := ip_of iop_sub fun x y H Q ⟨ρ, S, d, e, hR, hd, he, q⟩ => by
  unfold oSub at q
  split at q
  · exact ⟨_, _, hd, he, q.here hR rfl⟩
  · exact q.elim
theorem ms_aug {i : Nat} {x : Str} {e : Expr} {op : Operator} {f : D → D → Store → R D} {c : EM} {pos pos' : Pos} (hN : X.N.Nodup) (hi : X.N[i]? = some x) (hx : Loc X.env.scope x) (he : ME X W e c) (ho : PIp X op (r2 (gOf X) f)) (hf : X.fn x = true ∨ X.env.scope.names.lookup x = some .local := by first | exact .inl rfl | exact .inr rfl | assumption) :
    MS X W (.AugAssign (.Name x pos') op e pos) (sAug i f c) := by
  refine PS_imp (ps_aug hN hi hx he ho hf) fun D σ H ⟨ρ, σd, S, hR, hE, h⟩ => ?_
  unfold sAug at h
  split at h
  · rename_i d ed
    obtain ⟨v, ev, rv⟩ := hE.at_ i d ed
    refine ⟨v, ev, ?_⟩
    refine stepS hR hE h fun ρ1 H1 d1 S1 v1 x1 R1 E1 q1 _ o1 => ?_
    refine ⟨ρ1, S1, d, d1, R1, x1.rp _ _ rv, q1, ?_⟩
    cases er : f d d1 S1 with
    | ok z S2 =>
      rw [er] at o1
      exact fun ρ' H' b x r q => (show OutS (gOf X) W ρ1 H1 D (.nx (σd.set i (some z)) S2) from o1) ρ' H' _ x r ((E1.ext x).set q)
    | exc a S2 => exact fun _ _ _ _ _ _ _ => True.intro
    | bad => rw [er] at o1; exact o1
  · exact h.elim
theorem ms_augS {o i e : Expr} {op : Operator} {f : D → D → Store → R D} {co ci ce : EM} {pos tpos : Pos} (hu : X.A.units + 64 < cLine) (ho : ME X W o co) (hi : ME X W i ci) (he : ME X W e ce) (hp : PIp X op (r2 (gOf X) f))
    (ha : ∀ ov iv new, augStore i ov iv new = (do holding [new, ov, iv] (setItem ov iv new); release [new, ov, iv] []; pure .next) := by intros; rfl) : MS X W (.AugAssign (.Subscript o i tpos) op e pos) (sAugS co ci f ce) := by
  refine PS_imp (ps_augS ho hi (gt_all hu) he hp (st_all hu) ha) fun D σ H ⟨ρ, σd, S, hR, hE, h⟩ => ?_
  refine stepS hR hE h fun ρ1 H1 d1 S1 v1 x1 R1 E1 q1 _ o1 => ?_
  refine stepS R1 E1 o1 fun ρ2 H2 d2 S2 v2 x2 R2 E2 q2 _ o2 => ?_
  refine ⟨ρ2, S2, d1, d2, R2, x2.rp _ _ q1, q2, ?_⟩
  cases er : oIx d1 d2 S2 with
  | ok d3 S3 =>
    rw [er] at o2
    refine fun ρ3 H3 v3 x3 R3 q3 => ?_
    have o3 : OutS (gOf X) W ρ2 H2 D (bindS (ce σd S3) σd fun v S4 => bindS (f d3 v S4) σd fun z S5 => match oPut d1 d2 z S5 with
      | some S6 => .nx σd S6
      | none => .bad) := o2
    replace o3 := OutS.carry o3 x3
    refine stepS R3 (E2.ext x3) o3 fun ρ4 H4 d4 S4 v4 x4 R4 E4 q4 _ o4 => ?_
    refine ⟨ρ4, S4, d3, d4, R4, x4.rp _ _ q3, q4, ?_⟩
    cases er : f d3 d4 S4 with
    | ok d5 S5 =>
      rw [er] at o4
      refine fun ρ5 H5 v5 x5 R5 q5 => ?_
      have o5 : OutS (gOf X) W ρ4 H4 D (match oPut d1 d2 d5 S5 with
        | some S6 => .nx σd S6
        | none => .bad) := o4
      split at o5
      · rename_i S6 e6
        exact ⟨ρ5, S5, d1, d2, d5, S6, R5, (x2.trans (x3.trans (x4.trans x5))).rp _ _ q1, (x3.trans (x4.trans x5)).rp _ _ q2, q5, e6, fun ρ' H' x r => o5 ρ' H' σ (x5.trans x) r ((E4.ext x5).ext x)⟩
      · exact o5.elim
    | exc a S2 => exact fun _ _ _ _ _ _ _ => True.intro
    | bad => rw [er] at o4; exact o4
  | exc a S2 => exact fun _ _ _ _ _ _ _ => True.intro
  | bad => rw [er] at o2; exact o2
theorem ms_if {c : Expr} {a b : List Stmt} {cc : EM} {ca cb : SM} {pos : Pos} (hc : MT X W c cc) (ha : MSs X W a ca) (hb : MSs X W b cb) : MS X W (.If c a b pos) (sIf cc ca cb) := by
  refine PS_imp (ps_if hc ha hb) fun D σ H ⟨ρ, σd, S, hR, hE, h⟩ => ?_
  have e : sIf cc ca cb σd S = bindS (cB cc σd S) σd fun k S1 => match k with
    | true => ca σd S1
    | false => cb σd S1 := by
    unfold sIf cB bindS
    cases cc σd S with
    | ok d S1 =>
      cases d with
      | bl b => cases b <;> rfl
      | _ => rfl
    | exc _ _ => rfl
    | bad => rfl
  rw [e] at h
  refine stepS hR hE h fun ρ1 H1 k S1 v x1 R1 E1 q1 _ o1 => ?_
  cases q1
  cases k with
  | true => rw [if_pos rfl]; exact ⟨ρ1, σd, S1, R1, E1, o1⟩
  | false => rw [if_neg Bool.false_ne_true]; exact ⟨ρ1, σd, S1, R1, E1, o1⟩
theorem ms_while {c : Expr} {body : List Stmt} {cc : EM} {cb : SM} {N : Nat} {pos : Pos} (hp : PassesOwn (model X.prog X.w) X.A X.env X.xe) (hc : MT X W c cc) (hb : MSs X W body cb) : MS X W (.While c body [] pos) (sWh N cc cb) := by
  refine PS_imp (ps_while hp hc hb) fun D σ H ⟨ρ, σd, S, hR, hE, h⟩ => ?_
  refine ⟨fun m σ H => ∃ ρ σd S, Rel (gOf X) ρ H S ∧ REnv (gOf X) ρ H σd σ ∧ OutS (gOf X) W ρ H D (whL cc cb m σd S), ⟨N, ρ, σd, S, hR, hE, h⟩, ?_⟩
  rintro m σ H ⟨ρ, σd, S, hR, hE, h⟩
  cases m with
  | zero => exact h.elim
  | succ m =>
    have e : whL cc cb (m + 1) σd S = bindS (cB cc σd S) σd fun k S1 => match k with
      | true => match cb σd S1 with
        | .nx σ2 S2 => whL cc cb m σ2 S2
        | r => r
      | false => .nx σd S1 := by
      rw [whL]
      unfold cB bindS
      cases cc σd S with
      | ok d S1 =>
        cases d with
        | bl b => cases b <;> rfl
        | _ => rfl
      | exc _ _ => rfl
      | bad => rfl
    rw [e] at h
    refine stepS hR hE h fun ρ1 H1 k S1 v x1 R1 E1 q1 _ o1 => ?_
    cases q1
    cases k with
    | true =>
      rw [if_pos rfl]
      refine ⟨fun σ' H' => ∃ ρ σd S, Rel (gOf X) ρ H' S ∧ REnv (gOf X) ρ H' σd σ' ∧ OutS (gOf X) W ρ H' D (whL cc cb m σd S), fun σ' H' q => ⟨m, Nat.lt_succ_self _, q⟩, ρ1, σd, S1, R1, E1, ?_⟩
      have o1 : OutS (gOf X) W ρ1 H1 D (match cb σd S1 with
        | .nx σ2 S2 => whL cc cb m σ2 S2
        | r => r) := o1
      cases er : cb σd S1 with
      | nx σ2 S2 => rw [er] at o1; exact fun ρ' H' σ' x r q => ⟨ρ', σ2, S2, r, q, OutS.carry o1 x⟩
      | rt v S2 => rw [er] at o1; exact o1
      | exc x s S2 => rw [er] at o1; exact o1
      | bad => rw [er] at o1; exact o1
    | false => rw [if_neg Bool.false_ne_true]; exact OutS.nx_here (show OutS (gOf X) W ρ1 H1 D (.nx σd S1) from o1) R1 E1
end
end Mn
set_option maxHeartbeats 4000000
/-! What is walked; for; list comprehensions. -/
namespace Mn
open PySem PySem.Spec PyProof.Rows L2
/-- the model's iterator yields these items while the guarded places stand -/
structure JR (G : Gc) (ρ : List Addr) (H : Hp) (it : It) (J : L2.It) : Prop where
  len : it.its.length ≤ sizeLine
  go : ∀ i d ρ1 S1 H1, it.its[i]? = some d → Ext ρ H ρ1 H1 → Rel G ρ1 H1 S1 → It.ok it.g S1 → J.go i H1 ∧ ∀ x H2, J.yld i H1 x H2 → Ext ρ1 H1 ρ1 H2 ∧ Rel G ρ1 H2 S1 ∧ RpV G.K ρ1 H2 d x
  stop : ∀ i ρ1 S1 H1, it.its.length ≤ i → Ext ρ H ρ1 H1 → Rel G ρ1 H1 S1 → It.ok it.g S1 → J.stop i H1
abbrev rpI (G : Gc) : List Addr → Hp → It → L2.It → Prop := fun ρ H it J => JR G ρ H it J
abbrev MI (X : Cx) (W : WX) (tg e : Expr) (src : IM) : Prop := PI X tg e (tG (gOf X) W (rpI (gOf X)) src)
theorem PI_or {X : Cx} {tg e : Expr} {t t' : TI} (h : PI X tg e t) (h' : PI X tg e t') : PI X tg e (fun σ H R => t σ H R ∨ t' σ H R) := ⟨fun pins s σ H Q I q => q.elim (h.run pins s σ H Q I) (h'.run pins s σ H Q I)⟩
/-- a part that ends well -/
theorem run_ok {α β : Type} {G : Gc} {W : WX} {ρ : List Addr} {H : Hp} {S S1 : Store} {σd : Env} {σ : L2.St} {rp : List Addr → Hp → α → β → Prop} {c : Env → Store → R α} {a : α} {Q : β → Hp → Prop} (hR : Rel G ρ H S) (hE : REnv G ρ H σd σ) (e : c σd S = .ok a S1)
    (k : ∀ ρ1 H1 b, Ext ρ H ρ1 H1 → Rel G ρ1 H1 S1 → rp ρ1 H1 a b → Q b H1) : tG G W rp c σ H Q := ⟨ρ, σd, S, hR, hE, by rw [e]; exact k⟩
theorem REnv.wipe {G : Gc} {ρ : List Addr} {H : Hp} {σd : Env} {σ : L2.St} (h : REnv G ρ H σd σ) : ∀ vs : List Nat, REnv G ρ H (wipeD σd vs) (L2.wipe σ vs)
  | [] => h
  | v :: vs => by
    have ih := REnv.wipe h vs
    refine ⟨by unfold wipeD L2.wipe; rw [List.length_set, List.length_set]; exact ih.len, fun i d e => ?_⟩
    unfold wipeD at e
    unfold L2.wipe
    by_cases hi : v = i
    · subst hi
      by_cases hv : v < (wipeD σd vs).length
      · rw [List.getElem?_set_self hv] at e; cases e
      · rw [List.getElem?_eq_none (by simpa using hv)] at e; cases e
    · rw [List.getElem?_set_ne hi] at e ⊢
      exact ih.at_ i d e
theorem wipe_get {σ : L2.St} {i : Nat} : ∀ {vs : List Nat}, (L2.wipe σ vs)[i]? = if i ∈ vs ∧ i < σ.length then some none else σ[i]?
  | [] => by simp [L2.wipe]
  | v :: vs => by
    unfold L2.wipe
    by_cases hi : v = i
    · subst hi
      by_cases hv : v < σ.length
      · rw [List.getElem?_set_self (by rw [wipe_length]; exact hv), if_pos ⟨List.mem_cons_self, hv⟩]
      · rw [List.getElem?_eq_none (by rw [List.length_set, wipe_length]; omega), if_neg (fun q => hv q.2), List.getElem?_eq_none (by omega)]
    · rw [List.getElem?_set_ne hi, wipe_get]
      have e : (i ∈ vs) ↔ i ∈ v :: vs := ⟨fun q => List.mem_cons_of_mem _ q, fun q => (List.mem_cons.mp q).resolve_left fun z => hi z.symm⟩
      by_cases hm : i ∈ vs ∧ i < σ.length
      · rw [if_pos hm, if_pos ⟨e.mp hm.1, hm.2⟩]
      · rw [if_neg hm, if_neg fun q => hm ⟨e.mpr q.1, q.2⟩]
theorem wipe_agree {own : List Nat} {σ σ2 : L2.St} (a : Agree own (L2.wipe σ own) σ2) : L2.wipe σ2 own = L2.wipe σ own := by
  refine List.ext_getElem? fun i => ?_
  have hl : σ2.length = σ.length := by rw [a.1, wipe_length]
  rw [wipe_get, wipe_get, hl]
  by_cases hm : i ∈ own ∧ i < σ.length
  · rw [if_pos hm, if_pos hm]
  · rw [if_neg hm, if_neg hm]
    by_cases ho : i ∈ own
    · have : ¬ i < σ.length := fun q => hm ⟨ho, q⟩
      rw [List.getElem?_eq_none (by omega), List.getElem?_eq_none (by omega)]
    · rw [a.2 i ho, wipe_get, if_neg fun q => ho q.1]
section
variable {X : Cx} {W : WX}
/-! ### for -/
theorem drop_cases {α : Type} (xs : List α) (i : Nat) : (xs.drop i = [] ∧ xs.length ≤ i) ∨ ∃ d, xs[i]? = some d ∧ xs.drop i = d :: xs.drop (i + 1) := by
  by_cases h : i < xs.length
  · exact .inr ⟨xs[i], List.getElem?_eq_getElem h, List.drop_eq_getElem_cons h⟩
  · exact .inl ⟨List.drop_eq_nil_of_le (by omega), by omega⟩
/-- the turns of a loop over an iterator that yields the items -/
theorem for_turns {G : Gc} {ρ1 : List Addr} {H1 : Hp} {S1 : Store} {σd : Env} {σ : L2.St} {it : It} {J : L2.It} {t : TgM} {own : List Nat} {body : SM} {D : Ends} (jr : JR G ρ1 H1 it J) (R1 : Rel G ρ1 H1 S1) (E1 : REnv G ρ1 H1 σd σ)
    (o1 : OutS G W ρ1 H1 D (forL it.g t body it.its σd S1)) :
    ∃ W' : Nat → Nat → L2.St → Hp → Prop, (∃ m, W' 0 m σ H1) ∧ ∀ i m σ H, W' i m σ H →
      (J.stop i H ∧ D.nx σ H) ∨ (J.go i H ∧ ∃ N : L2.St → Hp → Prop, (∀ σ' H', N σ' H' → ∃ m', m' < m ∧ W' (i + 1) m' σ' H') ∧ ∀ x H', J.yld i H x H' → tTg G own t x σ H' fun σ2 H2 => tS G W body { D with nx := N, ct := N, bk := D.nx } σ2 H2) := by
  refine ⟨fun i m σ' H' => m + i = it.its.length ∧ ∃ ρ' σd' S', Ext ρ1 H1 ρ' H' ∧ Rel G ρ' H' S' ∧ REnv G ρ' H' σd' σ' ∧ OutS G W ρ' H' D (forL it.g t body (it.its.drop i) σd' S'), ⟨it.its.length, rfl, ρ1, σd, S1, Ext.refl, R1, E1, o1⟩, ?_⟩
  rintro i m σ2 H2 ⟨hm, ρ2, σd2, S2, x2, R2, E2, o2⟩
  rcases drop_cases it.its i with ⟨e, hi⟩ | ⟨d, hd, e⟩
  · rw [e] at o2
    unfold forL at o2
    by_cases hg : It.ok it.g S2
    · rw [if_pos hg] at o2
      exact .inl ⟨jr.stop i ρ2 S2 H2 hi x2 R2 hg, o2.nx_here R2 E2⟩
    · rw [if_neg hg] at o2
      exact o2.elim
  · rw [e] at o2
    unfold forL at o2
    by_cases hg : It.ok it.g S2
    · rw [if_pos hg] at o2
      obtain ⟨go, yl⟩ := jr.go i d ρ2 S2 H2 hd x2 R2 hg
      have hlt := (List.getElem?_eq_some_iff.mp hd).1
      refine .inr ⟨go, fun σ' H' => ∃ ρ' σd' S', Ext ρ1 H1 ρ' H' ∧ Rel G ρ' H' S' ∧ REnv G ρ' H' σd' σ' ∧ OutS G W ρ' H' D (forL it.g t body (it.its.drop (i + 1)) σd' S'), fun σ' H' q => ⟨m - 1, by omega, by omega, q⟩, fun x H' y => ?_⟩
      obtain ⟨x3, R3, q3⟩ := yl x H' y
      split at o2
      · rename_i σ1 e1
        refine ⟨ρ2, S2, d, σd2, R3, E2.ext x3, q3, σ1, e1, fun σ' E' _ => ⟨ρ2, σ1, S2, R3, E', ?_⟩⟩
        replace o2 := OutS.carry o2 x3
        cases er : body σ1 S2 with
        | nx σ3 S3 =>
          rw [er] at o2
          exact fun ρ' H4 σ4 x4 r4 E4 => ⟨ρ', σ3, S3, (x2.trans x3).trans x4, r4, E4, OutS.carry (show OutS G W ρ2 H' D (forL it.g t body (it.its.drop (i + 1)) σ3 S3) from o2) x4⟩
        | rt v S3 => rw [er] at o2; exact o2
        | exc x s S3 => rw [er] at o2; exact o2
        | bad => rw [er] at o2; exact o2
      · exact o2.elim
    · rw [if_neg hg] at o2
      exact o2.elim
theorem ms_for {own : List Nat} {tg iter : Expr} {body : List Stmt} {src : IM} {t : TgM} {cb : SM} {pos : Pos} (hp : PassesOwn (model X.prog X.w) X.A X.env X.xe) (hc : X.calm = true) (hi : MI X W tg iter src) (hg : MG X own tg t) (hb : MSs X W body cb)
    (hs : ∀ x, foldedSetIterable iter X.env x = pure x := by intro _; rfl) : MS X W (.For tg iter body [] pos) (sFor src t cb) := by
  refine PS_imp (ps_for hp hc hi hg hb hs) fun D σ H ⟨ρ, σd, S, hR, hE, h⟩ => ?_
  exact stepS hR hE h fun ρ1 H1 it S1 J x1 R1 E1 jr _ o1 => for_turns jr R1 E1 o1
/-! ### list comprehensions -/
def WN : WX := fun _ _ _ _ => False
theorem noX_bind {α β : Type} {G : Gc} {W : WX} {ρ : List Addr} {H : Hp} {σ : L2.St} {rp : List Addr → Hp → α → β → Prop} {Q : β → Hp → Prop} {γ : Type} {r : R γ} {f : γ → Store → R α} (h : Out G W rp ρ H σ Q (noX (r.bind f))) : ∃ a S1, r = .ok a S1 ∧ Out G W rp ρ H σ Q (noX (f a S1)) := by
  cases r with
  | ok a S1 => exact ⟨a, S1, rfl, h⟩
  | exc _ _ => exact h.elim
  | bad => exact h.elim
/-- a turn of the machine's comprehension, by its parts -/
theorem lcL_cons {g : List (Nat × Ob)} {tg : TgM} {cond elt : EM} {σ : Env} {d : D} {ds ys : List D} {S S' : Store} (h : lcL g tg cond elt σ (d :: ds) S = .ok ys S') :
    It.ok g S ∧ ∃ σ1 b S1, tg d σ = some σ1 ∧ cond σ1 S = .ok (.bl b) S1 ∧ ((b = true ∧ ∃ y S2 zs, elt σ1 S1 = .ok y S2 ∧ lcL g tg cond elt σ ds S2 = .ok zs S' ∧ ys = y :: zs) ∨ (b = false ∧ lcL g tg cond elt σ ds S1 = .ok ys S')) := by
  unfold lcL at h
  split at h
  · rename_i hg
    refine ⟨hg, ?_⟩
    split at h
    · rename_i σ1 e1
      split at h
      · rename_i S1 e2
        refine ⟨σ1, true, S1, e1, e2, .inl ⟨rfl, ?_⟩⟩
        cases e3 : elt σ1 S1 with
        | ok y S2 =>
          rw [e3] at h
          have h : (lcL g tg cond elt σ ds S2).bind (fun ys S3 => .ok (y :: ys) S3) = .ok ys S' := h
          cases e4 : lcL g tg cond elt σ ds S2 with
          | ok zs S3 =>
            rw [e4] at h
            cases h
            exact ⟨y, S2, zs, rfl, e4, rfl⟩
          | exc _ _ => rw [e4] at h; cases h
          | bad => rw [e4] at h; cases h
        | exc _ _ => rw [e3] at h; cases h
        | bad => rw [e3] at h; cases h
      · rename_i S1 e2
        exact ⟨σ1, false, S1, e1, e2, .inr ⟨rfl, h⟩⟩
      · cases h
    · cases h
  · cases h
theorem lcL_nil {g : List (Nat × Ob)} {tg : TgM} {cond elt : EM} {σ : Env} {ys : List D} {S S' : Store} (h : lcL g tg cond elt σ [] S = .ok ys S') : It.ok g S ∧ ys = [] ∧ S' = S := by
  unfold lcL at h
  split at h
  · rename_i hg
    cases h
    exact ⟨hg, rfl, rfl⟩
  · cases h
theorem lcL_ok {g : List (Nat × Ob)} {tg : TgM} {cond elt : EM} {σ : Env} : ∀ {ds ys : List D} {S S' : Store}, lcL g tg cond elt σ ds S = .ok ys S' → It.ok g S ∧ It.ok g S'
  | [], _, _, _, h => by obtain ⟨a, _, b⟩ := lcL_nil h; rw [b]; exact ⟨a, a⟩
  | d :: ds, _, _, _, h => by
    obtain ⟨a, _, _, _, _, _, b⟩ := lcL_cons h
    rcases b with ⟨_, _, _, _, _, e, _⟩ | ⟨_, e⟩
    · exact ⟨a, (lcL_ok e).2⟩
    · exact ⟨a, (lcL_ok e).2⟩
/-- a list that is no place is written -/
theorem Rel.grow {G : Gc} {ρ : List Addr} {H : Hp} {S : Store} {p : Addr} {us ws : List V} (hR : Rel G ρ H S) (hp : H p = some (.lst us)) (hn : p ∉ ρ) : Rel G ρ (upd H p (.lst ws)) S := by
  refine ⟨hR.len, hR.nd, fun l a o e1 e2 => ?_⟩
  have q := hR.ob l a o e1 e2
  have hne : a ≠ p := fun z => hn (z ▸ List.mem_of_getElem? e1)
  cases o with
  | lst _ => obtain ⟨vs', q1, r, z⟩ := q; exact ⟨vs', (upd_ne hne).trans q1, rps_grow hp _ _ r, z⟩
  | dk _ => obtain ⟨vs', q1, r, z⟩ := q; exact ⟨vs', (upd_ne hne).trans q1, kv_grow hp r, z⟩
  | dt _ => obtain ⟨ob, es, ep, xs', q1, r1, r2, r3, r4, r5, r6, r7⟩ := q; exact ⟨ob, es, ep, xs', (upd_ne hne).trans q1, r1, r2, r3, r4, r5, r6, xt_grow hp r7⟩
  | dl _ => obtain ⟨od, ob, es, ep, xs', q1, r1, r2, r3, r4, r5, r6, r7⟩ := q; exact ⟨od, ob, es, ep, xs', (upd_ne hne).trans q1, r1, r2, r3, r4, r5, r6, xt_grow hp r7⟩
  | ins _ _ => obtain ⟨C, dx, vs', m, q1, r⟩ := q; exact ⟨C, dx, vs', m, (upd_ne hne).trans q1, fs_grow hp r⟩
/-- the turns of the model's comprehension -/
theorem lc_turns {G : Gc} {ρ1 : List Addr} {H1 : Hp} {S1 S2 : Store} {σd : Env} {σ : L2.St} {it : It} {J : L2.It} {t : TgM} {own : List Nat} {cond elt : EM} {ys : List D} {Q : V → Hp → Prop} {Dd : Addr} (jr : JR G ρ1 H1 it J) (R1 : Rel G ρ1 H1 S1) (E1 : REnv G ρ1 H1 σd σ) (hD : H1 Dd = none)
    (e : lcL it.g t cond elt (wipeD σd own) it.its S1 = .ok ys S2) (hq : ∀ ρ' H' vs, Ext ρ1 H1 ρ' H' → Rel G ρ' H' S2 → Dd ∉ ρ' → H' Dd = some (.lst vs) → RpVs G.K ρ' H' ys vs → vs.length ≤ sizeLine → Q (.ref Dd) H') :
    ∃ W' : Nat → Nat → Hp → Prop, (∃ m, W' 0 m (upd H1 Dd (.lst []))) ∧ ∀ i m H, W' i m H →
      (J.stop i H ∧ Q (.ref Dd) H) ∨ (J.go i H ∧ ∃ Nx : Hp → Prop, (∀ H', Nx H' → ∃ m', m' < m ∧ W' (i + 1) m' H') ∧ ∀ x H', J.yld i H x H' → tTg G own t x (L2.wipe σ own) H' fun σ2 H2 => L2.wipe σ2 own = L2.wipe σ own ∧ tG G WN rpB (cB cond) σ2 H2 fun b H3 =>
        if b = true then tE G WN elt σ2 H3 fun y H4 => ∃ acc, H4 Dd = some (.lst acc) ∧ acc.length < sizeLine ∧ Nx (upd H4 Dd (.lst (acc ++ [y]))) else Nx H3) := by
  refine ⟨fun i m H' => m + i = it.its.length ∧ ∃ ρ' S' acc vs zs, Ext ρ1 H1 ρ' H' ∧ Rel G ρ' H' S' ∧ Dd ∉ ρ' ∧ H' Dd = some (.lst vs) ∧ RpVs G.K ρ' H' acc vs ∧ acc.length ≤ i ∧ lcL it.g t cond elt (wipeD σd own) (it.its.drop i) S' = .ok zs S2 ∧ acc ++ zs = ys,
    ⟨it.its.length, rfl, ρ1, S1, [], [], ys, Ext.new hD, R1.new hD, R1.apart hD, upd_same, rfl, Nat.le_refl _, e, rfl⟩, ?_⟩
  rintro i m H2 ⟨hm, ρ2, S', acc, vs, zs, x2, R2, hn, hv, ra, hl, e2, ez⟩
  rcases drop_cases it.its i with ⟨ed, hi⟩ | ⟨d, hd, ed⟩
  · rw [ed] at e2
    obtain ⟨hg, rfl, rfl⟩ := lcL_nil e2
    rw [List.append_nil] at ez
    subst ez
    refine .inl ⟨jr.stop i ρ2 S2 H2 hi x2 R2 hg, hq ρ2 H2 vs x2 R2 hn hv ra ?_⟩
    rw [ra.length]
    have := jr.len
    omega
  · rw [ed] at e2
    obtain ⟨hg, σ1, b, S3, e3, e4, e5⟩ := lcL_cons e2
    obtain ⟨go, yl⟩ := jr.go i d ρ2 S' H2 hd x2 R2 hg
    have hlt := (List.getElem?_eq_some_iff.mp hd).1
    refine .inr ⟨go, fun H' => ∃ ρ' S' acc vs zs, Ext ρ1 H1 ρ' H' ∧ Rel G ρ' H' S' ∧ Dd ∉ ρ' ∧ H' Dd = some (.lst vs) ∧ RpVs G.K ρ' H' acc vs ∧ acc.length ≤ i + 1 ∧ lcL it.g t cond elt (wipeD σd own) (it.its.drop (i + 1)) S' = .ok zs S2 ∧ acc ++ zs = ys, fun H' q => ⟨m - 1, by omega, by omega, q⟩, fun x H' y => ?_⟩
    obtain ⟨x3, R3, q3⟩ := yl x H' y
    refine ⟨ρ2, S', d, wipeD σd own, R3, ((E1.ext (x2.trans x3)).wipe own), q3, σ1, e3, fun σ' E' ag => ⟨wipe_agree ag, ?_⟩⟩
    have nD : ∀ {ρ' H''}, Ext ρ2 H' ρ' H'' → Dd ∉ ρ' := fun {ρ' H''} x hmem => by
      obtain ⟨new, en, f, k, _, _⟩ := x
      subst en
      rcases List.mem_append.mp hmem with q | q
      · exact hn q
      · have := f Dd q
        obtain ⟨_, _, _, k3, _, _⟩ := x3
        rw [k3 Dd _ hn hv] at this
        cases this
    have vD : ∀ {ρ' H''}, Ext ρ2 H' ρ' H'' → H'' Dd = some (.lst vs) := fun {ρ' H''} x => by
      obtain ⟨_, _, _, k, _, _⟩ := x3.trans x
      exact k Dd _ hn hv
    refine run_ok (a := b) (S1 := S3) R3 E' (by unfold cB; rw [e4]; rfl) fun ρ4 H4 b' x4 R4 qb => ?_
    cases qb
    rcases e5 with ⟨rfl, y, S5, zs', e5, e6, rfl⟩ | ⟨rfl, e5⟩
    · rw [if_pos rfl]
      refine run_ok R4 (E'.ext x4) e5 fun ρ5 H5 yv x5 R5 qy => ?_
      have x45 := x4.trans x5
      have hD5 := vD x45
      have hnD5 := nD x45
      have hlen := jr.len
      -- the list grows; it is no place
      have xw : Ext ρ1 H1 ρ5 (upd H5 Dd (.lst (vs ++ [yv]))) := by
        have x15 := (x2.trans x3).trans x45
        obtain ⟨new, en, f, k, dm, fz⟩ := x15
        refine ⟨new, en, f, fun a o ha ho => ?_, fun a ho => ?_, fun a o u ho => ?_⟩
        · rw [upd_ne (ne_of_none ho hD)]; exact k a o ha ho
        · by_cases hb : a = Dd
          · rw [hb, upd_same]; exact fun z => nomatch z
          · rw [upd_ne hb]; exact dm a ho
        · rw [upd_ne (ne_of_none ho hD)]; exact fz a o u ho
      refine ⟨vs, hD5, ?_, ρ5, S5, acc ++ [y], vs ++ [yv], zs', xw, R5.grow hD5 hnD5, hnD5, upd_same, ?_, ?_, e6, by rw [List.append_assoc]; exact ez⟩
      · rw [ra.length]; omega
      · exact rps_grow hD5 _ _ (((x3.trans x45).rps _ _ ra).append ⟨yv, [], rfl, qy, rfl⟩)
      · rw [List.length_append]; show acc.length + 1 ≤ i + 1; omega
    · rw [if_neg Bool.false_ne_true]
      exact ⟨ρ4, S3, acc, vs, zs, (x2.trans x3).trans x4, R4, nD x4, vD x4, (x3.trans x4).rps _ _ ra, by omega, e5, ez⟩
/-- the new list becomes a place -/
theorem Out.seat {G : Gc} {W : WX} {ρ1 ρ' : List Addr} {H1 H' : Hp} {σ : L2.St} {Q : V → Hp → Prop} {S2 : Store} {ys : List D} {vs : List V} {Dd : Addr} (h : Out G W (rpV G) ρ1 H1 σ Q (.ok (.loc S2.length) (S2 ++ [.lst ys]))) (hD : H1 Dd = none) (x : Ext ρ1 H1 ρ' H') (R' : Rel G ρ' H' S2) (hn : Dd ∉ ρ') (hv : H' Dd = some (.lst vs))
    (r : RpVs G.K ρ' H' ys vs) (hz : vs.length ≤ sizeLine) : Q (.ref Dd) H' := by
  -- the places with Dd among them, the heap as it is
  have xp : ∀ {d : D} {v : V}, RpV G.K ρ' H' d v → RpV G.K (ρ' ++ [Dd]) H' d v := fun {d v} q => seat_rp hn hv d v q
  have xps : ∀ {d : List D} {v : List V}, RpVs G.K ρ' H' d v → RpVs G.K (ρ' ++ [Dd]) H' d v := fun {d v} q => seat_rps hn hv d v q
  refine h (ρ' ++ [Dd]) H' _ ?_ ?_ (alloc_loc R')
  · obtain ⟨new, en, f, k, dm, fz⟩ := x
    subst en
    refine ⟨new ++ [Dd], by rw [List.append_assoc], fun p hp => ?_, k, dm, fz⟩
    rcases List.mem_append.mp hp with hp | hp
    · exact f p hp
    · rw [List.mem_singleton.mp hp]; exact hD
  · refine ⟨by simp [R'.len], ?_, fun l a o' e1 e2 => ?_⟩
    · rw [List.nodup_append]
      exact ⟨R'.nd, by simp, fun x hx y hy => by rw [List.mem_singleton.mp hy]; exact fun z => hn (z ▸ hx)⟩
    · have hl := R'.len
      by_cases hlt : l < ρ'.length
      · rw [List.getElem?_append_left hlt] at e1
        rw [List.getElem?_append_left (by omega)] at e2
        have q := R'.ob l a o' e1 e2
        cases o' with
        | lst _ => obtain ⟨vs', q1, r, z⟩ := q; exact ⟨vs', q1, xps r, z⟩
        | dk _ => obtain ⟨vs', q1, r, z⟩ := q; exact ⟨vs', q1, seat_kv hn hv r, z⟩
        | dt _ => obtain ⟨ob, es, ep, xs', q1, r1, r2, r3, r4, r5, r6, r7⟩ := q; exact ⟨ob, es, ep, xs', q1, r1, r2, r3, r4, r5, r6, seat_xt hn hv r7⟩
        | dl _ => obtain ⟨od, ob, es, ep, xs', q1, r1, r2, r3, r4, r5, r6, r7⟩ := q; exact ⟨od, ob, es, ep, xs', q1, r1, r2, r3, r4, r5, r6, seat_xt hn hv r7⟩
        | ins _ _ => obtain ⟨C, dx, vs', m, q1, r⟩ := q; exact ⟨C, dx, vs', m, q1, seat_fs hn hv r⟩
      · have hb := (List.getElem?_eq_some_iff.mp e1).1
        have hl2 : l = ρ'.length := by
          simp at hb
          omega
        subst hl2
        rw [List.getElem?_append_right (Nat.le_refl _)] at e1
        rw [List.getElem?_append_right (by omega)] at e2
        simp [hl] at e1 e2
        subst e1 e2
        exact ⟨vs, hv, xps r, hz⟩
end
end Mn
set_option maxHeartbeats 4000000
/-! What is walked: lists, tuples, ranges, enumerate; comprehensions as values and given to a name. -/
namespace Mn
open PySem PySem.Spec PyProof.Rows L2
open Sem (wp)
/-! ### enumerate of a tuple -/
set_option maxHeartbeats 4000000 in
theorem meets_enumerate_newT (t : Addr) (items : Array Value) :
    Meets (Builtin.«enumerate.__new__» ⟨[.type "enumerate", .ref t], []⟩) (fun _ R s => s.heap.IsTuple t items ∧
      R (.ok (.ret (.ref (s.heap.push { cls := .type "tuple_iterator", data := .fields #[.ref t, .int 0 0] }).objs.size)))
        { s with heap := (s.heap.push { cls := .type "tuple_iterator", data := .fields #[.ref t, .int 0 0] }).push { cls := .type "enumerate", data := .fields #[.none, .bool false, .ref s.heap.objs.size, rawInt 0, .none, .none] } }) :=
  .of_wp fun prog w A R s h => by
    obtain ⟨hp, g, d, tk, os⟩ := s; obtain ⟨h1, h⟩ := h
    have hsub := sub_enumerate
    have q1 : ∀ {A' : Around} {E : Value → Shared → Prop} {Q : Value → Shared → Prop}, Q (.ref hp.objs.size) ⟨hp.push { cls := .type "tuple_iterator", data := .fields #[.ref t, .int 0 0] }, g, d, tk, os⟩ → wpAny (model prog w) A' (pyIter (.ref t)) Q E ⟨hp, g, d, tk, os⟩ :=
      fun q => wpAny_pyIter_tuple h1 q
    wp_walk using q1
    refine wpAny_stack_any fun st => wpAny_pure ?_
    split
    · rename_i c _ _ _ _ _
      cases (c == Value.type "enumerate")
      · wp_walk using q1
        exact ⟨_, rfl, h⟩
      · wp_walk using q1
        exact ⟨_, rfl, h⟩
    · wp_walk using q1
      exact ⟨_, rfl, h⟩
theorem call_enumerate_tuple {prog : Program} {w : World} {A : Around} {E : Value → Shared → Prop} {s : Shared} {l : Addr} {items : Array Value} {Q : Value → Shared → Prop} (hL : s.heap.IsTuple l items)
    (h : ∀ h', IsEnum h' (s.heap.objs.size + 1) s.heap.objs.size 0 .none → h'.IsTupleIter s.heap.objs.size l 0 → h'.objs.size = s.heap.objs.size + 2 →
      (∀ b o, s.heap.get? b = some o → h'.get? b = some o) → Q (.ref (s.heap.objs.size + 1)) { s with heap := h' }) :
    wpAny (model prog w) A (call (.type "enumerate") [.ref l]) Q E s := by
  refine callType_new F.called_enumerate (by decide) (F.typeCall_enumerate_1 _) (F.newCall_enumerate_1 _) (fun obj => F.args_object_init_2 obj _) F.entry_enumerate_new
    (meets_enumerate_newT l items) ⟨hL, ?_⟩
  have hz : (s.heap.push { cls := .type "tuple_iterator", data := .fields #[.ref l, .int 0 0] }).objs.size = s.heap.objs.size + 1 := Heap.size_push ..
  show _ ∧ _
  rw [hz]
  have he : IsEnum ((s.heap.push { cls := .type "tuple_iterator", data := .fields #[.ref l, .int 0 0] }).push
      { cls := .type "enumerate", data := .fields #[.none, .bool false, .ref s.heap.objs.size, rawInt 0, .none, .none] }) (s.heap.objs.size + 1) s.heap.objs.size 0 .none := by
    have := Heap.get?_push_size (s.heap.push { cls := .type "tuple_iterator", data := .fields #[.ref l, .int 0 0] })
      (o := { cls := .type "enumerate", data := .fields #[.none, .bool false, .ref s.heap.objs.size, rawInt 0, .none, .none] }) rfl
    rw [hz] at this; exact this
  refine ⟨⟨_, he, rfl⟩, h _ he ⟨_, Heap.get?_push_of_some _ (Heap.get?_push_size _ rfl), rfl, rfl⟩ (by rw [Heap.size_push, hz]) fun b o x => Heap.get?_push_of_some _ (Heap.get?_push_of_some _ x)⟩
/-- the tuple at a, each item in a new pair -/
def IteT (K : PySem.W.Frag) (a : Addr) : L2.It :=
  ⟨fun i H => ∃ (xs : List V) (x : V), SqT K H a xs ∧ xs[i]? = some x, fun i H v H' => ∃ T x, v = .ref T ∧ H T = none ∧ H' = upd H T (.tup [.int (i : Nat), x]) ∧ ∀ xs, SqT K H a xs → xs[i]? = some x, fun i H => ∃ xs : List V, SqT K H a xs ∧ xs.length ≤ i⟩
theorem turn_enumT {P : Program} {w : World} {K : PySem.W.Frag} {elts : List Expr} {kk : Nat} {tpos : Pos} (a e it : Addr) :
    Turn P w K (.Tuple elts kk tpos) (IteT K a) [e, it] e (fun i h => (∃ old, IsEnum h e it ((i : Nat) : Int) old) ∧ h.IsTupleIter it a i ∧ e ≠ it) where
  mem := by simp
  obj := fun i h st b hb => by
    obtain ⟨⟨old, he⟩, ⟨o, ho, hc, hd⟩, _⟩ := st
    have e' : b = e ∨ b = it := by simpa using hb
    rcases e' with z | z
    · rw [z]; exact ⟨_, he, fun v q => nomatch q⟩
    · rw [z]; exact ⟨o, ho, fun v q => by rw [hd] at q; cases q⟩
  keep := fun i h h' st k => let ⟨⟨old, he⟩, hi, hne⟩ := st; ⟨⟨old, k e (by simp) _ he⟩, hi.at fun o q => k it (by simp) o q, hne⟩
  item := by
    intro X hP hw hK hc i pins s σ H E I hf st hg
    subst hP hw hK
    obtain ⟨⟨old, he⟩, hit, hne⟩ := st
    obtain ⟨xs, x, hq, hx⟩ := hg
    obtain ⟨its, rv, p, hz⟩ := I.tuple hq
    obtain ⟨u, hu, ru⟩ := rv.get hx
    have hel : e < s.heap.objs.size := Heap.lt_size he
    have hil : it < s.heap.objs.size := by obtain ⟨_, q, _⟩ := hit; exact Heap.lt_size q
    have hal : a < s.heap.objs.size := by obtain ⟨_, q, _⟩ := p; exact Heap.lt_size q
    have pt : s.heap.IsTuple a its.toArray := p
    have hai : a ≠ it := fun z => by
      obtain ⟨o, q, c, _⟩ := hit
      obtain ⟨o', q', c', _⟩ := p
      rw [z, q] at q'
      cases q'
      rw [c] at c'
      injection c' with e'
      exact absurd e' (by decide)
    have hae : e ≠ a := fun z => by
      obtain ⟨o', q', c', _⟩ := p
      have he' : s.heap.get? e = some _ := he
      rw [z, q'] at he'
      cases he'
      injection c' with e'
      exact absurd e' (by decide)
    have hil2 : i < its.toArray.size := by
      have := (List.getElem?_eq_some_iff.mp hu).1
      simpa using this
    refine wpAny_pyNext_enum_itemD (PySem.Draws.tuple (A := X.A.in1) (I.ok.hd hc) it a hai its.toArray) he ⟨hit, pt⟩ hil2 hne (by simp [hne, hae]) fun x' h' tk hx' ho hit' hT hsz hk => ?_
    have ex' : x' = u := by
      have q : its.toArray[i]? = some x' := hx'
      rw [show its.toArray[i]? = its[i]? from by simp, hu] at q
      exact (Option.some.inj q).symm
    subst ex'
    refine ⟨_, rfl, wpAny_letOwnedTupleGo_enum (s := { s with heap := h', toks := tk + 1 }) ho fun h'' he' sb => ?_⟩
    have hT2 : h''.get? s.heap.objs.size = some { cls := .type "tuple", data := .seq #[.int i tk, x'] } := (sb.2 _ (Nat.ne_of_gt hel)).trans hT
    have new : ObjOk X.prog X.w (upd H s.heap.objs.size (.tup [.int (i : Nat), x])) h'' s.heap.objs.size (.tup [.int (i : Nat), x]) :=
      ⟨by show 2 ≤ sizeLine; decide, [.int i tk, x'], .cons ⟨_, rfl⟩ (.cons ru .nil), ⟨_, hT2, rfl, _, rfl⟩⟩
    have I1 : Inv X pins σ (upd H s.heap.objs.size (.tup [.int (i : Nat), x])) { s with heap := h'', toks := tk + 1 } :=
      I.turnedNew (ch := [e, it]) (fun b ob hb q => (sb.2 b (fun z => hb (by simp [z]))).trans (hk b ob (fun z => hb (by simp [z])) (fun z => hb (by simp [z])) q)) hf (Nat.le_refl _) new
    refine ⟨.ref s.heap.objs.size, _, I1, rfl, ⟨_, x, rfl, I.hok.fresh (Nat.le_refl _), rfl, fun ys hy => by rw [I.tuple_inj hy hq]; exact hx⟩, ⟨⟨x', ?_⟩, hit'.1.at fun o q => (sb.2 it (Ne.symm hne)).trans q, hne⟩, fun b hb => ?_⟩
    · have e1 : ((i + 1 : Nat) : Int) = (i : Int) + 1 := by omega
      rw [e1]; exact he'
    · have hb' : b < s.heap.objs.size := by
        have e' : b = e ∨ b = it := by simpa using hb
        rcases e' with z | z
        · rw [z]; exact hel
        · rw [z]; exact hil
      rw [upd_ne (Nat.ne_of_lt hb')]
      exact (hf b hb).1
  done := by
    intro X hP hw hK hc i pins s σ H E I hf st hg
    subst hP hw hK
    obtain ⟨⟨old, he⟩, hit, hne⟩ := st
    obtain ⟨xs, hq, hx⟩ := hg
    obtain ⟨its, rv, p, hz⟩ := I.tuple hq
    obtain ⟨f0, f1, f2, f3, f4, f5⟩ := hf it (by simp)
    have hl := rv.length
    have pt : s.heap.IsTuple a its.toArray := p
    have hT : s.TypeIs (.ref e) "enumerate" := ⟨_, he, rfl⟩
    unfold pyNext
    refine wpAny_bind (wpAny_attempt (wpAny_callSpecial?_slot (name := Str.ofString "__next__") hT F.slot_enumerate_next
      (wpAny_call_entry F.slot_enumerate_next hT F.entry_enumerate_next ?_ (F.args_enumerate_next_1 _))))
    show wpAny _ _ (field (.ref e) 2 >>= _) _ _ _
    refine wpAny_bind (wpAny_field he rfl (x := .ref it) rfl ?_)
    refine wpAny_bind (wpAny_nextOf_tuple_end (I.ok.hd hc) hit pt (by simp; omega) fun h' x he' hx' => ?_)
    obtain ⟨o, ho, hcl⟩ := hx'
    refine wpAny_bind (wpAny_isInstance (T := "StopIteration") (b := true) ⟨o, ho, hcl⟩ isSubtype_stop ?_)
    exact wpAny_pure ⟨rfl, I.turned (t' := s.toks) (fun b o hb q => he' b o hb q) f0 f1 f3 f4 f5⟩
  self := fun A i s Q E st h => let ⟨⟨_, he⟩, _⟩ := st; wpAny_pyIter_enum he h
def iEnumT (K : PySem.W.Frag) (ta : TA) : TI := fun σ H R => ta σ H fun vs H1 => ∃ a xs, vs = [.ref a] ∧ SqT K H1 a xs ∧ R (IteT K a) H1
theorem pi_enumT {X : Cx} {e : Expr} {ta : TA} {p pos tpos : Pos} {elts : List Expr} {kk : Nat} (hg : Gl X "enumerate") (hm : X.mg "enumerate" = none) (ha : PA X [e] ta) (hs : starEach [e] X.env = [(false, eval e X.env)] := by rfl) :
    PI X (.Tuple elts kk tpos) (.Call (.Name "enumerate" p) [e] [] pos) (iEnumT X.K ta) := by
  refine ⟨fun pins s σ H R I h => ?_⟩
  refine Call_ (ld_blt I hg hm boot_enumerate (PyProof.Rows.callWith_type1 (thn (ha.run pos pins s σ H _ I h) fun us s1 ⟨vs, H1, I1, r1, q1⟩ => ?_) hs rfl))
  obtain ⟨a, xs, ex, hq, q⟩ := q1
  subst ex
  cases r1 with
  | cons r rr =>
    cases rr
    cases r
    obtain ⟨its, rv, p', hz⟩ := I1.tuple hq
    refine call_enumerate_tuple (items := its.toArray) p' fun h' he hit hsz hk => wpAny_pyIter_enum he ?_
    have I2 : Inv X pins σ H1 { s1 with heap := h' } := I1.kept (t' := s1.toks) hk
    refine ⟨s1.heap.objs.size + 1, [s1.heap.objs.size + 1, s1.heap.objs.size], _, _, H1, rfl, I2, turn_enumT a (s1.heap.objs.size + 1) s1.heap.objs.size, ⟨⟨.none, he⟩, hit, Nat.succ_ne_self _⟩, fun b hb => ?_, q⟩
    have e' : b = s1.heap.objs.size + 1 ∨ b = s1.heap.objs.size := by simpa using hb
    have hle : s1.heap.objs.size ≤ b := by
      rcases e' with z | z
      · rw [z]; exact Nat.le_add_right _ _
      · rw [z]; exact Nat.le_refl _
    exact I1.fpOk hle (I1.hok.fresh hle)
section
variable {X : Cx} {W : WX}
theorem jr_list {G : Gc} {ρ : List Addr} {H : Hp} {l : Nat} {a : Addr} {xs : List D} (el : ρ[l]? = some a) (hz : xs.length ≤ sizeLine) : JR G ρ H ⟨xs, [(l, .lst xs)]⟩ (Itl G.K a) := by
  refine ⟨hz, fun i d ρ1 S1 H1 hd x R g => ?_, fun i ρ1 S1 H1 hi x R g => ?_⟩
  · have e0 : S1[l]? = some (.lst xs) := g (l, .lst xs) List.mem_cons_self
    obtain ⟨a', vs, ea, _, ha, ra, _⟩ := R.lst e0 ⟨a, x.loc el, rfl⟩
    cases ea
    obtain ⟨v, hv, rv⟩ := ra.get hd
    refine ⟨⟨vs, v, SqL.of ha, hv⟩, fun y H2 ⟨e, hy⟩ => ?_⟩
    subst e
    have := hy vs (SqL.of ha)
    rw [hv] at this
    cases this
    exact ⟨Ext.refl, R, rv⟩
  · have e0 : S1[l]? = some (.lst xs) := g (l, .lst xs) List.mem_cons_self
    obtain ⟨a', vs, ea, _, ha, ra, _⟩ := R.lst e0 ⟨a, x.loc el, rfl⟩
    cases ea
    exact ⟨vs, SqL.of ha, by rw [ra.length]; exact hi⟩
theorem jr_tup {G : Gc} {ρ : List Addr} {H : Hp} {a : Addr} {xs : List D} {vs : List V} (ta : TupR G.K ρ H a vs) (ra : RpVs G.K ρ H xs vs) (hz : vs.length ≤ sizeLine) : JR G ρ H ⟨xs, []⟩ (Itt G.K a) := by
  refine ⟨by rw [← ra.length]; exact hz, fun i d ρ1 S1 H1 hd x R g => ?_, fun i ρ1 S1 H1 hi x R g => ?_⟩
  · obtain ⟨v, hv, rv⟩ := (x.rps _ _ ra).get hd
    refine ⟨⟨vs, v, (x.tup ta).sq, hv⟩, fun y H2 ⟨e, hy⟩ => ?_⟩
    subst e
    have := hy vs (x.tup ta).sq
    rw [hv] at this
    cases this
    exact ⟨Ext.refl, R, rv⟩
  · exact ⟨vs, (x.tup ta).sq, by rw [ra.length]; exact hi⟩
theorem jr_ro {G : Gc} {ρ : List Addr} {H : Hp} {a : Addr} {xs : List D} {vs : List V} (ta : LstR G.K ρ H a vs) (ra : RpVs G.K ρ H xs vs) (hz : vs.length ≤ sizeLine) : JR G ρ H ⟨xs, []⟩ (Itl G.K a) := by
  refine ⟨by rw [← ra.length]; exact hz, fun i d ρ1 S1 H1 hd x R g => ?_, fun i ρ1 S1 H1 hi x R g => ?_⟩
  · obtain ⟨v, hv, rv⟩ := (x.rps _ _ ra).get hd
    refine ⟨⟨vs, v, (x.lst ta).sq, hv⟩, fun y H2 ⟨e, hy⟩ => ?_⟩
    subst e
    have := hy vs (x.lst ta).sq
    rw [hv] at this
    cases this
    exact ⟨Ext.refl, R, rv⟩
  · exact ⟨vs, (x.lst ta).sq, by rw [ra.length]; exact hi⟩
theorem mi_of {tg e : Expr} {c : EM} (h : ME X W e c) : MI X W tg e (iOf c) := by
  refine PI_imp (PI_or (pi_list h) (pi_tup h)) fun σ H R ⟨ρ, σd, S, hR, hE, o⟩ => ?_
  unfold iOf at o
  cases ec : c σd S with
  | ok d S1 =>
    rw [ec] at o
    have o : Out (gOf X) W (rpI (gOf X)) ρ H σ R (match itOf S1 d with
      | some it => .ok it S1
      | none => .bad) := o
    split at o
    · rename_i it ei
      cases d with
      | tup xs =>
        cases ei
        exact .inr ⟨ρ, σd, S, hR, hE, by rw [ec]; exact fun ρ1 H1 v x r ⟨a, vs, ev, ta, hz, ra⟩ => ⟨a, ev, ⟨vs, ta.sq⟩, o ρ1 H1 _ x r (jr_tup ta ra hz)⟩⟩
      | ro xs =>
        cases ei
        exact .inl ⟨ρ, σd, S, hR, hE, by rw [ec]; exact fun ρ1 H1 v x r ⟨a, vs, ev, ta, hz, ra⟩ => ⟨a, ev, ⟨vs, ta.sq⟩, o ρ1 H1 _ x r (jr_ro ta ra hz)⟩⟩
      | loc l =>
        simp only [noRo, itOf] at ei
        split at ei
        · rename_i xs e0
          cases ei
          refine .inl ⟨ρ, σd, S, hR, hE, ?_⟩
          rw [ec]
          intro ρ1 H1 v x r q
          obtain ⟨a, vs, ev, el, ha, ra, hz⟩ := r.lst e0 q
          exact ⟨a, ev, ⟨vs, SqL.of ha⟩, o ρ1 H1 _ x r (jr_list el (by rw [← ra.length]; exact hz))⟩
        · cases ei
      | _ => cases ei
    · exact o.elim
  | exc x S1 => rw [ec] at o; exact .inl ⟨ρ, σd, S, hR, hE, by rw [ec]; exact o⟩
  | bad => rw [ec] at o; exact o.elim
theorem upTo_get : ∀ (n : Nat) (lo : Int) (i : Nat), (upTo lo n)[i]? = if i < n then some (.int (lo + i)) else none
  | 0, lo, i => by simp [upTo]
  | n + 1, lo, 0 => by simp [upTo]
  | n + 1, lo, i + 1 => by
    simp only [upTo, List.getElem?_cons_succ]
    rw [upTo_get n (lo + 1) i]
    by_cases h : i < n
    · rw [if_pos h, if_pos (by omega)]
      have : lo + 1 + (i : Int) = lo + ((i + 1 : Nat) : Int) := by omega
      rw [this]
    · rw [if_neg h, if_neg (by omega)]
theorem upTo_len : ∀ (n : Nat) (lo : Int), (upTo lo n).length = n
  | 0, _ => rfl
  | n + 1, lo => by simp [upTo, upTo_len n]
theorem pa_one {e : Expr} {t : TE} (h : PE X e t) (hst : starEach [e] X.env = (false, eval e X.env) :: starEach [] X.env := by rfl) : PA X [e] (fun σ H Q => t σ H fun v H1 => Q [v] H1) := pa_cons h pa_nil hst
theorem mi_rng {tg e : Expr} {c : EM} {p pos : Pos} (hg : Gl X "range") (hm : X.mg "range" = none) (h : ME X W e c) (hst : starEach [e] X.env = (false, eval e X.env) :: starEach [] X.env := by rfl) (hs : starEach [e] X.env = [(false, eval e X.env)] := by rfl) : MI X W tg (.Call (.Name "range" p) [e] [] pos) (iRng c) := by
  refine PI_imp (pi_range1 hg hm (pa_one h hst) hs) fun σ H R ⟨ρ, σd, S, hR, hE, o⟩ => ?_
  refine step hR hE o fun ρ1 H1 d S1 v x1 R1 E1 q1 _ o1 => ?_
  cases d with
  | int n =>
    obtain ⟨⟨hlo, hn⟩, o1⟩ := o1.ite
    have hn2 := line63
    have hs := sizeLine_eq
    rw [show v = V.int n from q1]
    · refine ⟨n, rfl, hlo, by omega, ?_⟩
      refine o1 ρ1 H1 _ Ext.refl R1 ⟨by rw [upTo_len]; omega, fun i d ρ2 S2 H2 hd x R g => ?_, fun i ρ2 S2 H2 hi x R g => ?_⟩
      · rw [upTo_get] at hd
        split at hd
        · rename_i hi
          cases hd
          refine ⟨hi, fun y H3 ⟨e, hy⟩ => ?_⟩
          subst e hy
          exact ⟨Ext.refl, R, rfl⟩
        · cases hd
      · rw [upTo_len] at hi
        exact hi
  | _ => exact o1.elim
theorem numb_get : ∀ (xs : List D) (k : Int) (i : Nat), (numb k xs)[i]? = (xs[i]?).map fun x => .tup [.int (k + i), x]
  | [], k, i => by simp [numb]
  | x :: xs, k, 0 => by simp [numb]
  | x :: xs, k, i + 1 => by
    simp only [numb, List.getElem?_cons_succ]
    rw [numb_get xs (k + 1) i]
    have : k + 1 + (i : Int) = k + ((i + 1 : Nat) : Int) := by omega
    rw [this]
theorem numb_len : ∀ (xs : List D) (k : Int), (numb k xs).length = xs.length
  | [], _ => rfl
  | x :: xs, k => by simp [numb, numb_len xs]
theorem pair_rp {K : PySem.W.Frag} {ρ : List Addr} {H : Hp} {T : Addr} {v u : V} {d e : D} (hT : H T = none) (hn : T ∉ ρ) (h1 : RpV K ρ H d v) (h2 : RpV K ρ H e u) : RpV K ρ (upd H T (.tup [v, u])) (.tup [d, e]) (.ref T) :=
  ⟨T, [v, u], rfl, .inl ⟨.inl upd_same, hn⟩, by show 2 ≤ sizeLine; decide, (Ext.new hT).rps _ _ ⟨v, [u], rfl, h1, u, [], rfl, h2, rfl⟩⟩
theorem jr_enum {G : Gc} {ρ : List Addr} {H : Hp} {l : Nat} {a : Addr} {xs : List D} (el : ρ[l]? = some a) (hz : xs.length ≤ sizeLine) : JR G ρ H ⟨numb 0 xs, [(l, .lst xs)]⟩ (Ite G.K a) := by
  refine ⟨by rw [numb_len]; exact hz, fun i d ρ1 S1 H1 hd x R g => ?_, fun i ρ1 S1 H1 hi x R g => ?_⟩
  · have e0 : S1[l]? = some (.lst xs) := g (l, .lst xs) List.mem_cons_self
    obtain ⟨a', vs, ea, _, ha, ra, _⟩ := R.lst e0 ⟨a, x.loc el, rfl⟩
    cases ea
    rw [numb_get] at hd
    obtain ⟨d0, hd0, rfl⟩ := Option.map_eq_some_iff.mp hd
    obtain ⟨v, hv, rv⟩ := ra.get hd0
    refine ⟨⟨vs, v, SqL.of ha, hv⟩, fun y H2 ⟨T, x', e1, hT, e2, hy⟩ => ?_⟩
    subst e1 e2
    have := hy vs (SqL.of ha)
    rw [hv] at this
    cases this
    refine ⟨Ext.new hT, R.new hT, ?_⟩
    rw [show (0 : Int) + (i : Int) = (i : Int) from Int.zero_add _]
    exact pair_rp hT (R.apart hT) rfl rv
  · have e0 : S1[l]? = some (.lst xs) := g (l, .lst xs) List.mem_cons_self
    obtain ⟨a', vs, ea, _, ha, ra, _⟩ := R.lst e0 ⟨a, x.loc el, rfl⟩
    cases ea
    rw [numb_len] at hi
    exact ⟨vs, SqL.of ha, by rw [ra.length]; exact hi⟩
theorem jr_enumT {G : Gc} {ρ : List Addr} {H : Hp} {a : Addr} {xs : List D} {vs : List V} (ta : TupR G.K ρ H a vs) (ra : RpVs G.K ρ H xs vs) (hz : vs.length ≤ sizeLine) : JR G ρ H ⟨numb 0 xs, []⟩ (IteT G.K a) := by
  refine ⟨by rw [numb_len, ← ra.length]; exact hz, fun i d ρ1 S1 H1 hd x R g => ?_, fun i ρ1 S1 H1 hi x R g => ?_⟩
  · rw [numb_get] at hd
    obtain ⟨d0, hd0, rfl⟩ := Option.map_eq_some_iff.mp hd
    obtain ⟨v, hv, rv⟩ := (x.rps _ _ ra).get hd0
    refine ⟨⟨vs, v, (x.tup ta).sq, hv⟩, fun y H2 ⟨T, x', e1, hT, e2, hy⟩ => ?_⟩
    subst e1 e2
    have := hy vs (x.tup ta).sq
    rw [hv] at this
    cases this
    refine ⟨Ext.new hT, R.new hT, ?_⟩
    rw [show (0 : Int) + (i : Int) = (i : Int) from Int.zero_add _]
    exact pair_rp hT (R.apart hT) rfl rv
  · rw [numb_len] at hi
    exact ⟨vs, (x.tup ta).sq, by rw [ra.length]; exact hi⟩
theorem mi_enum {e : Expr} {c : EM} {p pos tpos : Pos} {elts : List Expr} {kk : Nat} (hg : Gl X "enumerate") (hm : X.mg "enumerate" = none) (h : ME X W e c) (hst : starEach [e] X.env = (false, eval e X.env) :: starEach [] X.env := by rfl) (hs : starEach [e] X.env = [(false, eval e X.env)] := by rfl) :
    MI X W (.Tuple elts kk tpos) (.Call (.Name "enumerate" p) [e] [] pos) (iEnum c) := by
  refine PI_imp (PI_or (pi_enum hg hm (pa_one h hst) hs) (pi_enumT hg hm (pa_one h hst) hs)) fun σ H R ⟨ρ, σd, S, hR, hE, o⟩ => ?_
  unfold iEnum at o
  cases ec : c σd S with
  | ok d S1 =>
    rw [ec] at o
    have o : Out (gOf X) W (rpI (gOf X)) ρ H σ R (match itOf S1 (noRo d) with
      | some it => .ok ⟨numb 0 it.its, it.g⟩ S1
      | none => .bad) := o
    split at o
    · rename_i it ei
      cases d with
      | tup xs =>
        cases ei
        exact .inr ⟨ρ, σd, S, hR, hE, by rw [ec]; exact fun ρ1 H1 v x r ⟨a, vs, ev, ta, hz, ra⟩ => ⟨a, vs, by rw [ev], ta.sq, o ρ1 H1 _ x r (jr_enumT ta ra hz)⟩⟩
      | loc l =>
        simp only [noRo, itOf] at ei
        split at ei
        · rename_i xs e0
          cases ei
          refine .inl ⟨ρ, σd, S, hR, hE, ?_⟩
          rw [ec]
          intro ρ1 H1 v x r q
          obtain ⟨a, vs, ev, el, ha, ra, hz⟩ := r.lst e0 q
          exact ⟨a, vs, by rw [ev], SqL.of ha, o ρ1 H1 _ x r (jr_enum el (by rw [← ra.length]; exact hz))⟩
        · cases ei
      | _ => cases ei
    · exact o.elim
  | exc x S1 => rw [ec] at o; exact .inl ⟨ρ, σd, S, hR, hE, by rw [ec]; exact o⟩
  | bad => rw [ec] at o; exact o.elim
/-! ### comprehensions -/
abbrev MTs (X : Cx) (W : WX) (ifs : List Expr) (c : EM) : Prop := PTs X ifs (tG (gOf X) W rpB (cB c))
theorem mts_nil : MTs X W [] eYes := ⟨fun pins s σ H Q I ⟨ρ, σd, S, hR, hE, o⟩ => pts_nil.run pins s σ H Q I (o.here hR rfl)⟩
theorem mts_one {e : Expr} {c : EM} (h : MT X W e c) : MTs X W [e] c := pts_one h
theorem lc_fit {src : IM} {t : TgM} {cond elt : EM} {own : List Nat} {σ : L2.St} {H : Hp} {Q : VK} (h : tE (gOf X) W (eLC src t cond elt own) σ H Q) :
    tLc (tG (gOf X) W (rpI (gOf X)) src) (tTg (gOf X) own t) (tG (gOf X) WN rpB (cB cond)) (tE (gOf X) WN elt) own σ H Q := by
  obtain ⟨ρ, σd, S, hR, hE, h⟩ := h
  refine step hR hE h fun ρ1 H1 it S1 J x1 R1 E1 jr _ o1 => ?_
  intro Dd hD
  obtain ⟨ys, S2, e, o2⟩ := noX_bind o1
  exact lc_turns jr R1 E1 hD e fun ρ' H' vs x R' hn hv r hz => Out.seat o2 hD x R' hn hv r hz
theorem me_lc {elt tg iter : Expr} {ifs : List Expr} {scope : Scope} {own : List (Str × Nat)} {pos : Pos} {src : IM} {t : TgM} {cond ce : EM} (hc : X.calm = true) (hN : X.N.Nodup) (hi : MI X W tg iter src) (ok : BlkOk X.N X.env.scope scope own)
    (hg : ∀ (s : Shared) (H : Hp) (C : Addr) (cl : List (Str × Addr)) (fp : List Addr), MG (X.blk s H scope (compEnvC scope cl C X.env) fp) (own.map (·.2)) tg t) (ht : ∀ (s : Shared) (H : Hp) (C : Addr) (cl : List (Str × Addr)) (fp : List Addr), MTs (X.blk s H scope (compEnvC scope cl C X.env) fp) WN ifs cond)
    (he : ∀ (s : Shared) (H : Hp) (C : Addr) (cl : List (Str × Addr)) (fp : List Addr), ME (X.blk s H scope (compEnvC scope cl C X.env) fp) WN elt ce) (hs : ∀ x, foldedSetIterable iter X.env x = pure x := by intro _; rfl) :
    ME X W (.ListComp elt [⟨tg, iter, ifs, 0⟩] scope pos) (eLC src t cond ce (own.map (·.2))) :=
  PE_imp (pe_lc (own := own) (g := tTg (gOf X) (own.map fun (p : Str × Nat) => p.2) t) (tt := tG (gOf X) WN rpB (cB cond)) (te := tE (gOf X) WN ce) hc hN hi ok hg ht he hs) fun σ H Q h => lc_fit h
theorem ms_setLc {i : Nat} {y : Str} {py : Pos} {elt tg iter : Expr} {ifs : List Expr} {scope : Scope} {own : List (Str × Nat)} {pos spos : Pos} {src : IM} {t : TgM} {cond ce : EM} (hc : X.calm = true) (hN : X.N.Nodup) (hy : X.N[i]? = some y) (hyl : X.env.scope.names.lookup y = some .local)
    (hsw : swapsWith (.ListComp elt [⟨tg, iter, ifs, 0⟩] scope pos) (some (.Name y py)) spos.line X.env = pure true) (hi : MI X W tg iter src) (ok : BlkOk X.N X.env.scope scope own)
    (hg : ∀ (s : Shared) (H : Hp) (C : Addr) (cl : List (Str × Addr)) (fp : List Addr), MG (X.blk s H scope (compEnvC scope cl C X.env) fp) (own.map (·.2)) tg t) (ht : ∀ (s : Shared) (H : Hp) (C : Addr) (cl : List (Str × Addr)) (fp : List Addr), MTs (X.blk s H scope (compEnvC scope cl C X.env) fp) WN ifs cond)
    (he : ∀ (s : Shared) (H : Hp) (C : Addr) (cl : List (Str × Addr)) (fp : List Addr), ME (X.blk s H scope (compEnvC scope cl C X.env) fp) WN elt ce) (hs : ∀ x, foldedSetIterable iter X.env x = pure x := by intro _; rfl) :
    MS X W (.Assign [.Name y py] (.ListComp elt [⟨tg, iter, ifs, 0⟩] scope pos) spos) (sSet (tgN i) (eLC src t cond ce (own.map (·.2)))) := by
  refine PS_imp (ps_setLc (own := own) (g := tTg (gOf X) (own.map fun (p : Str × Nat) => p.2) t) (tt := tG (gOf X) WN rpB (cB cond)) (te := tE (gOf X) WN ce) hc hN hy hyl hsw hi ok hg ht he hs) fun D σ H ⟨ρ, σd, S, hR, hE, h⟩ => ?_
  refine lc_fit ?_
  exact stepS hR hE h fun ρ1 H1 d S1 v x1 R1 E1 q1 _ o1 => OutS.nx_here (show OutS (gOf X) W ρ1 H1 D (.nx (σd.set i (some d)) S1) from o1) R1 (E1.set q1)
end
end Mn
set_option maxHeartbeats 4000000
/-! A def as a whole; an empty dict; parallel assignments. -/
namespace Mn
open PySem PySem.Spec PyProof.Rows L2
open Sem (wp)
section
variable {X : Cx} {W : WX}
theorem me_dnew {pos : Pos} : ME X W (.Dict [] [] pos) eD0 := ⟨fun pins s σ H Q I ⟨ρ, σd, S, hR, hE, o⟩ => by
  have hn : H s.heap.objs.size = none := I.hok.fresh (Nat.le_refl _)
  have hd : ({ cls := .type "dict", data := .dict #[] } : Obj).ExactDict := ⟨rfl, rfl, rfl⟩
  have hg := Heap.get?_push_size s.heap (o := { cls := .type "dict", data := .dict #[] }) rfl
  refine wpAny_Dict_empty ⟨.ref s.heap.objs.size, _, I.laid (a := s.heap.objs.size) (o := dtO { cls := .type "dict", data := .dict #[] } s.heap.objs.size) (t' := s.toks) (fun _ _ q => Heap.get?_push_of_some _ q) (Nat.le_refl _) ⟨hg, ⟨_, hg⟩, fun h1 h2 e k => k _ e⟩, rfl, ?_⟩
  exact o _ _ _ (Ext.alloc hn) (hR.alloc hn ⟨_, #[], 0, [], upd_same, hd, rfl, rfl, List.nodup_nil, beq_eq_false_iff_ne.mpr (Ne.symm (Nat.ne_of_lt I.big)), Nat.zero_le _, rfl⟩) (alloc_loc hR)⟩
theorem two_of {K : PySem.W.Frag} {ρ : List Addr} {H : Hp} {d e : D} {vs : List V} (h : RpVs K ρ H [d, e] vs) : ∃ v w, vs = [v, w] ∧ RpV K ρ H d v ∧ RpV K ρ H e w := by
  obtain ⟨v, r, e1, h1, w, r', e2, h2, h3⟩ := h
  rw [show r' = [] from h3] at e2
  rw [e2] at e1
  exact ⟨v, w, e1, h1, h2⟩
theorem three_of {K : PySem.W.Frag} {ρ : List Addr} {H : Hp} {d e f : D} {vs : List V} (h : RpVs K ρ H [d, e, f] vs) : ∃ u v w, vs = [u, v, w] ∧ RpV K ρ H d u ∧ RpV K ρ H e v ∧ RpV K ρ H f w := by
  obtain ⟨u, r, e1, h1, h2⟩ := h
  obtain ⟨v, w, e2, h3, h4⟩ := two_of h2
  rw [e2] at e1
  exact ⟨u, v, w, e1, h1, h3, h4⟩
theorem ms_par {i j n : Nat} {x y : Str} {a b : Expr} {c : EMs} {px py pt pos : Pos} {kt k2 pt2} (hc : X.calm = true) (hN : X.N.Nodup) (hi : X.N[i]? = some x) (hj : X.N[j]? = some y) (ha : MA X W [a, b] c n)
    (hij : i ≠ j := by decide) (hx : X.env.scope.names.lookup x = some .local := by rfl) (hy : X.env.scope.names.lookup y = some .local := by rfl)
    (hw : swappedStores [.Tuple [.Name x px, .Name y py] kt pt] (.Tuple [a, b] k2 pt2) X.env = pure (some [x, y]) := by rfl)
    (hs : swapsWithSole [.Tuple [.Name x px, .Name y py] kt pt] (.Tuple [a, b] k2 pt2) pos.line X.env = pure false := by rfl) :
    MS X W (.Assign [.Tuple [.Name x px, .Name y py] kt pt] (.Tuple [a, b] k2 pt2) pos) (sPar i j c) := by
  refine PS_imp (ps_par hc hN hi hj hij hx hy ha.pa hw hs) fun D σ H ⟨ρ, σd, S, hR, hE, h⟩ => ?_
  refine stepS hR hE h fun ρ1 H1 d S1 v x1 R1 E1 q1 _ o1 => ?_
  split at o1
  · obtain ⟨v, w, e, h1, h2⟩ := two_of q1
    exact ⟨v, w, e, o1.nx_here R1 ((E1.set h1).set h2)⟩
  · exact o1.elim
theorem ms_par3 {i j l n : Nat} {x y z : Str} {a b c : Expr} {cs : EMs} {px py pz pt pos : Pos} {kt k2 pt2} (hc : X.calm = true) (hN : X.N.Nodup) (hi : X.N[i]? = some x) (hj : X.N[j]? = some y) (hl : X.N[l]? = some z) (ha : MA X W [a, b, c] cs n)
    (hij : i ≠ j := by decide) (hil : i ≠ l := by decide) (hjl : j ≠ l := by decide)
    (hx : X.env.scope.names.lookup x = some .local := by rfl) (hy : X.env.scope.names.lookup y = some .local := by rfl) (hz : X.env.scope.names.lookup z = some .local := by rfl)
    (hw : swappedStores [.Tuple [.Name x px, .Name y py, .Name z pz] kt pt] (.Tuple [a, b, c] k2 pt2) X.env = pure (some [x, y, z]) := by rfl)
    (hs : swapsWithSole [.Tuple [.Name x px, .Name y py, .Name z pz] kt pt] (.Tuple [a, b, c] k2 pt2) pos.line X.env = pure false := by rfl) :
    MS X W (.Assign [.Tuple [.Name x px, .Name y py, .Name z pz] kt pt] (.Tuple [a, b, c] k2 pt2) pos) (sPar3 i j l cs) := by
  refine PS_imp (ps_par3 hc hN hi hj hl hij hil hjl hx hy hz ha.pa hw hs) fun D σ H ⟨ρ, σd, S, hR, hE, h⟩ => ?_
  refine stepS hR hE h fun ρ1 H1 d S1 v x1 R1 E1 q1 _ o1 => ?_
  split at o1
  · obtain ⟨u, v, w, e, h1, h2, h3⟩ := three_of q1
    exact ⟨u, v, w, e, o1.nx_here R1 (((E1.set h1).set h2).set h3)⟩
  · exact o1.elim
end
section
variable {X : Cx} {W : WX}
theorem pt_chain3 {op op' op'' : CmpOp} {r r' r'' : L2.R2} {a b c d : Expr} {ta tb tc td : TE} {pos : Pos} (ho : OpR X (compareOp op) r) (ho' : OpR X (compareOp op') r') (ho'' : OpR X (compareOp op'') r'') (ha : PE X a ta) (hb : PE X b tb) (hc : PE X c tc) (hd : PE X d td)
    (hm : lastMarks [op, op', op''] [b, c, d] = false := by with_unfolding_all rfl) : PT X (.Compare a [op, op', op''] [b, c, d] pos) (tTest (tChain3 r r' r'' ta tb tc td)) := by
  refine ⟨fun pins s σ H Q I h => ?_⟩
  refine isTrue_chain (thn (ha.run pins s σ H _ I h) fun v s1 ⟨x, H1, I1, r1, q1⟩ => test_link (thn (hb.run pins s1 σ H1 _ I1 q1) fun u s2 ⟨y, H2, I2, r2, q2⟩ =>
    thn (ho pins s2 σ H2 x y v u _ I2 r1 r2 q2) fun d s3 ⟨z, H3, I3, r3, k, e, q3⟩ => ?_)) hm
  subst e
  cases r3
  refine wpAny_truthy_bool ?_
  cases k with
  | false =>
    obtain ⟨k', e', q'⟩ := q3
    cases e'
    exact ite_ff ⟨H3, I3, q'⟩
  | true =>
    refine ite_tt (test_link (thn (hc.run pins s3 σ H3 _ I3 q3) fun w' s4 ⟨z', H4, I4, r4, q4⟩ => thn (ho' pins s4 σ H4 y z' u w' _ I4 r2 r4 q4) fun d' s5 ⟨z5, H5, I5, r5, k5, e5, q5⟩ => ?_))
    subst e5
    cases r5
    refine wpAny_truthy_bool ?_
    cases k5 with
    | false =>
      obtain ⟨k', e', q'⟩ := q5
      cases e'
      exact ite_ff ⟨H5, I5, q'⟩
    | true =>
      refine ite_tt (test_last (thn (hd.run pins s5 σ H5 _ I5 q5) fun w6 s6 ⟨z6, H6, I6, r6, q6⟩ => thn (ho'' pins s6 σ H6 z' z6 w' w6 _ I6 r4 r6 q6) fun d7 s7 ⟨z7, H7, I7, r7, k7, e7, q7⟩ => ?_))
      subst e7
      cases r7
      exact wpAny_truthy_bool ⟨H7, I7, q7⟩
theorem mt_ch3 {op op' op'' : CmpOp} {f g h : D → D → Store → R D} {a b c d : Expr} {ca cb cc cd : EM} {pos : Pos} (ho : OpR X (compareOp op) (r2 (gOf X) f)) (ho' : OpR X (compareOp op') (r2 (gOf X) g)) (ho'' : OpR X (compareOp op'') (r2 (gOf X) h))
    (ha : ME X W a ca) (hb : ME X W b cb) (hc : ME X W c cc) (hd : ME X W d cd) (hm : lastMarks [op, op', op''] [b, c, d] = false := by with_unfolding_all rfl) : MT X W (.Compare a [op, op', op''] [b, c, d] pos) (eCh3 f g h ca cb cc cd) := by
  refine PT_imp (pt_chain3 ho ho' ho'' ha hb hc hd hm) fun σ H Q ⟨ρ, σd, S, hR, hE, o⟩ => ?_
  unfold cB eCh3 at o
  rw [rB_bind] at o
  refine step hR hE o fun ρ1 H1 d S1 v x1 R1 E1 q1 _ o1 => ?_
  rw [rB_bind] at o1
  refine step R1 E1 o1 fun ρ2 H2 e S2 u x2 R2 E2 q2 _ o2 => ?_
  rw [rB_tst] at o2
  refine r2_test R2 (x2.rp _ _ q1) q2 o2 fun ρ3 H3 b S3 x3 R3 o3 => ⟨b, rfl, ?_⟩
  cases b with
  | true =>
    rw [if_pos rfl]
    rw [rB_bind] at o3
    refine step R3 (E2.ext x3) o3 fun ρ4 H4 e4 S4 u4 x4 R4 E4 q4 _ o4 => ?_
    rw [rB_tst] at o4
    refine r2_test R4 (x4.rp _ _ (x3.rp _ _ q2)) q4 o4 fun ρ5 H5 b S5 x5 R5 o5 => ⟨b, rfl, ?_⟩
    cases b with
    | true =>
      rw [if_pos rfl]
      rw [rB_bind] at o5
      refine step R5 (E4.ext x5) o5 fun ρ6 H6 e6 S6 u6 x6 R6 E6 q6 _ o6 => ?_
      have o7 : Out (gOf X) W rpB ρ6 H6 σ Q ((rB (h e4 e6 S6)).bind fun b S => .ok b S) := by
        cases er : rB (h e4 e6 S6) <;> (rw [er] at o6; exact o6)
      exact r2_test R6 (x6.rp _ _ (x5.rp _ _ q4)) q6 o7 fun ρ8 H8 b S8 x8 R8 o8 => ⟨b, rfl, o8.here R8 rfl⟩
    | false => rw [if_neg Bool.false_ne_true]; exact ⟨false, rfl, o5.here R5 rfl⟩
  | false => rw [if_neg Bool.false_ne_true]; exact ⟨false, rfl, o3.here R3 rfl⟩
theorem takes_no : Takes X WN := takes0
end
/-! ### a def -/
abbrev WF (E : XK) : WX := fun u dx _ H => E u dx H
section
variable {P : Program} {w : World} {K : PySem.W.Frag} {mg : Str → Option Value} {base : Heap}
theorem room0 {k : Nat} {A : Around} (r : Room (4 * k + 3) A) : Room (4 * k) A := r.mono (by omega)
theorem room1 {k : Nat} {A : Around} {e : PySem.Env} (r : Room (4 * k + 3) A) : Room (4 * k) (A.deeper e) := (r.mono (by omega : 4 * k + 1 ≤ _)).deeper e
theorem room2 {k : Nat} {A : Around} {e f : PySem.Env} (r : Room (4 * k + 3) A) : Room (4 * k) ((A.deeper e).deeper f) := ((r.mono (by omega : 4 * k + 2 ≤ _)).deeper e).deeper f
theorem room3 {k : Nat} {A : Around} {e f g : PySem.Env} (r : Room (4 * k + 3) A) : Room (4 * k) (((A.deeper e).deeper f).deeper g) := ((r.deeper e).deeper f).deeper g
abbrev bodyOk (P : Program) (w : World) (K : PySem.W.Frag) (mg : Str → Option Value) (base : Heap) (k : Nat) (x : Str) (st : Stmt) (f : Addr) (N : List Str) (body : SM) : Prop :=
  ∀ (cdv : Value) (A : Around) (outer : List PySem.Env) (s : Shared) (H : Hp) (E : XK), Room (4 * k + 3) (A.deeper (envOfC x (defScope st) s.heap.objs.size f cdv)) → MSs (cxOf (L2.CX P w) P w K mg base N x (defScope st) f cdv A outer s H E) (WF E) (defBody st) body
theorem takes_cx {N : List Str} {qual : Str} {scope : Scope} {f : Addr} {cd : Value} {A : Around} {outer : List PySem.Env} {s : Shared} {H : Hp} {E : XK} : Takes (cxOf (L2.CX P w) P w K mg base N qual scope f cd A outer s H E) (WF E) :=
  takes_of (X := cxOf (L2.CX P w) P w K mg base N qual scope f cd A outer s H E) (E := E) rfl rfl rfl rfl
theorem owns_cx {N : List Str} {qual : Str} {scope : Scope} {f : Addr} {cd : Value} {A : Around} {outer : List PySem.Env} {s : Shared} {H : Hp} {E : XK} :
    PassesOwn (model P w) (cxOf (L2.CX P w) P w K mg base N qual scope f cd A outer s H E).A (cxOf (L2.CX P w) P w K mg base N qual scope f cd A outer s H E).env (cxOf (L2.CX P w) P w K mg base N qual scope f cd A outer s H E).xe :=
  passes_of (X := cxOf (L2.CX P w) P w K mg base N qual scope f cd A outer s H E) (K := fun e s'' => L2.CX P w outer H s E e s'') rfl
theorem units_of {k : Nat} {A : Around} (r : Room k A) : A.units + 64 < cLine := r.units
theorem units1 {k : Nat} {A : Around} (r : Room k A) : A.units + 65 < cLine := by have := r.un; omega
theorem callOk_zero {f : Addr} {fd : FuncData} {x : Str} {ps : List Str} {n : Nat} {g : Fn} (m : mg x = some (.ref f)) (kp : PySem.W.keepIn K (.ref f) = true) (hb : Binds K fd ps []) (hl : ps.length = n) (hg : ∀ ds S, g ds S = .bad) : CallOk P w K mg base 0 x n g := by
  refine ⟨f, fd, ps, m, kp, hl, hb, ⟨fun vs H Q E h => h.1.trans hl.symm, fun A outer s H args us vs Q E hr e0 hbi rv hsp => ?_⟩⟩
  obtain ⟨_, ρ, S, ds, _, _, o⟩ := hsp
  rw [hg] at o
  exact o.elim
theorem env_start {G : Gc} {ρ : List Addr} {H : Hp} {n : Nat} : ∀ {ds : List D} {vs : List V}, RpVs G.K ρ H ds vs → REnv G ρ H (ds.map some ++ List.replicate n none) (vs.map some ++ List.replicate n none) := by
  intro ds vs r
  have hl := r.length
  refine ⟨by simp [hl], fun i d e => ?_⟩
  by_cases hi : i < ds.length
  · rw [List.getElem?_append_left (by simpa using hi), List.getElem?_map] at e
    cases e1 : ds[i]? with
    | none => rw [e1] at e; cases e
    | some d' =>
      rw [e1] at e
      cases e
      obtain ⟨v, hv, rv⟩ := r.get e1
      refine ⟨v, ?_, rv⟩
      rw [List.getElem?_append_left (by simp; omega), List.getElem?_map, hv]
      rfl
  · rw [List.getElem?_append_right (by simp; omega)] at e
    rw [List.getElem?_replicate] at e
    split at e <;> cases e
theorem fnOk_succ {k n : Nat} {x : Str} {st : Stmt} {f : Addr} {fd : FuncData} {N ps : List Str} {body : SM} (F : Fun K x x st f fd) (S : FnScope N ps (defScope st)) (hl : ps.length = n)
    (h : bodyOk P w K mg base k x st f N body) : FnOk P w K mg base (L2.CX P w) (4 * (k + 1)) f fd ps (spF ⟨P, w, K, mg⟩ n (mkFn n N.length body)) := by
  show FnOk P w K mg base (L2.CX P w) ((4 * k + 3) + 1) f fd ps _
  refine F.okX S (fun vs H Q E h => h.1.trans hl.symm) fun cdv A outer s H vs Q E hr ⟨hlen, ρ, S0, ds, hR, hd, o⟩ => ⟨_, h cdv A outer s H E hr, ?_⟩
  have hdl : ds.length = n := by rw [← hlen, hd.length]
  unfold mkFn at o
  rw [if_pos hdl] at o
  have hst : start N vs = vs.map some ++ List.replicate (N.length - n) none := by rw [← hlen]; rfl
  refine ⟨ρ, _, S0, hR, by rw [hst]; exact env_start hd, ?_⟩
  cases eb : body (ds.map some ++ List.replicate (N.length - n) none) S0 with
  | nx σ1 S1 => rw [eb] at o; exact fun ρ' H' σ' y r q => o ρ' H' .non y r rfl
  | rt v S1 => rw [eb] at o; exact o
  | exc z σ1 S1 => rw [eb] at o; exact fun ρ' H' σ' u dx y r q z => o ρ' H' u dx y r z
  | bad => rw [eb] at o; exact o.elim
theorem callOk_succ {k n : Nat} {x : Str} {st : Stmt} {f : Addr} {fd : FuncData} {N ps : List Str} {body : SM} (m : mg x = some (.ref f)) (F : Fun K x x st f fd) (hb : Binds K fd ps []) (S : FnScope N ps (defScope st)) (hl : ps.length = n)
    (h : bodyOk P w K mg base k x st f N body) : CallOk P w K mg base (4 * (k + 1)) x n (mkFn n N.length body) := ⟨f, fd, ps, m, F.kp, hl, hb, fnOk_succ F S hl h⟩
end
end Mn
set_option maxHeartbeats 4000000
/-! Dicts of tuple keys: written, asked with a default, merged, copied, counted, listed. -/
namespace Mn
open PySem PySem.Spec PyProof.Rows L2
open Sem (wp)
/-! ### {k: v} -/
def eD1 (ck cv : EM) : EM := fun σ S => (ck σ (S ++ [.dt []])).bind fun x S1 => (cv σ S1).bind fun v S2 => match S2[S.length]?, tkey x with
  | some (.dt []), some k => .ok (.loc S.length) (S2.set S.length (.dt [(k, v)]))
  | _, _ => .bad
section
variable {X : Cx} {W : WX}
theorem room_a {k : NestedKey} (hu : X.A.units + 64 < cLine) : (nk X).room X.A := by show X.A.units + 8 < cLine; omega
theorem key_is {ρ : List Addr} {pins : List (Addr × Obj)} {s : Shared} {σ : L2.St} {H : Hp} {x : D} {k : NestedKey} {v : V} {u : Value} (I : Inv X pins σ H s) (ek : tkey x = some k) (hx : RpV X.K ρ H x v) (r : RelV v u) :
    ∃ b, u = .ref b ∧ v = .ref b ∧ (nk X).is s.heap k b ∧ k.depth ≤ 8 ∧ RpV X.K ρ H (ofKey k) (.ref b) := by
  obtain ⟨ek, kd, ds, rfl⟩ := tkey_of ek
  have hb := id hx
  obtain ⟨b, vs, rfl, _⟩ := hb
  cases r
  exact ⟨b, rfl, rfl, ⟨nested_of I k (V.ref b) (Value.ref b) (by rw [ek]; exact hx) rfl, kd⟩, kd, by rw [ek]; exact hx⟩
theorem new_dt {pins : List (Addr × Obj)} {s : Shared} {σ : L2.St} {H : Hp} {ρ : List Addr} {S : Store} (I : Inv X pins σ H s) (hR : Rel (gOf X) ρ H S) :
    ∃ H1, Inv X pins σ H1 { s with heap := s.heap.push { cls := .type "dict", data := .dict #[] } } ∧ Ext ρ H (ρ ++ [s.heap.objs.size]) H1 ∧ Rel (gOf X) (ρ ++ [s.heap.objs.size]) H1 (S ++ [.dt []]) := by
  have hn : H s.heap.objs.size = none := I.hok.fresh (Nat.le_refl _)
  have hd : ({ cls := .type "dict", data := .dict #[] } : Obj).ExactDict := ⟨rfl, rfl, rfl⟩
  have hg := Heap.get?_push_size s.heap (o := { cls := .type "dict", data := .dict #[] }) rfl
  refine ⟨_, I.laid (a := s.heap.objs.size) (o := dtO { cls := .type "dict", data := .dict #[] } s.heap.objs.size) (t' := s.toks) (fun _ _ q => Heap.get?_push_of_some _ q) (Nat.le_refl _) ⟨hg, ⟨_, hg⟩, fun h1 h2 e k => k _ e⟩, Ext.alloc hn, ?_⟩
  exact hR.alloc hn ⟨_, #[], 0, [], upd_same, hd, rfl, rfl, List.nodup_nil, beq_eq_false_iff_ne.mpr (Ne.symm (Nat.ne_of_lt I.big)), Nat.zero_le _, rfl⟩
theorem me_d1 {k v : Expr} {ck cv : EM} {pos : Pos} (hu : X.A.units + 64 < cLine) (hk : ME X W k ck) (hv : ME X W v cv) : ME X W (.Dict [some k] [v] pos) (eD1 ck cv) := by
  refine ⟨fun pins s σ H Q I ⟨ρ, σd, S, hR, hE, o⟩ => ?_⟩
  obtain ⟨H1, I1, x1, R1⟩ := new_dt I hR
  have hl := hR.len
  unfold eD1 at o
  replace o := o.carry x1
  have hn := pairTrees_length [some k] [v] X.env pos rfl rfl
  rw [arm_eval_Dict, zip_pairTrees [some k] [v] X.env pos rfl rfl, dictDisplay_pairs _ (by intro z; rw [z] at hn; cases hn) (by rw [hn]; show 1 < 17; omega)]
  refine wpAny_bind (wpAny_standAt (wpAny_bind (wpAny_subDictH (knd := nk X) (Q := fun d s' => wpAny (model X.prog X.w) X.A (pure (Value.ref d)) (EP X pins σ Q) X.xe s') (room_a (k := .none) hu) (by rw [hn]; show 1 ≤ 15; omega) ?_)))
  refine thn ((pps_cons hk hv pps_nil).run pins _ σ H1 (fun ps H4 => ∃ ρ4 S4 x v kx vx k, ps = [(vx, v)] ∧ Ext (ρ ++ [s.heap.objs.size]) H1 ρ4 H4 ∧ Rel (gOf X) ρ4 H4 S4 ∧ RpV X.K ρ4 H4 x vx ∧ RpV X.K ρ4 H4 kx v ∧ S4[S.length]? = some (.dt []) ∧ tkey x = some k ∧ Out (gOf X) W (rpV (gOf X)) ρ4 H4 σ Q (.ok (.loc S.length) (S4.set S.length (.dt [(k, kx)])))) I1 ?_) fun ws s2 ⟨ps, H2, I2, rel, q2⟩ => ?_
  · refine step R1 (hE.ext x1) o fun ρ2 H2 x S2 vx x2 R2 E2 rx _ o2 => ?_
    refine step R2 E2 o2 fun ρ3 H3 v S3 vv x3 R3 E3 rv _ o3 => ?_
    split at o3
    · rename_i e1 e2
      exact ⟨ρ3, S3, x, vv, v, vx, _, rfl, x2.trans x3, R3, x3.rp _ _ rx, rv, e1, e2, o3⟩
    · exact o3.elim
  · obtain ⟨ρ4, S4, x, v, kx, vx, k, rfl, x4, R4, rx, rv, e4, ek, o4⟩ := q2
    cases rel with
    | @cons _ wv _ _ h t =>
      cases t
      obtain ⟨w1, w2⟩ := wv
      obtain ⟨h1, h2⟩ := h
      simp only at h1 h2
      obtain ⟨b, rfl, rfl, hi, hd, rb⟩ := key_is I2 ek rx h1
      have el : (ρ ++ [s.heap.objs.size])[S.length]? = some s.heap.objs.size := by rw [← hl]; simp
      obtain ⟨a, o, xs, ea, eaρ, hH, hx, hsm, hz, hm⟩ := R4.dt e4 ⟨_, x4.loc el, rfl⟩
      cases ea
      rw [show xs = [] from hx] at hm
      obtain ⟨hm1, hg, he⟩ := hm I2
      refine ⟨[(k, b, w2)], ⟨rfl, rfl, hi, True.intro⟩, hm1, fun h' tk hd' hs' => wpAny_pure ?_⟩
      obtain ⟨H', I', x', R'⟩ := dt_write (kvs := [(k, kx)]) (t' := tk) I2 R4 eaρ hH hsm hd' hs' ⟨b, w2, v, [], rfl, hd, rb, h2, rv, rfl⟩ (by show 1 ≤ sizeLine; rw [sizeLine_eq]; omega)
      exact ⟨.ref s.heap.objs.size, H', I', rfl, o4 ρ4 H' _ x' R' ⟨_, eaρ, rfl⟩⟩
/-! ### methods of such a dict -/
def isD (d : D) (S : Store) : Bool := match d with
  | .loc l => match S[l]? with
    | some o => o.dict?.isSome
    | none => false
  | _ => false
theorem isD_of {ρ : List Addr} {pins : List (Addr × Obj)} {s : Shared} {σ : L2.St} {H : Hp} {S : Store} {d : D} {v : V} {u : Value} (I : Inv X pins σ H s) (hR : Rel (gOf X) ρ H S) (hd : RpV X.K ρ H d v) (r : RelV v u) (h : isD d S = true) :
    s.TypeIs u "dict" ∧ ∀ a, u = .ref a → ∃ ob, s.heap.get? a = some ob ∧ ob.dict = none := by
  unfold isD at h
  split at h
  · split at h
    · rename_i ob e
      obtain ⟨kvs, eo⟩ := Option.isSome_iff_exists.mp h
      obtain ⟨a, xs, rfl, ea, hx, hsm, hz, hm⟩ := hR.dx e eo hd
      cases r
      obtain ⟨o, es, ep, q1, q2, q3, _⟩ := hm I
      exact ⟨⟨o, q1, q2.1⟩, fun a' e' => by cases e'; exact ⟨o, q1, q2.2.1⟩⟩
    · cases h
  · cases h
theorem me_MD {id : String} {name : Str} {f : List D → Store → R D} {o e : Expr} {es : List Expr} {co : EM} {cs : EMs} {n : Nat} {apos cpos : Pos} (slot : Slot "dict" name id) (hty : typeOf (.builtin id) = pure (.type "method_descriptor"))
    (hm : MtR X id (fun x xs H Q => rF (gOf X) f (x :: xs) H Q)) (ho : ME X W o co) (ha : MA X W (e :: es) cs n)
    (hbase : attributeBase o name X.env (eval o X.env) = eval o X.env := by rfl)
    (hfew : ((backTo cpos (starEach (e :: es) X.env)).all (fun x => !x.1) && (backToKw cpos (keywordEach [] X.env)).all (fun x => x.1.isSome)
      && decide ((e :: es).length + ([] : List Keyword).length + (if ([] : List Keyword).isEmpty then 0 else 1) < 30)) = true := by rfl)
    (hline : (apos.endLine == cpos.line) = true := by rfl) (hs : starEach (e :: es) X.env = (false, eval e X.env) :: starEach es X.env := by rfl) (hplain : (backTo cpos (starEach es X.env)).any (·.1) = false := by rfl) :
    ME X W (.Call (.Attribute o name apos) (e :: es) [] cpos) (eM isD f co cs) := by
  refine ⟨fun pins s σ H Q I ⟨ρ, σd, S, hR, hE, h⟩ => ?_⟩
  refine wpAny_Call_method_late hbase hfew hline rfl (thn (ho.run pins s σ H (fun x H1 => ∃ ρ1 S1 d, Rel (gOf X) ρ1 H1 S1 ∧ REnv (gOf X) ρ1 H1 σd σ ∧ RpV X.K ρ1 H1 d x ∧ isD d S1 = true ∧ Out (gOf X) W (rpV (gOf X)) ρ1 H1 σ Q ((cs σd S1).bind fun ds S2 => f (d :: ds) S2)) I ?_) fun v s1 ⟨x, H1, I1, r1, ρ1, S1, d, R1, E1, q1, hc, o1⟩ => ?_)
  · refine step hR hE h fun ρ1 H1 d S1 v x1 R1 E1 q1 _ o1 => ?_
    obtain ⟨hc, o1⟩ := o1.ite
    exact ⟨ρ1, S1, d, R1, E1, q1, hc, o1⟩
  · obtain ⟨h1, h2⟩ := isD_of I1 R1 q1 r1 hc
    refine ⟨"dict", id, PySem.F.plainAttrs_dict, slot, hty, h1, h2, ?_⟩
    have hA := ha.pa.run cpos pins s1 σ H1 (fun vs H2 => rF (gOf X) f (x :: vs) H2 Q) I1 (step R1 E1 o1 fun ρ2 H2 ds S2 vs x2 R2 E2 q2 _ o2 => ⟨ρ2, S2, d :: ds, R2, ⟨x, vs, rfl, x2.rp _ _ q1, q2⟩, o2.wt⟩)
    rw [hs] at hA ⊢
    refine Calls.callWith_builtin (by show (false || (backTo cpos (starEach es X.env)).any (·.1)) = false; rw [hplain] <;> rfl) (Calls.evalArgs_plain ?_)
    exact thn hA fun us s2 ⟨vs, H2, I2, r2, q2⟩ => hm pins s2 σ H2 x vs v us Q I2 r1 r2 q2
def mGet2 : List D → Store → R D
  | [.loc l, x, y], S => match S[l]? with
    | some o => match o.dict?, tkey x with
      | some kvs, some k => .ok ((kvs.lookup k).getD y) S
      | _, _ => .bad
    | none => .bad
  | _, _ => .bad
theorem three_v {us : List Value} {v u w : V} (r : Vals [v, u, w] us) : ∃ a b c, us = [a, b, c] ∧ RelV v a ∧ RelV u b ∧ RelV w c := by
  cases r with
  | cons h1 t => cases t with
    | cons h2 t => cases t with
      | cons h3 t => cases t; exact ⟨_, _, _, rfl, h1, h2, h3⟩
theorem two_v {us : List Value} {v u : V} (r : Vals [v, u] us) : ∃ a b, us = [a, b] ∧ RelV v a ∧ RelV u b := by
  cases r with
  | cons h1 t => cases t with
    | cons h2 t => cases t; exact ⟨_, _, rfl, h1, h2⟩
theorem mr_get2 (hu : X.A.units + 64 < cLine) : MtR X "dict.get" (fun x xs H Q => rF (gOf X) mGet2 (x :: xs) H Q) := by
  intro pins s σ H x xs v us Q I rx rs ⟨ρ, S, ds, hR, hd, q⟩
  unfold mGet2 at q
  split at q
  · rename_i l kx y
    split at q
    · rename_i ob e0
      split at q
      · rename_i kvs k eo ek
        obtain ⟨x0, x1, x2, e, h1, h2, h3⟩ := three_of hd
        simp only [List.cons.injEq] at e
        obtain ⟨rfl, rfl⟩ := e
        obtain ⟨a, ys, rfl, ea, hx, hsm, hz, hm⟩ := hR.dx e0 eo h1
        cases rx
        obtain ⟨u1, u2, rfl, r1, r2⟩ := two_v rs
        obtain ⟨b, rfl, rfl, hi, _, _⟩ := key_is I ek h2 r1
        refine call_meetsIn F.slot_dict_get (hm I).typeIs F.entry_dict_get (F.args_dict_get_3 _ _ _) (meetsH_dict_get_default (nk X) a b hsm u2) ⟨depth_room (k := k) hu, k, ys, hi, hm I, ?_⟩
        rcases xt_at k hx with ⟨e1, e2⟩ | ⟨d', p, v', e1, e2, e3, e4⟩
        · rw [e1] at q
          rw [e2]
          exact ⟨x2, H, I.tok _, r2, q.here hR h3⟩
        · rw [e1] at q
          rw [e2]
          exact ⟨v', H, I.tok _, e3, q.here hR e4⟩
      · exact q.elim
    · exact q.elim
  · exact q.elim
/-- one dict put into another -/
def kputs (a b : List (NestedKey × D)) : List (NestedKey × D) := b.foldl (fun acc p => kput acc p.1 p.2) a
theorem xt_puts {K : PySem.W.Frag} {ρ : List Addr} {H : Hp} : ∀ {more : List (NestedKey × D)} {ys : List (NestedKey × Addr × Value)} {kvs : List (NestedKey × D)} {xs : List (NestedKey × Addr × Value)}, XtR K ρ H more ys → XtR K ρ H kvs xs → XtR K ρ H (kputs kvs more) (storedAllH xs ys)
  | [], ys, kvs, xs, h, q => by rw [show ys = [] from h]; exact q
  | p :: ps, ys, kvs, xs, h, q => by
    obtain ⟨b, u, v, r, rfl, z, h1, ru, h2, h3⟩ := h
    exact xt_puts (kvs := kput kvs p.1 p.2) (xs := storedH xs p.1 b u) h3 (xt_put z h1 ru h2 q)
theorem kput_le (kvs : List (NestedKey × D)) (k : NestedKey) (v : D) : (kput kvs k v).length ≤ kvs.length + 1 := by
  unfold kput
  split
  · rw [List.length_map]; omega
  · rw [List.length_append]; exact Nat.le_refl _
theorem kputs_le : ∀ (b a : List (NestedKey × D)), (kputs a b).length ≤ a.length + b.length
  | [], a => Nat.le_refl _
  | p :: b, a => by
    have h1 := kputs_le b (kput a p.1 p.2)
    have h2 := kput_le a p.1 p.2
    show (kputs (kput a p.1 p.2) b).length ≤ a.length + (b.length + 1)
    omega
def mUpdate : List D → Store → R D
  | [.loc l, .loc m], S => match S[l]?, S[m]? with
    | some (.dt a), some (.dt b) => if l ≠ m ∧ (a ≠ [] ∨ b = []) ∧ a.length + b.length ≤ sizeLine then .ok .non (S.set l (.dt (kputs a b))) else .bad
    | _, _ => .bad
  | _, _ => .bad
theorem mr_update (hu : X.A.units + 64 < cLine) : MtR X "dict.update" (fun x xs H Q => rF (gOf X) mUpdate (x :: xs) H Q) := by
  intro pins s σ H x xs v us Q I rx rs ⟨ρ, S, ds, hR, hd, q⟩
  unfold mUpdate at q
  split at q
  · rename_i l m
    split at q
    · rename_i A B e0 e1
      obtain ⟨⟨c1, c2, c3⟩, q⟩ := q.ite
      obtain ⟨x0, x1, e, h1, h2⟩ := two_of hd
      simp only [List.cons.injEq] at e
      obtain ⟨rfl, rfl⟩ := e
      obtain ⟨a, oa, ys, rfl, ea, hH, hx, hsm, hz, hm⟩ := hR.dt e0 h1
      obtain ⟨b, ob, zs, rfl, eb, hHb, hxb, hsmb, hzb, hmb⟩ := hR.dt e1 h2
      cases rx
      obtain rfl := Vals.ref1 rs
      have hab : a ≠ b := fun z => c1 (hR.inj ea (by rw [z]; exact eb))
      have l1 := xt_len hx
      have l2 := xt_len hxb
      refine call_update_dictH (knd := nk X) (kvs := ys) (more := zs) (depth_room (k := .none) hu) hab hsmb (hm I).1 (hmb I).1 ?_ (by omega) fun h' hd' _ hs' => ?_
      · rcases c2 with c2 | c2
        · exact .inl fun z => c2 (by rw [z] at l1; exact List.eq_nil_of_length_eq_zero l1.symm)
        · refine .inr ?_
          rw [c2] at l2
          rw [List.eq_nil_of_length_eq_zero l2]
          exact ⟨(fun _ h => nomatch h), List.nodup_nil⟩
      · have hx' := xt_puts hxb hx
        obtain ⟨H', I', x', R'⟩ := dt_write (t' := s.toks) I hR ea hH hsm hd' hs' hx' (by have := kputs_le B A; rw [xt_len hx']; omega)
        exact ⟨.non, H', I', rfl, q ρ H' _ x' R' rfl⟩
    · exact q.elim
  · exact q.elim
/-! ### len -/
def bLenD : D → Store → R D := fun d S => match d with
  | .loc l => match S[l]? with
    | some o => match o.dict? with
      | some kvs => .ok (.int kvs.length) S
      | none => .bad
    | none => .bad
  | _ => .bad
theorem cr_lenD : CallR X (.builtin "len") (rF (gOf X) (on1 bLenD)) := by
  intro pins s σ H vs us Q I rv ⟨ρ, S, ds, hR, hd, q⟩
  obtain ⟨d, v, rfl, hd, q⟩ := q.on1 hd
  unfold bLenD at q
  split at q
  · split at q
    · rename_i e0
      split at q
      · rename_i kvs eo
        obtain ⟨a, ys, rfl, ea, hx, hsm, hz, hm⟩ := hR.dx e0 eo hd
        rw [Vals.ref1 rv]
        have hl := xt_len hx
        refine call_len_dictH hsm (hm I) (by rw [sizeLine_eq] at hz; omega) ?_
        rw [hl]
        exact ⟨.int _, H, I.tok _, ⟨_, rfl⟩, q.here hR rfl⟩
      · exact q.elim
    · exact q.elim
  · exact q.elim
end
end Mn
set_option maxHeartbeats 4000000
/-! dict(..), list(d), sorted(d), sorted(d.items()). -/
namespace Mn
open PySem PySem.Spec PyProof.Rows L2
open Sem (wp)
def pairsD : List D → Option (List (NestedKey × D))
  | [] => some []
  | .tup [x, v] :: r => match tkey x, pairsD r with
    | some k, some ps => some ((k, v) :: ps)
    | _, _ => none
  | _ => none
def addrOr : Value → Addr
  | .ref a => a
  | _ => 0
section
variable {X : Cx} {W : WX}
theorem pairs_at {ρ : List Addr} {pins : List (Addr × Obj)} {s : Shared} {σ : L2.St} {H : Hp} (I : Inv X pins σ H s) : ∀ {xs : List D} {kvs : List (NestedKey × D)} {vs : List V} {its : List Value}, pairsD xs = some kvs → RpVs X.K ρ H xs vs → Vals vs its →
    ∃ hs : List (NestedKey × Addr × Value), XtR X.K ρ H kvs hs ∧ its.length = hs.length ∧ (∀ x ∈ hs, (nk X).is s.heap x.1 x.2.1) ∧ ∀ (j : Nat) (k : NestedKey) (b : Addr) (v : Value), hs[j]? = some (k, b, v) → ∃ T : Addr, its[j]? = some (Value.ref T) ∧ PairAt s.heap T (.ref b) v := by
  intro xs
  induction xs with
  | nil =>
    intro kvs vs its e h r
    cases e
    rw [show vs = [] from h] at r
    cases r
    exact ⟨[], rfl, rfl, (fun _ h => nomatch h), fun j k b v e => by simp at e⟩
  | cons x xs ih =>
    intro kvs vs its e h r
    unfold pairsD at e
    split at e
    · rename_i e0; cases e0
    · rename_i kx v r' e0
      simp only [List.cons.injEq] at e0
      obtain ⟨rfl, rfl⟩ := e0
      split at e
      · rename_i k ps ek ep
        cases e
        obtain ⟨vt, rv, rfl, h1, h2⟩ := h
        cases r with
        | @cons _ ut _ _ r1 r2 =>
          obtain ⟨T, vs2, rfl, tT, _, rT⟩ := h1
          cases r1
          obtain ⟨v1, v2, e1, q1, q2⟩ := two_of rT
          subst e1
          obtain ⟨its2, rv2, pt, hz⟩ := I.tuple tT.sq
          obtain ⟨u1, u2, rfl, ru1, ru2⟩ := two_v rv2
          obtain ⟨b, rfl, rfl, hi, hd, rb⟩ := key_is I ek q1 ru1
          obtain ⟨hs, a1, a2, a3, a4⟩ := ih ep h2 r2
          refine ⟨(k, b, u2) :: hs, ⟨b, u2, v2, hs, rfl, hd, rb, ru2, q2, a1⟩, by simp [a2], fun x hx => ?_, fun j k' b' v' e => ?_⟩
          · rcases List.mem_cons.mp hx with rfl | hx
            · exact hi
            · exact a3 x hx
          · cases j with
            | zero =>
              simp only [List.getElem?_cons_zero, Option.some.injEq, Prod.mk.injEq] at e
              obtain ⟨rfl, rfl, rfl⟩ := e
              exact ⟨T, rfl, .inl pt⟩
            | succ j => exact a4 j k' b' v' (by simpa using e)
      · cases e
    · cases e
/-- dict(xs) of a list of pairs -/
def bDictL : D → Store → R D := fun d S => match d with
  | .loc l => match S[l]? with
    | some (.lst xs) => match pairsD xs with
      | some ps => .ok (.loc S.length) (S ++ [.dt (kputs [] ps)])
      | none => .bad
    | _ => .bad
  | _ => .bad
theorem nodup_H {h : Heap} {d : Addr} {xs : List (NestedKey × Addr × Value)} (x : h.DictOfH (nk X) d xs) : (xs.map (·.1)).Nodup := let ⟨_, _, _, _, _, _, _, _, hn⟩ := x; hn
/-- a dict just made is a place -/
theorem Out.newD {W' : WX} {ρ : List Addr} {pins : List (Addr × Obj)} {s : Shared} {σ σ' : L2.St} {H : Hp} {S : Store} {Q : VK} {kvs : List (NestedKey × D)} {xs : List (NestedKey × Addr × Value)} {h' : Heap} {tk : Nat} (q : Out (gOf X) W' (rpV (gOf X)) ρ H σ' Q (.ok (.loc S.length) (S ++ [.dt kvs]))) (I : Inv X pins σ H s) (hR : Rel (gOf X) ρ H S)
    (hm : h'.DictOfH (nk X) s.heap.objs.size xs) (hk : ∀ b o, s.heap.get? b = some o → h'.get? b = some o) (hx : XtR X.K ρ H kvs xs) (hz : xs.length ≤ sizeLine) : EP X pins σ Q (.ref s.heap.objs.size) { s with heap := h', toks := tk } := by
  have hn : H s.heap.objs.size = none := I.hok.fresh (Nat.le_refl _)
  obtain ⟨o', es, ep, q1, q2, q3, q4, q5, q6⟩ := id hm
  refine ⟨.ref s.heap.objs.size, upd H s.heap.objs.size (dtO o' s.heap.objs.size), I.laid (a := s.heap.objs.size) (t' := tk) hk (Nat.le_refl _) ⟨q1, ⟨_, q1⟩, fun h1 h2 e k => k _ e⟩, rfl, ?_⟩
  exact q _ _ _ (Ext.alloc hn) (hR.alloc hn ⟨o', es, ep, xs, upd_same, q2, q3, q4, q6, beq_eq_false_iff_ne.mpr (Ne.symm (Nat.ne_of_lt I.big)), hz, (Ext.alloc hn).xt hx⟩) (alloc_loc hR)
theorem cr_dictL (hc : X.calm = true) (hu : X.A.units + 64 < cLine) : CallR X (.type "dict") (rF (gOf X) (on1 bDictL)) := by
  intro pins s σ H vs us Q I rv ⟨ρ, S, ds, hR, hd, q⟩
  obtain ⟨d, v, rfl, hd, q⟩ := q.on1 hd
  unfold bDictL at q
  split at q
  · split at q
    · rename_i xs e0
      split at q
      · rename_i ps e1
        obtain ⟨a, vs, rfl, _, ha, ra, hz⟩ := hR.lst e0 hd
        obtain ⟨its, r, pl, _⟩ := I.list (SqL.of ha)
        obtain ⟨hs, a1, a2, a3, a4⟩ := pairs_at I e1 ra r
        rw [Vals.ref1 rv]
        have l1 := ra.length
        have l2 := r.length
        have hpl : PlainSeq "list" s.heap a its.toArray := by
          obtain ⟨_, n, e, c, hd, _⟩ := pl
          exact ⟨_, n, e, c, hd, ‹_›⟩
        have hti : PairItems s.heap its.toArray (fun j => addrOr (its.getD j .none)) (hs.map fun x => (.ref x.2.1, x.2.2)) := by
          refine ⟨by simpa using a2, fun j k v e => ?_⟩
          rw [List.getElem?_map] at e
          obtain ⟨⟨k', b, v'⟩, e1, e2⟩ := Option.map_eq_some_iff.mp e
          simp only [Prod.mk.injEq] at e2
          obtain ⟨rfl, rfl⟩ := e2
          obtain ⟨T, e3, e4⟩ := a4 j k' b v' e1
          have e5 : its.getD j .none = .ref T := by rw [List.getD_eq_getElem?_getD, e3]; rfl
          show its.toArray[j]? = some (Value.ref (addrOr (its.getD j .none))) ∧ PairAt s.heap (addrOr (its.getD j .none)) (Value.ref b) v'
          rw [e5]
          exact ⟨by simpa [addrOr] using e3, e4⟩
        refine call_dict_pairsH (knd := nk X) (ps := hs) (PairArg.list a its.toArray (fun j => addrOr (its.getD j .none)) (hs.map fun x => (.ref x.2.1, x.2.2))) (I.ok.hd hc) (by show X.A.units + 1 + 1 + 8 < cLine; omega) ⟨hpl, hti⟩ ?_ ?_ ?_ fun h' tk hd' hk => ?_
        · refine ⟨by simp, fun i key v e => ?_⟩
          have e : (hs.map fun x => ((Value.ref x.2.1, x.2.2) : Value × Value))[i]? = some (key, v) := e
          rw [List.getElem?_map] at e
          obtain ⟨⟨k', b, v'⟩, e1, e2⟩ := Option.map_eq_some_iff.mp e
          simp only [Prod.mk.injEq] at e2
          obtain ⟨rfl, rfl⟩ := e2
          exact ⟨k', b, e1, rfl⟩
        · intro h' hk x hx
          refine nestedKind_stays.stays (fun b o vs n e _ => ?_) (a3 x hx)
          exact hk b o (Nat.ne_of_lt (Heap.lt_size e)) (fun z => nomatch z) e
        · simp only [List.length_map]; omega
        · have hx' := xt_puts a1 (show XtR X.K ρ H [] [] from rfl)
          exact q.newD I hR hd' (fun b o e => hk b o (fun z => nomatch z) e) hx' (by
            have h1 := kputs_le ps []
            have h2 := xt_len a1
            rw [xt_len hx']
            simp only [List.length_nil] at h1
            omega)
      · exact q.elim
    · exact q.elim
  · exact q.elim
end
/-! ### a copy: keys that hash apart -/
mutual
def noTxt : NestedKey → Bool
  | .none => true
  | .num _ => true
  | .text _ => false
  | .tup ks => noTxts ks
def noTxts : List NestedKey → Bool
  | [] => true
  | k :: ks => noTxt k && noTxts ks
end
mutual
def nh : NestedKey → Int
  | .none => reduceHash 0xFCA86420
  | .num i => hashInt i
  | .text _ => 0
  | .tup ks => reduceHash (Builtin.Tuple.tupleHashOf (nhs ks))
def nhs : List NestedKey → List Int
  | [] => []
  | k :: ks => nh k :: nhs ks
end
mutual
theorem nh_eq (w : World) : ∀ k : NestedKey, noTxt k = true → k.hash w = nh k
  | .none, _ => by simp [NestedKey.hash, nh]
  | .num _, _ => by simp [NestedKey.hash, nh]
  | .text _, h => by simp [noTxt] at h
  | .tup ks, h => by
    simp only [noTxt] at h
    simp only [NestedKey.hash, nh, nhs_eq w ks h]
theorem nhs_eq (w : World) : ∀ ks : List NestedKey, noTxts ks = true → NestedKey.hashes w ks = nhs ks
  | [], _ => by simp [NestedKey.hashes, nhs]
  | k :: ks, h => by
    simp only [noTxts, Bool.and_eq_true] at h
    simp only [NestedKey.hashes, nhs, nh_eq w k h.1, nhs_eq w ks h.2]
end
def apartD (kvs : List (NestedKey × D)) : Prop := (∀ p ∈ kvs, noTxt p.1 = true) ∧ (kvs.map fun p => nh p.1).Nodup
instance (kvs : List (NestedKey × D)) : Decidable (apartD kvs) := by unfold apartD; infer_instance
/-- dict(d) -/
def bDictD : D → Store → R D := fun d S => match d with
  | .loc l => match S[l]? with
    | some o => match o.dict? with
      | some kvs => if apartD kvs then .ok (.loc S.length) (S ++ [.dt kvs]) else .bad
      | none => .bad
    | none => .bad
  | _ => .bad
section
variable {X : Cx} {W : WX}
theorem call_dictH {prog : Program} {w : World} {A : Around} {E : Value → Shared → Prop} {s : Shared} {o : Addr} {more : List (NestedKey × Addr × Value)} {Q : Value → Shared → Prop} (hu : (nestedKind prog w).room A.in1.in1) (hoS : (o == sysModules) = false) (ho : s.heap.DictOfH (nestedKind prog w) o more) (hsz : more.length ≤ sizeLine)
    (hap : (more.map fun x => (nestedKind prog w).hash x.1).Nodup) (h : ∀ h', h'.DictOfH (nestedKind prog w) s.heap.objs.size more → (∀ b u, s.heap.get? b = some u → h'.get? b = some u) → Q (.ref s.heap.objs.size) { s with heap := h' }) :
    wpAny (model prog w) A (call (.type "dict") [.ref o]) Q E s := by
  refine callType_codes (Q₁ := fun r s' => r = .ref s.heap.objs.size ∧ s' = { s with heap := s.heap.push { cls := .type "dict", data := .dict #[] } }) F.kt_called_dict (F.kt_typeCall_dict_1 _) F.entry_dict_init (kt_code_dict_new _ ⟨rfl, rfl⟩) ?_
  rintro r s' ⟨rfl, rfl⟩
  have fresh : Heap.DictOfH (nestedKind prog w) (s.heap.push { cls := .type "dict", data := .dict #[] }) s.heap.objs.size [] := Heap.DictOfH.new s.heap
  have stay : ∀ h' : Heap, (∀ b u, s.heap.get? b = some u → h'.get? b = some u) → ∀ x ∈ more, (nestedKind prog w).is h' x.1 x.2.1 := fun h' hk x hx => by
    obtain ⟨_, _, _, _, _, _, _, q, _⟩ := id ho
    exact nestedKind_stays.stays (fun b u _ _ e _ => hk b u e) (q x hx)
  have kp : ∀ b u, s.heap.get? b = some u → (s.heap.push { cls := .type "dict", data := .dict #[] }).get? b = some u := fun b u e => Heap.get?_push_of_some _ e
  have old : Heap.DictOfH (nestedKind prog w) (s.heap.push { cls := .type "dict", data := .dict #[] }) o more := by
    obtain ⟨ob, es, ep, q1, q2, q3, q4, _, q6⟩ := id ho
    exact ⟨ob, es, ep, kp _ _ q1, q2, q3, q4, stay _ kp, q6⟩
  have ne : s.heap.objs.size ≠ o := by
    obtain ⟨_, _, _, q1, _⟩ := id ho
    exact fun z => Nat.lt_irrefl _ (z ▸ Heap.lt_size q1)
  have ty : ∀ x ∈ more, Shared.TypeIs { s with heap := s.heap.push { cls := .type "dict", data := .dict #[] } } (.ref x.2.1) "tuple" := fun x hx => nestedKind_stays.tuple (prog := prog) (w := w) (k := x.1) (stay _ kp x hx)
  refine ⟨fresh.typeIs, F.args_dict_init_2 _ _, ?_⟩
  unfold Builtin.«dict.__init__» Builtin.Dict.selfAndRest
  refine wpAny_bind (wpAny_bind (wpAny_notOrdered_dict fresh.typeIs (wpAny_pure ?_)))
  refine updateFrom_dictH (A := A.in1) .none hu ne hoS fresh old (.inr ⟨ty, hap⟩) (by simpa using hsz) fun h' hd' _ hs' => ⟨rfl, ?_⟩
  rw [storedAllH_nil_of_nodup more (by obtain ⟨_, _, _, _, _, _, _, _, q⟩ := id ho; exact q)] at hd'
  exact h h' hd' fun b u e => (hs'.2 b (Nat.ne_of_lt (Heap.lt_size e))).trans (kp b u e)
theorem cr_dictD (hu : X.A.units + 64 < cLine) : CallR X (.type "dict") (rF (gOf X) (on1 bDictD)) := by
  intro pins s σ H vs us Q I rv ⟨ρ, S, ds, hR, hd, q⟩
  obtain ⟨d, v, rfl, hd, q⟩ := q.on1 hd
  unfold bDictD at q
  split at q
  · split at q
    · rename_i e0
      split at q
      · rename_i kvs eo
        obtain ⟨⟨hap1, hap2⟩, q⟩ := q.ite
        obtain ⟨a, xs, rfl, ea, hx, hsm, hz, hm⟩ := hR.dx e0 eo hd
        rw [Vals.ref1 rv]
        have hks : ∀ {kvs : List (NestedKey × D)} {xs : List (NestedKey × Addr × Value)}, XtR X.K ρ H kvs xs → xs.map (·.1) = kvs.map (·.1) := by
          intro kvs
          induction kvs with
          | nil => intro xs h; rw [show xs = [] from h]; rfl
          | cons p ps ih =>
            intro xs h
            obtain ⟨b, u, v, r, rfl, z, h1, ru, h2, h3⟩ := h
            simp [ih h3]
        have e1 : (xs.map fun x => (nk X).hash x.1) = kvs.map fun p => nh p.1 := by
          have e2 : (xs.map fun x => (nk X).hash x.1) = (xs.map (·.1)).map fun k => NestedKey.hash X.w k := by rw [List.map_map]; rfl
          rw [e2, hks hx, List.map_map]
          refine List.map_congr_left fun p hp => ?_
          exact nh_eq X.w p.1 (hap1 p hp)
        refine call_dictH (prog := X.prog) (w := X.w) (by show X.A.units + 1 + 1 + 8 < cLine; omega) hsm (hm I) hz (by rw [e1]; exact hap2) fun h' hd' hk => ?_
        exact q.newD (tk := s.toks) I hR hd' hk hx hz
      · exact q.elim
    · exact q.elim
  · exact q.elim
/-! ### list(d) -/
def bListD : D → Store → R D := fun d S => match d with
  | .loc l => match S[l]? with
    | some o => match o.dict? with
      | some kvs => .ok (.loc S.length) (S ++ [.lst (keysD kvs)])
      | none => .bad
    | none => .bad
  | _ => .bad
theorem xt_keys {K : PySem.W.Frag} {ρ : List Addr} {H : Hp} : ∀ {kvs : List (NestedKey × D)} {xs : List (NestedKey × Addr × Value)}, XtR K ρ H kvs xs → RpVs K ρ H (keysD kvs) (xs.map fun x => V.ref x.2.1)
  | [], _, h => by rw [show _ = [] from h]; rfl
  | p :: ps, _, h => by
    obtain ⟨b, u, v, r, rfl, z, h1, ru, h2, h3⟩ := h
    exact ⟨_, _, rfl, h1, xt_keys h3⟩
theorem vals_refs : ∀ as : List Addr, Vals (as.map V.ref) (as.map Value.ref)
  | [] => .nil
  | _ :: as => .cons rfl (vals_refs as)
theorem raw_of {h : Heap} {d : Addr} {xs : List (NestedKey × Addr × Value)} (hm : h.DictOfH (nk X) d xs) : ∃ es ep, h.DictRaw d es ep ∧ es.toList = xs.map (entryOfKey (nk X)) ∧ es.size = xs.length := by
  obtain ⟨o, es, ep, q1, q2, q3, q4, q5, q6⟩ := hm
  exact ⟨es, ep, ⟨o, q1, q2, q3⟩, q4, size_of_entries q4⟩
theorem keys_acc {es : Array DictEntry} {xs : List (NestedKey × Addr × Value)} {acc : Array Value} (he : es.toList = xs.map (entryOfKey (nk X))) (hacc : PySem.ItemsOf (fun i v => ∃ hi : i < es.size, v = es[i].key) acc es.size) : acc.toList = xs.map fun x => Value.ref x.2.1 := by
  have hs := size_of_entries he
  refine List.ext_getElem? fun j => ?_
  by_cases hj : j < es.size
  · have hj2 : j < acc.size := by rw [hacc.1]; exact hj
    have e1 : acc[j]? = some acc[j] := Array.getElem?_eq_getElem hj2
    obtain ⟨hi, e2⟩ := hacc.2 j _ e1
    have e3 : es.toList[j]? = some es[j] := by simp [hj]
    rw [he, List.getElem?_map] at e3
    obtain ⟨x, e4, e5⟩ := Option.map_eq_some_iff.mp e3
    rw [Array.getElem?_toList, e1, e2, List.getElem?_map, e4, ← e5]
    rfl
  · rw [List.getElem?_eq_none (by rw [Array.length_toList, hacc.1]; omega), List.getElem?_eq_none (by rw [List.length_map]; omega)]
theorem cr_listD (hc : X.calm = true) : CallR X (.type "list") (rF (gOf X) (on1 bListD)) := by
  intro pins s σ H vs us Q I rv ⟨ρ, S, ds, hR, hd, q⟩
  obtain ⟨d, v, rfl, hd, q⟩ := q.on1 hd
  unfold bListD at q
  split at q
  · split at q
    · rename_i e0
      split at q
      · rename_i kvs eo
        obtain ⟨a, xs, rfl, ea, hx, hsm, hz, hm⟩ := hR.dx e0 eo hd
        rw [Vals.ref1 rv]
        obtain ⟨es, ep, hr, he, hsz⟩ := raw_of (hm I)
        refine PySem.W.kdl_call (KdlSrc.rawDict (es := es) (ep := ep) hsm) (I.ok.hd hc) hr (by omega) fun h' tk acc c hk hg hacc => ?_
        have ea := keys_acc he hacc
        have hl : (xs.map fun x => V.ref x.2.1).length ≤ sizeLine := by rw [List.length_map]; exact hz
        refine ⟨.ref _, upd H s.heap.objs.size (.lst (xs.map fun x => V.ref x.2.1)), I.laid (t' := tk) hk (Nat.le_refl _) ⟨hl, acc.toList, c, ?_, ?_⟩, rfl, ?_⟩
        · rw [ea]
          have := vals_refs (xs.map fun x => x.2.1)
          rw [List.map_map, List.map_map] at this
          exact this
        · simpa using hg
        · exact q.newL hR (I.hok.fresh (Nat.le_refl _)) (xt_keys hx) hl
      · exact q.elim
    · exact q.elim
  · exact q.elim
end
end Mn
set_option maxHeartbeats 4000000
/-! sorted(d), sorted(d.items()). -/
namespace Mn
open PySem PySem.Spec PyProof.Rows L2
open Sem (wp)
mutual
theorem reads_lt {h : Heap} : ∀ {v : Value} {d : PyData} {as : List Addr}, Reads h v d as → ∀ a ∈ as, a < h.objs.size
  | _, _, _, .none, a, ha => nomatch ha
  | _, _, _, .bool _, a, ha => nomatch ha
  | _, _, _, .int _ _, a, ha => nomatch ha
  | _, _, _, .str _ _, a, ha => nomatch ha
  | _, _, _, .list ho _ _ r, a, ha => by
    rcases List.mem_cons.mp ha with rfl | ha
    · exact Heap.lt_size ho
    · exact readsAll_lt r a ha
  | _, _, _, .tuple _ _ _ r, a, ha => readsAll_lt r a ha
  | _, _, _, .dict ho _ _ r q, a, ha => by
    rcases List.mem_append.mp ha with ha | ha
    · rcases List.mem_cons.mp ha with rfl | ha
      · exact Heap.lt_size ho
      · exact readsAll_lt r a ha
    · exact readsAll_lt q a ha
theorem readsAll_lt {h : Heap} : ∀ {vs : List Value} {ds : List PyData} {as : List Addr}, ReadsAll h vs ds as → ∀ a ∈ as, a < h.objs.size
  | _, _, _, .nil, a, ha => nomatch ha
  | _, _, _, .cons r q, a, ha => by
    rcases List.mem_append.mp ha with ha | ha
    · exact reads_lt r a ha
    · exact readsAll_lt q a ha
end
/-- what sorted makes of items -/
def srt (xs : List D) (S : Store) : R D := match xs.mapM (pd 9 S) with
  | some ps => if sortOk ps = true then .ok (.loc S.length) (S ++ [.lst (sortD S xs)]) else .bad
  | none => .bad
def bSortedD : D → Store → R D := fun d S => match d with
  | .loc l => match S[l]? with
    | some o => match o.dict? with
      | some kvs => srt (keysD kvs) S
      | none => .bad
    | none => .bad
  | _ => .bad
def bSortedI : D → Store → R D := fun d S => match d with
  | .loc l => match S[l]? with
    | some o => match o.dict? with
      | some kvs => srt (itemsD kvs) S
      | none => .bad
    | none => .bad
  | _ => .bad
section
variable {X : Cx} {W : WX}
/-- the sort of a list just made of such items -/
theorem sort_new {W' : WX} {ρ : List Addr} {pins : List (Addr × Obj)} {s : Shared} {σ σ' : L2.St} {H : Hp} {S : Store} {Q : VK} {xs : List D} {vs : List V} {its : List Value} (hu : X.A.units + 64 < cLine) (q : Out (gOf X) W' (rpV (gOf X)) ρ H σ' Q (srt xs S)) (I : Inv X pins σ H s) (hR : Rel (gOf X) ρ H S)
    (ra : RpVs X.K ρ H xs vs) (r : Vals vs its) (hz : vs.length ≤ sizeLine) :
    wpAny (model X.prog X.w) X.A.in1 (call (.builtin "list.sort") [.ref s.heap.objs.size]) (fun _ s' => EP X pins σ Q (.ref s.heap.objs.size) s') X.xe { s with heap := s.heap.push { cls := .type "list", data := .seq its.toArray } } := by
  unfold srt at q
  split at q
  · rename_i ps e1
    obtain ⟨hso, q⟩ := q.ite
    obtain ⟨hal, hsb, hdp⟩ := sortOk_alike hso
    have em := mapM_map (z := PyData.none) e1
    have hE := each_of ra r
    have hoL : (s.heap.push (seqObj "list" its.toArray 0)).get? s.heap.objs.size = some (seqObj "list" its.toArray 0) := Heap.get?_push_size _ rfl
    have hE2 : PySem.W.EachIs (fun v b => ∃ as, Reads (s.heap.push (seqObj "list" its.toArray 0)) v ((pd 9 S b).getD .none) as ∧ s.heap.objs.size ∉ as) its xs := (each_mem' hE).mono fun u d' ⟨⟨v', rv', rp'⟩, hm⟩ => by
      obtain ⟨p, _, ep⟩ := mapM_mem e1 d' hm
      rw [ep]
      obtain ⟨as, ha⟩ := Dp.reads I p v' u (pd_dp hR 9 _ _ _ ep rp') rv'
      exact ⟨as, PyProof.Rows.Reads.keeps (fun b o e => Heap.get?_push_of_some _ e) ha, fun hm => Nat.lt_irrefl _ (reads_lt ha _ hm)⟩
    refine PySem.W.list_sort_data (s := { s with heap := s.heap.push (seqObj "list" its.toArray 0) }) (enc := fun d => (pd 9 S d).getD .none) hoL hE hE2 (by rw [em]; exact hal) (by rw [em]; exact hsb) (by rw [← ra.length]; exact hz) (fun b hb => ?_) fun out hlen ho => ?_
    · obtain ⟨p, hp, ep⟩ := mapM_mem e1 b hb
      show X.A.units + 1 + 1 + ((pd 9 S b).getD .none).depth < cLine
      rw [ep]
      have := hdp p hp
      show X.A.units + 1 + 1 + p.depth < cLine
      omega
    · obtain ⟨vs', rv', rp'⟩ := of_each ho
      obtain ⟨ep, he'⟩ := PyProof.Rows.sortedHeap_at (vs := its) (out := out.toArray) hoL
      have hl' : vs'.length ≤ sizeLine := by rw [rv'.length, hlen, ← ra.length]; exact hz
      refine ⟨.ref _, upd H s.heap.objs.size (.lst vs'), I.laid (t' := s.toks) (fun b o e => ?_) (Nat.le_refl _) ⟨hl', out, ep, rv', he'⟩, rfl, ?_⟩
      · have hb : b < s.heap.objs.size := Heap.lt_size e
        rw [PyProof.Rows.sortedHeap_old (Nat.ne_of_lt hb) (by rw [size_push']; exact Nat.lt_succ_of_lt hb)]
        exact Heap.get?_push_of_some _ e
      · exact q.newL hR (I.hok.fresh (Nat.le_refl _)) rp' hl'
  · exact q.elim
theorem cr_sortedD (hc : X.calm = true) (hu : X.A.units + 64 < cLine) : CallR X (.builtin "sorted") (rF (gOf X) (on1 bSortedD)) := by
  intro pins s σ H vs us Q I rv ⟨ρ, S, ds, hR, hd, q⟩
  obtain ⟨d, v, rfl, hd, q⟩ := q.on1 hd
  unfold bSortedD at q
  split at q
  · split at q
    · rename_i e0
      split at q
      · rename_i kvs eo
        obtain ⟨a, xs, rfl, ea, hx, hsm, hz, hm⟩ := hR.dx e0 eo hd
        rw [Vals.ref1 rv]
        obtain ⟨es, ep, hr, he, hsz⟩ := raw_of (hm I)
        refine Calls.call_function_entry PyProof.Rows.kind_sorted PyProof.Rows.plain_sorted PyProof.Rows.entry_sorted (PyProof.Rows.args_sorted1 _) ?_
        unfold Builtin.«sorted»
        refine wpAny_bind (m := checkCount "sorted" 1 1 _) (wpAny_pure ?_)
        refine wpAny_bind (PySem.W.kdu_collect (A := X.A.in1) (KdlSrc.rawDict (es := es) (ep := ep) hsm) (I.ok.hd hc) hr (by omega) fun h' tk acc hk hacc => ?_)
        have ea := keys_acc he hacc
        have I1 : Inv X pins σ H { s with heap := h', toks := tk } := I.kept hk
        have hv : Vals (xs.map fun x => V.ref x.2.1) acc.toList := by
          rw [ea]
          have := vals_refs (xs.map fun x => x.2.1)
          rw [List.map_map, List.map_map] at this
          exact this
        refine wpAny_bind (wpAny_newList ?_ (by rw [ea, List.length_map]; exact hz))
        refine wpAny_bind (wpAny_holding (thn (sort_new (its := acc.toList) hu q I1 hR (xt_keys hx) hv (by rw [List.length_map]; exact hz)) fun _ s' x => ?_))
        exact wpAny_pure ⟨_, rfl, x⟩
      · exact q.elim
    · exact q.elim
  · exact q.elim
/-- pairs that lie there are taken as ours -/
theorem lay_pairs {pins : List (Addr × Obj)} {s : Shared} {σ : L2.St} {S : Store} : ∀ {as : List Addr} {kvs : List (NestedKey × D)} {xs : List (NestedKey × Addr × Value)} {ρ : List Addr} {H : Hp}, Inv X pins σ H s → Rel (gOf X) ρ H S → XtR X.K ρ H kvs xs → as.length = xs.length → as.Nodup → (∀ a ∈ as, FpOk X pins H a) →
    (∀ (j : Nat) (a : Addr), as[j]? = some a → ∃ x, xs[j]? = some x ∧ s.heap.get? a = some { cls := .type "tuple", data := .seq #[.ref x.2.1, x.2.2] }) → ∃ H', Inv X pins σ H' s ∧ Ext ρ H ρ H' ∧ Rel (gOf X) ρ H' S ∧ RpVs X.K ρ H' (itemsD kvs) (as.map V.ref) := by
  intro as
  induction as with
  | nil =>
    intro kvs xs ρ H I hR hx hl _ _ _
    have e : xs = [] := List.eq_nil_of_length_eq_zero hl.symm
    have l := xt_len hx
    rw [e] at l
    have e2 : kvs = [] := List.eq_nil_of_length_eq_zero l.symm
    subst e2
    exact ⟨H, I, Ext.refl, hR, rfl⟩
  | cons a as ih =>
    intro kvs xs ρ H I hR hx hl hnd hf hg
    cases kvs with
    | nil =>
      rw [show xs = [] from hx] at hl
      cases hl
    | cons p kvs =>
      obtain ⟨b, u, v, r, rfl, z, h1, ru, h2, h3⟩ := hx
      obtain ⟨x, e0, g0⟩ := hg 0 a rfl
      cases e0
      have fa := hf a List.mem_cons_self
      have new : ObjOk X.prog X.w (upd H a (.tup [.ref b, v])) s.heap a (.tup [.ref b, v]) := ⟨by show 2 ≤ sizeLine; decide, [.ref b, u], .cons rfl (.cons ru .nil), ⟨_, g0, rfl, _, rfl⟩⟩
      have I1 : Inv X pins σ (upd H a (.tup [.ref b, v])) s := I.take (t' := s.toks) (h' := s.heap) (fun _ _ _ e => e) fa new
      have x1 : Ext ρ H ρ (upd H a (.tup [.ref b, v])) := Ext.new fa.1
      have hnd' := List.nodup_cons.mp hnd
      obtain ⟨H', I2, x2, R2, r2⟩ := ih I1 (hR.new fa.1) (x1.xt h3) (by simpa using hl) hnd'.2 (fun c hc => by
        have fc := hf c (List.mem_cons_of_mem _ hc)
        have hca : c ≠ a := fun z => hnd'.1 (by rw [← z]; exact hc)
        exact ⟨by rw [upd_ne hca]; exact fc.1, fc.2⟩) fun j c e => hg (j + 1) c (by simpa using e)
      have hn : a ∉ ρ := hR.apart fa.1
      refine ⟨H', I2, x1.trans x2, R2, .ref a, as.map V.ref, rfl, ⟨a, [.ref b, v], rfl, .inl (x2.rd (.inl upd_same) hn), by show 2 ≤ sizeLine; decide, ?_⟩, r2⟩
      exact ⟨.ref b, [v], rfl, (x1.trans x2).rp _ _ h1, v, [], rfl, (x1.trans x2).rp _ _ h2, rfl⟩
/-- d.items() -/
theorem pe_view {o : Expr} {t : TE} {apos cpos : Pos} (ho : PE X o t) (hbase : attributeBase o "items" X.env (eval o X.env) = eval o X.env := by rfl) (hline : (apos.endLine == cpos.line) = true := by rfl) :
    PE X (.Call (.Attribute o "items" apos) [] [] cpos) (fun σ H Q => t σ H fun x H1 => ∃ a, x = .ref a ∧ (a == sysModules) = false ∧ (∀ pins s σ, Inv X pins σ H1 s → ∃ es ep, s.heap.DictRaw a es ep) ∧ ∀ p, H1 p = none → Q (.ref p) (upd H1 p (DX.itemsO p a))) := by
  refine ⟨fun pins s σ H Q I h => ?_⟩
  refine wpAny_Call_method0_late hbase hline (thn (ho.run pins s σ H _ I h) fun v s1 ⟨x, H1, I1, r1, a, ex, hs, hd, q1⟩ => ?_)
  subst ex
  cases r1
  obtain ⟨es, ep, hr⟩ := hd pins s1 σ I1
  have hrr := id hr
  obtain ⟨ob, g1, g2, g3⟩ := hrr
  refine ⟨"dict", "dict.items", F.plainAttrs_dict, F.slot_dict_items, F.type_dict_items, hr.typeIs, fun a' e' => by cases e'; exact ⟨ob, g1, g2.2.1⟩, ?_⟩
  refine Calls.callWith_builtin rfl (PySem.evalArgs_none ?_)
  refine call_meetsIn F.slot_dict_items hr.typeIs F.entry_dict_items (F.args_dict_items_1 _) (meets_dict_items_raw a hs) ⟨⟨es, ep, hr⟩, ?_⟩
  exact ⟨.ref s1.heap.objs.size, _, I1.laid (t' := s1.toks) (fun b ob q => Heap.get?_push_of_some _ q) (Nat.le_refl _) (DX.itemsO_ok (Heap.get?_push_size _ rfl)), rfl, q1 _ (I1.hok.fresh (Nat.le_refl _))⟩
/-- sorted of such a view, by values -/
def rView (X : Cx) (bs : D → Store → R D) : List V → Hp → VK → Prop := fun vs H Q => ∃ (ρ : List Addr) (S : Store) (d : D) (p a : Addr), vs = [.ref p] ∧ H p = some (DX.itemsO p a) ∧ Rel (gOf X) ρ H S ∧ RpV X.K ρ H d (.ref a) ∧ Out (gOf X) WT (rpV (gOf X)) ρ H [] Q (bs d S)
theorem cr_sortedI (hc : X.calm = true) (hu : X.A.units + 64 < cLine) : CallR X (.builtin "sorted") (rView X bSortedI) := by
  intro pins s σ H vs us Q I rv ⟨ρ, S, d, p, a, ev, hp, hR, hd, q⟩
  subst ev
  rw [Vals.ref1 rv]
  have view : s.heap.IsItemsView p a := (show ObjOk X.prog X.w H s.heap p (DX.itemsO p a) from I.hok p _ hp).1
  unfold bSortedI at q
  split at q
  · split at q
    · rename_i e0
      split at q
      · rename_i kvs eo
        obtain ⟨a', xs, e', ea, hx, hsm, hz, hm⟩ := hR.dx e0 eo hd
        cases e'
        obtain ⟨es, ep, hr, he, hsz⟩ := raw_of (hm I)
        refine DT.sortedI (es := es) (ep := ep) (I.ok.hd hc) view hr (by omega) fun h' tk as hk hlt hl hG => ?_
        have I1 : Inv X pins σ H { s with heap := h', toks := tk } := I.kept hk
        have nd : as.Nodup := List.Pairwise.imp (fun h => Nat.ne_of_lt h) hG.rise
        obtain ⟨H', I2, x2, R2, r2⟩ := lay_pairs (as := as) I1 hR hx (by omega) nd (fun c hc => I.fpOk (Nat.le_of_lt (hG.above c hc)) (I.hok.fresh (Nat.le_of_lt (hG.above c hc)))) fun j c e => by
          obtain ⟨en, e1, e2⟩ := hG.pairs j c e
          have e3 : es.toList[j]? = some en := by simpa using e1
          rw [he, List.getElem?_map] at e3
          obtain ⟨x, e4, e5⟩ := Option.map_eq_some_iff.mp e3
          subst e5
          exact ⟨x, e4, e2⟩
        have hz2 : (as.map V.ref).length ≤ sizeLine := by rw [List.length_map]; omega
        exact sort_new (its := as.map Value.ref) hu (q.carry x2) I2 R2 r2 (vals_refs as) hz2
      · exact q.elim
    · exact q.elim
  · exact q.elim
theorem me_sortedI {o : Expr} {co : EM} {p apos cpos pos : Pos} (hc : X.calm = true) (hu : X.A.units + 64 < cLine) (hg : Gl X "sorted") (hm : X.mg "sorted" = none) (ho : ME X W o co)
    (hbase : attributeBase o "items" X.env (eval o X.env) = eval o X.env := by rfl) (hline : (apos.endLine == cpos.line) = true := by rfl)
    (he : starEach [.Call (.Attribute o "items" apos) [] [] cpos] X.env = (false, eval (.Call (.Attribute o "items" apos) [] [] cpos) X.env) :: starEach [] X.env := by rfl) (hpl : (backTo pos (starEach [] X.env)).any (·.1) = false := by rfl) :
    ME X W (.Call (.Name "sorted" p) [.Call (.Attribute o "items" apos) [] [] cpos] [] pos) (e1 bSortedI co) := by
  refine PE_imp (pe_callB (cr_sortedI hc hu) hg hm boot_sorted (pa_cons (pe_view ho hbase hline) pa_nil he) (by decide) (by decide) he hpl) fun σ H Q ⟨ρ, σd, S, hR, hE, h⟩ => ?_
  refine step hR hE h fun ρ1 H1 d S1 v x1 R1 E1 q1 _ o1 => ?_
  cases d with
  | loc l =>
    unfold bSortedI at o1
    simp only at o1
    split at o1
    · rename_i e0
      split at o1
      · rename_i kvs eo
        obtain ⟨a, xs, rfl, ea, hx, hsm, hz, hm'⟩ := R1.dx e0 eo q1
        refine ⟨a, rfl, hsm, fun pins s σ I => ?_, fun p hp => ?_⟩
        · obtain ⟨es, ep, hr, _⟩ := raw_of (hm' I)
          exact ⟨es, ep, hr⟩
        · refine ⟨ρ1, S1, .loc l, p, a, rfl, upd_same, R1.new hp, (Ext.new hp).rp _ _ q1, ?_⟩
          unfold bSortedI
          simp only [e0, eo]
          exact (o1.carry (Ext.new hp)).wt
      · exact o1.elim
    · exact o1.elim
  | _ => exact o1.elim
end
end Mn
set_option maxHeartbeats 4000000
/-! Dicts walked while they are locked: keys, pairs; for; list comprehensions over them. -/
namespace Mn
open PySem PySem.Spec PyProof.Rows L2
open Sem (wp)
/-! ### the iterators -/
def Locked (H : Hp) (d : Addr) (o : Obj) : Prop := ∃ od, H d = some (.frz od (dtO o d))
/-- the entries of the object o -/
structure Ents (P : Program) (w : World) (o : Obj) (es : Array DictEntry) (ep : Nat) (xs : List (NestedKey × Addr × Value)) : Prop where
  ex : o.ExactDict
  dat : o.data = .dict es ep
  ent : es.toList = xs.map (entryOfKey (nestedKind P w))
theorem Ents.get {P : Program} {w : World} {o : Obj} {es : Array DictEntry} {ep : Nat} {xs : List (NestedKey × Addr × Value)} (e : Ents P w o es ep xs) {i : Nat} {x : NestedKey × Addr × Value} (h : xs[i]? = some x) : ∃ en, es[i]? = some en ∧ en.key = .ref x.2.1 ∧ en.val = x.2.2 := by
  have q := entry_at e.ent i
  rw [h] at q
  exact ⟨_, q, rfl, rfl⟩
/-- .. is told of whoever reads the same entries -/
def KeyAt (P : Program) (w : World) (H : Hp) (d : Addr) (i : Nat) (b : Addr) : Prop := ∀ o' es' ep' xs' x', Locked H d o' → Ents P w o' es' ep' xs' → xs'[i]? = some x' → x'.2.1 = b
def PairOf (P : Program) (w : World) (H : Hp) (d : Addr) (i : Nat) (b : Addr) (v : V) : Prop := ∀ o' es' ep' xs' x', Locked H d o' → Ents P w o' es' ep' xs' → xs'[i]? = some x' → x'.2.1 = b ∧ RelV v x'.2.2
def ItNk (P : Program) (w : World) (d : Addr) (o : Obj) (n : Nat) : L2.It :=
  ⟨fun i H => Locked H d o ∧ i < n, fun i H x H' => H' = H ∧ ∃ b, x = .ref b ∧ KeyAt P w H d i b, fun i H => Locked H d o ∧ n ≤ i⟩
def ItNi (P : Program) (w : World) (d : Addr) (o : Obj) (n : Nat) : L2.It :=
  ⟨fun i H => Locked H d o ∧ i < n, fun i H x H' => ∃ T b v, x = .ref T ∧ H T = none ∧ H' = upd H T (.tup [.ref b, v]) ∧ PairOf P w H d i b v, fun i H => Locked H d o ∧ n ≤ i⟩
section
variable {P : Program} {w : World} {K : PySem.W.Frag} {tg : Expr} {d : Addr} {o : Obj} {es : Array DictEntry} {ep : Nat} {xs : List (NestedKey × Addr × Value)}
theorem lock_at {X : Cx} {pins : List (Addr × Obj)} {σ : L2.St} {H : Hp} {s : Shared} (I : Inv X pins σ H s) (h : Locked H d o) : s.heap.get? d = some o := let ⟨_, e⟩ := h; (I.hok d _ e).2.1
theorem lock_same {X : Cx} {pins : List (Addr × Obj)} {σ : L2.St} {H : Hp} {s : Shared} {o' : Obj} (I : Inv X pins σ H s) (h : Locked H d o) (h' : Locked H d o') : o' = o := by
  have e := lock_at I h
  rw [lock_at I h'] at e
  exact Option.some.inj e
theorem ents_same {es' : Array DictEntry} {ep' : Nat} {xs' : List (NestedKey × Addr × Value)} (a : Ents P w o es ep xs) (b : Ents P w o es' ep' xs') {i : Nat} {x x' : NestedKey × Addr × Value} (h : xs[i]? = some x) (h' : xs'[i]? = some x') : x'.2.1 = x.2.1 ∧ x'.2.2 = x.2.2 := by
  obtain ⟨e1, e2⟩ := dict_ep a.dat b.dat
  subst e1
  obtain ⟨en, q1, q2, q3⟩ := a.get h
  obtain ⟨en', q4, q5, q6⟩ := b.get h'
  rw [q1] at q4
  cases q4
  rw [q2] at q5
  rw [q3] at q6
  injection q5 with q5
  exact ⟨q5.symm, q6.symm⟩
theorem turn_nk (e : Ents P w o es ep xs) (it : Addr) : Turn P w K tg (ItNk P w d o xs.length) [it] it (fun i h => h.IsKeyIter it d i xs.length ep) where
  mem := List.mem_singleton_self _
  obj := fun i h st b hb => by
    obtain rfl := List.mem_singleton.mp hb
    obtain ⟨oi, e, c, dd⟩ := st
    exact ⟨oi, e, fun v z => by rw [dd] at z; cases z⟩
  keep := fun i h h' st k => st.at fun oi e => k it (List.mem_singleton_self _) oi e
  item := by
    intro X hP hw hK hc i pins s σ H E I hf st hg
    subst hP hw hK
    obtain ⟨lk, hi⟩ := hg
    have fit := hf it (List.mem_singleton_self _)
    obtain ⟨x, hx⟩ : ∃ x, xs[i]? = some x := ⟨_, List.getElem?_eq_getElem hi⟩
    obtain ⟨en, q1, q2, q3⟩ := e.get hx
    have hsz : es.size = xs.length := size_of_entries e.ent
    refine next_key_item st (lock_at I lk) e.dat hsz q1 fun h' st' sb => ?_
    have I1 : Inv X pins σ H { s with heap := h' } := I.turned (t' := s.toks) (fun b ob hb q => (sb.2 b hb).trans q) fit.1 fit.2.1 fit.2.2.2.1 fit.2.2.2.2.1 fit.2.2.2.2.2
    obtain ⟨oi, g1, g2, g3⟩ := id st'
    refine ⟨en.key, rfl, go_of (s := { s with heap := h' }) g1 g2 g3 (by decide) ⟨.ref x.2.1, H, I1, q2, ⟨rfl, x.2.1, rfl, fun o' es' ep' xs' x' lk' e' hx' => ?_⟩, st', fun b hb => (hf b hb).1⟩⟩
    cases lock_same I lk lk'
    exact (ents_same e e' hx hx').1
  done := by
    intro X hP hw hK hc i pins s σ H E I hf st hg
    subst hP hw hK
    obtain ⟨lk, hi⟩ := hg
    have fit := hf it (List.mem_singleton_self _)
    exact next_key_end (I.ok.hd hc) st (lock_at I lk) e.dat (size_of_entries e.ent) hi fun h' eb => ⟨rfl, I.turned (t' := s.toks) (fun b ob hb q => eb b ob hb q) fit.1 fit.2.1 fit.2.2.2.1 fit.2.2.2.2.1 fit.2.2.2.2.2⟩
  self := fun A i s Q E st h => wpAny_pyIter_slot st.typeIs F.slot_dict_keyiterator_iter (wpAny_call_entry F.slot_dict_keyiterator_iter st.typeIs F.entry_dict_keyiterator_iter
    (show wpAny _ _ (ret (.ref it)) _ _ s from wpAny_pure ⟨_, rfl, "dict_keyiterator", _, st.typeIs, F.slot_dict_keyiterator_next.lookup, h⟩) (F.args_dict_keyiterator_iter_1 _))
theorem turn_ni {elts : List Expr} {kk : Nat} {tpos : Pos} (e : Ents P w o es ep xs) (hv : ∀ x ∈ xs, ∃ v, RelV v x.2.2) (it : Addr) : Turn P w K (.Tuple elts kk tpos) (ItNi P w d o xs.length) [it] it (fun i h => ∃ ok ov, IsItemIter h it d i es.size ep ok ov) where
  mem := List.mem_singleton_self _
  obj := fun i h st b hb => by
    obtain rfl := List.mem_singleton.mp hb
    obtain ⟨ok, ov, e⟩ := st
    exact ⟨_, e, fun v z => nomatch z⟩
  keep := fun i h h' st k => let ⟨ok, ov, e⟩ := st; ⟨ok, ov, k it (List.mem_singleton_self _) _ e⟩
  item := by
    intro X hP hw hK hc i pins s σ H E I hf st hg
    subst hP hw hK
    obtain ⟨lk, hi⟩ := hg
    obtain ⟨x, hx⟩ : ∃ x, xs[i]? = some x := ⟨_, List.getElem?_eq_getElem hi⟩
    obtain ⟨en, q1, q2, q3⟩ := e.get hx
    obtain ⟨v, rv⟩ := hv x (List.mem_of_getElem? hx)
    have hsz : es.size = xs.length := size_of_entries e.ent
    obtain ⟨ok, ov, he⟩ := st
    have hlt : it < s.heap.objs.size := Heap.lt_size he
    have hin : i < es.size := by omega
    have e0 : es[i] = en := by rw [Array.getElem?_eq_getElem hin] at q1; exact Option.some.inj q1
    refine wpAny_pyNext_items_item_raw he ⟨o, lock_at I lk, e.ex, e.dat⟩ hin fun h' ho hT hz hk => ?_
    rw [e0, q2, q3] at ho hT
    refine ⟨_, rfl, wpAny_letOwnedTupleGo_items (s := { s with heap := h' }) ho fun h'' he' sb => ?_⟩
    have hT2 : h''.get? s.heap.objs.size = some { cls := .type "tuple", data := .seq #[.ref x.2.1, x.2.2] } := (sb.2 _ (Nat.ne_of_gt hlt)).trans hT
    have new : ObjOk X.prog X.w (upd H s.heap.objs.size (.tup [.ref x.2.1, v])) h'' s.heap.objs.size (.tup [.ref x.2.1, v]) :=
      ⟨by show 2 ≤ sizeLine; decide, [.ref x.2.1, x.2.2], .cons rfl (.cons rv .nil), ⟨_, hT2, rfl, _, rfl⟩⟩
    have I1 : Inv X pins σ (upd H s.heap.objs.size (.tup [.ref x.2.1, v])) { s with heap := h'' } :=
      I.turnedNew (t' := s.toks) (ch := [it]) (fun b ob hb q => (sb.2 b (by simpa using hb)).trans (hk b ob (by simpa using hb) q)) hf (Nat.le_refl _) new
    refine ⟨.ref s.heap.objs.size, _, I1, rfl, ⟨_, x.2.1, v, rfl, I.hok.fresh (Nat.le_refl _), rfl, fun o' es' ep' xs' x' lk' e' hx' => ?_⟩, ⟨_, _, he'⟩, fun b hb => ?_⟩
    · cases lock_same I lk lk'
      obtain ⟨z1, z2⟩ := ents_same e e' hx hx'
      exact ⟨z1, by rw [z2]; exact rv⟩
    · obtain rfl := List.mem_singleton.mp hb
      rw [upd_ne (Nat.ne_of_lt hlt)]
      exact (hf b hb).1
  done := by
    intro X hP hw hK hc i pins s σ H E I hf st hg
    subst hP hw hK
    obtain ⟨lk, hi⟩ := hg
    have fit := hf it (List.mem_singleton_self _)
    have hsz : es.size = xs.length := size_of_entries e.ent
    obtain ⟨ok, ov, he⟩ := st
    exact wpAny_pyNext_items_end_raw (I.ok.hd hc) he ⟨o, lock_at I lk, e.ex, e.dat⟩ (by omega) fun h' eb => ⟨rfl, I.turned (t' := s.toks) (fun b ob hb q => eb b ob hb q) fit.1 fit.2.1 fit.2.2.2.1 fit.2.2.2.2.1 fit.2.2.2.2.2⟩
  self := fun A i s Q E st h => let ⟨_, _, e⟩ := st; PySem.W.kcp_self e h
end
section
variable {X : Cx} {tg e : Expr} {td : TE} {apos cpos : Pos}
def iNk (X : Cx) (td : TE) : TI := fun σ H R => td σ H fun x H1 => ∃ d o es ep xs, x = .ref d ∧ Locked H1 d o ∧ (d == sysModules) = false ∧ Ents X.prog X.w o es ep xs ∧ R (ItNk X.prog X.w d o xs.length) H1
def iNi (X : Cx) (td : TE) : TI := fun σ H R => td σ H fun x H1 => ∃ d o es ep xs, x = .ref d ∧ Locked H1 d o ∧ (d == sysModules) = false ∧ Ents X.prog X.w o es ep xs ∧ (∀ x ∈ xs, ∃ v, RelV v x.2.2) ∧ R (ItNi X.prog X.w d o xs.length) H1
theorem pi_nk (he : PE X e td) : PI X tg e (iNk X td) := by
  refine ⟨fun pins s σ H R I h => ?_⟩
  refine thn (he.run pins s σ H _ I h) fun u s1 ⟨x, H1, I1, rx, d, o, es, ep, xs, ex, lk, hs, en, q⟩ => ?_
  subst ex
  cases rx
  refine iter_keys hs (lock_at I1 lk) en.ex en.dat (pi_one (tk := s1.toks) I1 _ (turn_nk en _) ⟨_, Heap.get?_push_size _ rfl, rfl, ?_⟩ q)
  have hsz : es.size = xs.length := size_of_entries en.ent
  rw [hsz] <;> rfl
theorem pi_ni {elts : List Expr} {kk : Nat} {tpos : Pos} (he : PE X e td) (hbase : attributeBase e "items" X.env (eval e X.env) = eval e X.env := by rfl) (hline : (apos.endLine == cpos.line) = true := by rfl) :
    PI X (.Tuple elts kk tpos) (.Call (.Attribute e "items" apos) [] [] cpos) (iNi X td) := by
  refine ⟨fun pins s σ H R I h => ?_⟩
  refine wpAny_Call_method (T := "dict") (id := "dict.items") hbase rfl hline F.plainAttrs_dict F.slot_dict_items F.type_dict_items (thn (he.run pins s σ H _ I h) fun u s1 ⟨x, H1, I1, rx, d, o, es, ep, xs, ex, lk, hs, en, hv, q⟩ => ?_)
  subst ex
  cases rx
  have g := lock_at I1 lk
  have raw : s1.heap.DictRaw d es ep := ⟨o, g, en.ex, en.dat⟩
  refine ⟨raw.typeIs, fun a' e' => by cases e'; exact ⟨o, g, en.ex.2.1⟩, ?_⟩
  have I2 : Inv X pins σ H1 { s1 with heap := s1.heap.push { cls := .type "dict_items", data := .fields #[.ref d] } } := I1.kept (t' := s1.toks) fun b ob q => Heap.get?_push_of_some _ q
  have fin : wpAny (model X.prog X.w) X.A (pyIter (.ref s1.heap.objs.size)) (PIE X pins σ (.Tuple elts kk tpos) R) X.xe { s1 with heap := s1.heap.push { cls := .type "dict_items", data := .fields #[.ref d] } } :=
    wpAny_pyIter_items_raw ⟨_, Heap.get?_push_size _ rfl, rfl, rfl⟩ (raw.push _) (pi_one (tk := s1.toks) I2 _ (turn_ni en hv _) ⟨.none, .none, Heap.get?_push_size _ rfl⟩ q)
  exact method_meetsIn F.slot_dict_items F.entry_dict_items rfl (PySem.evalArgs_none ⟨rfl, raw.typeIs, F.args_dict_items_1 _, _, meets_dict_items_raw d hs, ⟨es, ep, raw⟩, fin⟩)
end
end Mn
set_option maxHeartbeats 4000000
/-! A dict locked while it is walked. -/
namespace Mn
open PySem PySem.Spec PyProof.Rows L2
open Sem (wp)
/-! ### what is no sequence may be written over -/
section
variable {K : PySem.W.Frag} {ρ : List Addr} {H : Hp} {p : Addr} {u : HO}
mutual
theorem rp_over (h1 : ∀ vs, ¬ Rd H p (.tup vs)) (h2 : ∀ o vs, H p ≠ some (.frz o (.lst vs))) : ∀ (d : D) (v : V), RpV K ρ H d v → RpV K ρ (upd H p u) d v
  | .non, _, h => h
  | .bl _, _, h => h
  | .int _, _, h => h
  | .str _, _, h => h
  | .loc _, _, h => h
  | .tup ds, _, h => by
    obtain ⟨a, vs, e, t, z, r⟩ := h
    refine ⟨a, vs, e, t.imp (fun ⟨t, n⟩ => ⟨?_, n⟩) id, z, rps_over h1 h2 ds vs r⟩
    have hne : a ≠ p := fun z => h1 vs (z ▸ t)
    rcases t with t | ⟨o, t⟩
    · exact .inl (by rw [upd_ne hne]; exact t)
    · exact .inr ⟨o, by rw [upd_ne hne]; exact t⟩
  | .ro ds, _, h => by
    obtain ⟨a, vs, e, t, z, r⟩ := h
    refine ⟨a, vs, e, t.imp (fun ⟨o, t⟩ => ⟨o, ?_⟩) id, z, rps_over h1 h2 ds vs r⟩
    rw [upd_ne (show a ≠ p from fun z => h2 o vs (z ▸ t))]
    exact t
theorem rps_over (h1 : ∀ vs, ¬ Rd H p (.tup vs)) (h2 : ∀ o vs, H p ≠ some (.frz o (.lst vs))) : ∀ (ds : List D) (vs : List V), RpVs K ρ H ds vs → RpVs K ρ (upd H p u) ds vs
  | [], _, h => h
  | d :: ds, _, h => by
    obtain ⟨v, r, e, q1, q2⟩ := h
    exact ⟨v, r, e, rp_over h1 h2 d v q1, rps_over h1 h2 ds r q2⟩
end
theorem kv_over (h1 : ∀ vs, ¬ Rd H p (.tup vs)) (h2 : ∀ o vs, H p ≠ some (.frz o (.lst vs))) : ∀ {ps : List (Key × D)} {vs : List (Key × V)}, KvR K ρ H ps vs → KvR K ρ (upd H p u) ps vs
  | [], _, h => h
  | _ :: ps, _, ⟨v, r, e, q1, q2⟩ => ⟨v, r, e, rp_over h1 h2 _ _ q1, kv_over h1 h2 q2⟩
theorem xt_over (h1 : ∀ vs, ¬ Rd H p (.tup vs)) (h2 : ∀ o vs, H p ≠ some (.frz o (.lst vs))) : ∀ {ps : List (NestedKey × D)} {vs : List (NestedKey × Addr × Value)}, XtR K ρ H ps vs → XtR K ρ (upd H p u) ps vs
  | [], _, h => h
  | _ :: ps, _, ⟨b, w, v, r, e, z, q1, q, q2, q3⟩ => ⟨b, w, v, r, e, z, rp_over h1 h2 _ _ q1, q, rp_over h1 h2 _ _ q2, xt_over h1 h2 q3⟩
theorem fs_over (h1 : ∀ vs, ¬ Rd H p (.tup vs)) (h2 : ∀ o vs, H p ≠ some (.frz o (.lst vs))) : ∀ {ps : List (Str × D)} {vs : List (Str × V)}, FsR K ρ H ps vs → FsR K ρ (upd H p u) ps vs
  | [], _, h => h
  | _ :: ps, _, ⟨v, r, e, q1, q2⟩ => ⟨v, r, e, rp_over h1 h2 _ _ q1, fs_over h1 h2 q2⟩
end
section
variable {G : Gc} {ρ ρ' : List Addr} {H H' : Hp} {S S' : Store} {l : Nat} {a : Addr} {o od : Obj} {kvs : List (NestedKey × D)}
theorem lock_rel (hR : Rel G ρ H S) (e0 : S[l]? = some (.dt kvs)) (ea : ρ[l]? = some a) (hH : H a = some (dtO o a)) : Ext ρ H ρ (upd H a (.frz od (dtO o a))) ∧ Rel G ρ (upd H a (.frz od (dtO o a))) (S.set l (.dl kvs)) := by
  have hf : ∀ o v, H a ≠ some (.frz o v) := fun o v z => by rw [hH] at z; cases z
  have x := Ext.write (ρ := ρ) (u := .frz od (dtO o a)) (List.mem_of_getElem? ea) hf
  have q := hR.ob l a _ ea e0
  obtain ⟨o', es, ep, xs, h1, h2, h3, h4, h5, h6, h7, h8⟩ := q
  refine ⟨x, hR.write ea hf ⟨od, o', es, ep, xs, ?_, h2, h3, h4, h5, h6, h7, x.xt h8⟩⟩
  rw [upd_same]
  rw [hH] at h1
  rw [Option.some.inj h1]
theorem unlock_rel (ha : a ∈ ρ) (hH : H a = some (dtO o a)) (x : Ext ρ (upd H a (.frz od (dtO o a))) ρ' H') (R' : Rel G ρ' H' S') (e0 : S'[l]? = some (.dl kvs)) (ea : ρ'[l]? = some a) :
    H' a = some (.frz od (dtO o a)) ∧ Ext ρ H ρ' (upd H' a (dtO o a)) ∧ Rel G ρ' (upd H' a (dtO o a)) (S'.set l (.dt kvs)) ∧ ∀ (K : PySem.W.Frag) (d : D) (v : V), RpV K ρ' H' d v → RpV K ρ' (upd H' a (dtO o a)) d v := by
  have hz : H' a = some (.frz od (dtO o a)) := x.frz upd_same
  have h1 : ∀ vs, ¬ Rd H' a (.tup vs) := fun vs q => by
    rcases q with q | ⟨o2, q⟩
    · rw [hz] at q; cases q
    · rw [hz] at q; cases q
  have h2 : ∀ o2 vs, H' a ≠ some (.frz o2 (.lst vs)) := fun o2 vs q => by rw [hz] at q; cases q
  refine ⟨hz, ?_, ?_, fun K d v r => rp_over h1 h2 d v r⟩
  · obtain ⟨new, en, f, k, dm, fz⟩ := x
    have up : ∀ b, b ≠ a → (upd H a (.frz od (dtO o a))) b = H b := fun b hb => upd_ne hb
    refine ⟨new, en, fun p hp => ?_, fun b u hb e => ?_, fun b e => ?_, fun b w u e => ?_⟩
    · have q := f p hp
      by_cases hb : p = a
      · rw [hb, upd_same] at q; cases q
      · rw [up p hb] at q; exact q
    · have hne : b ≠ a := fun z => hb (z ▸ ha)
      rw [upd_ne hne]
      exact k b u hb (by rw [up b hne]; exact e)
    · by_cases hb : b = a
      · rw [hb, upd_same]; exact fun z => nomatch z
      · rw [upd_ne hb]
        exact dm b (by rw [up b hb]; exact e)
    · have hne : b ≠ a := fun z => by rw [z, hH] at e; cases e
      rw [upd_ne hne]
      exact fz b w u (by rw [up b hne]; exact e)
  · refine ⟨by rw [List.length_set]; exact R'.len, R'.nd, fun l' a' o' e1 e2 => ?_⟩
    by_cases hl : l = l'
    · subst hl
      rw [ea] at e1
      cases e1
      rw [List.getElem?_set_self (List.getElem?_eq_some_iff.mp e0).1] at e2
      cases e2
      obtain ⟨od', o2, es, ep, xs, q1, q2, q3, q4, q5, q6, q7, q8⟩ := R'.ob l a _ ea e0
      rw [hz] at q1
      simp only [Option.some.injEq, HO.frz.injEq] at q1
      refine ⟨o2, es, ep, xs, ?_, q2, q3, q4, q5, q6, q7, xt_over h1 h2 q8⟩
      rw [upd_same, q1.2]
    · rw [List.getElem?_set_ne hl] at e2
      have hne : a' ≠ a := fun z => hl (R'.inj (by rw [z]; exact ea) e1)
      have q := R'.ob l' a' o' e1 e2
      cases o' with
      | lst _ => obtain ⟨vs', q1, r, z⟩ := q; exact ⟨vs', (upd_ne hne).trans q1, rps_over h1 h2 _ _ r, z⟩
      | dk _ => obtain ⟨vs', q1, r, z⟩ := q; exact ⟨vs', (upd_ne hne).trans q1, kv_over h1 h2 r, z⟩
      | dt _ => obtain ⟨ob, es, ep, xs', q1, r1, r2, r3, r4, r5, r6, r7⟩ := q; exact ⟨ob, es, ep, xs', (upd_ne hne).trans q1, r1, r2, r3, r4, r5, r6, xt_over h1 h2 r7⟩
      | dl _ => obtain ⟨od, ob, es, ep, xs', q1, r1, r2, r3, r4, r5, r6, r7⟩ := q; exact ⟨od, ob, es, ep, xs', (upd_ne hne).trans q1, r1, r2, r3, r4, r5, r6, xt_over h1 h2 r7⟩
      | ins _ _ => obtain ⟨C, dx, vs', m, q1, r⟩ := q; exact ⟨C, dx, vs', m, (upd_ne hne).trans q1, fs_over h1 h2 r⟩
theorem xt_get {K : PySem.W.Frag} {ρ : List Addr} {H : Hp} : ∀ {kvs : List (NestedKey × D)} {xs : List (NestedKey × Addr × Value)}, XtR K ρ H kvs xs → ∀ {i : Nat} {p : NestedKey × D}, kvs[i]? = some p → ∃ b u v, xs[i]? = some (p.1, b, u) ∧ RpV K ρ H (ofKey p.1) (.ref b) ∧ RelV v u ∧ RpV K ρ H p.2 v
  | [], _, h, i, p, e => by simp at e
  | q :: ps, _, h, 0, p, e => by
    obtain ⟨b, u, v, r, rfl, z, h1, ru, h2, h3⟩ := h
    cases e
    exact ⟨b, u, v, rfl, h1, ru, h2⟩
  | q :: ps, _, h, i + 1, p, e => by
    obtain ⟨b, u, v, r, rfl, z, h1, ru, h2, h3⟩ := h
    exact xt_get h3 (i := i) (by simpa using e)
theorem jr_nk {xs : List (NestedKey × Addr × Value)} (ea : ρ[l]? = some a) (lk : Locked H a o) (hl : xs.length = kvs.length) (hz : xs.length ≤ sizeLine) : JR G ρ H ⟨keysD kvs, [(l, .dl kvs)]⟩ (ItNk G.P G.w a o xs.length) := by
  obtain ⟨od, lk⟩ := lk
  refine ⟨by simp only [keysD, List.length_map]; omega, fun i d ρ1 S1 H1 hd x R g => ?_, fun i ρ1 S1 H1 hi x R g => ⟨⟨od, x.frz lk⟩, by simp only [keysD, List.length_map] at hi; omega⟩⟩
  have e0 : S1[l]? = some (.dl kvs) := g (l, .dl kvs) List.mem_cons_self
  simp only [keysD, List.getElem?_map] at hd
  obtain ⟨p, hp, rfl⟩ := Option.map_eq_some_iff.mp hd
  have hi := (List.getElem?_eq_some_iff.mp hp).1
  refine ⟨⟨⟨od, x.frz lk⟩, by omega⟩, fun y H2 ⟨e, b, ey, ky⟩ => ?_⟩
  subst e ey
  obtain ⟨od', o', es, ep, ys, q1, q2, q3, q4, q5, q6, q7, q8⟩ := R.ob l a _ (x.loc ea) e0
  obtain ⟨b', u, v, e1, e2, _⟩ := xt_get q8 hp
  have := ky o' es ep ys _ ⟨od', q1⟩ ⟨q2, q3, q4⟩ e1
  subst this
  exact ⟨Ext.refl, R, e2⟩
theorem jr_ni {xs : List (NestedKey × Addr × Value)} (ea : ρ[l]? = some a) (lk : Locked H a o) (hl : xs.length = kvs.length) (hz : xs.length ≤ sizeLine) : JR G ρ H ⟨itemsD kvs, [(l, .dl kvs)]⟩ (ItNi G.P G.w a o xs.length) := by
  obtain ⟨od, lk⟩ := lk
  refine ⟨by simp only [itemsD, List.length_map]; omega, fun i d ρ1 S1 H1 hd x R g => ?_, fun i ρ1 S1 H1 hi x R g => ⟨⟨od, x.frz lk⟩, by simp only [itemsD, List.length_map] at hi; omega⟩⟩
  have e0 : S1[l]? = some (.dl kvs) := g (l, .dl kvs) List.mem_cons_self
  simp only [itemsD, List.getElem?_map] at hd
  obtain ⟨p, hp, rfl⟩ := Option.map_eq_some_iff.mp hd
  have hi := (List.getElem?_eq_some_iff.mp hp).1
  refine ⟨⟨⟨od, x.frz lk⟩, by omega⟩, fun y H2 ⟨T, b, v, ey, hT, eH, ky⟩ => ?_⟩
  subst ey eH
  obtain ⟨od', o', es, ep, ys, q1, q2, q3, q4, q5, q6, q7, q8⟩ := R.ob l a _ (x.loc ea) e0
  obtain ⟨b', u, v', e1, e2, ru, e3⟩ := xt_get q8 hp
  obtain ⟨z1, z2⟩ := ky o' es ep ys _ ⟨od', q1⟩ ⟨q2, q3, q4⟩ e1
  subst z1
  rw [RelV.inj z2 ru]
  exact ⟨Ext.new hT, R.new hT, pair_rp hT (R.apart hT) e2 e3⟩
end
/-- what is walked of the dict that the name in slot i holds -/
def MID (X : Cx) (tg iter : Expr) (i : Nat) (f : List (NestedKey × D) → List D) : Prop := PI X tg iter (fun σ H R => ∃ ρ σd S l kvs, Rel (gOf X) ρ H S ∧ REnv (gOf X) ρ H σd σ ∧ σd[i]? = some (some (.loc l)) ∧ S[l]? = some (.dl kvs) ∧ ∀ J, JR (gOf X) ρ H ⟨f kvs, [(l, .dl kvs)]⟩ J → R J H)
section
variable {X : Cx} {W : WX}
theorem xt_vals {K : PySem.W.Frag} {ρ : List Addr} {H : Hp} : ∀ {kvs : List (NestedKey × D)} {xs : List (NestedKey × Addr × Value)}, XtR K ρ H kvs xs → ∀ x ∈ xs, ∃ v, RelV v x.2.2
  | [], _, h, x, hx => by rw [show _ = [] from h] at hx; exact nomatch hx
  | p :: ps, _, h, x, hx => by
    obtain ⟨b, u, v, r, rfl, z, h1, ru, _, h3⟩ := h
    rcases List.mem_cons.mp hx with rfl | hx
    · exact ⟨v, ru⟩
    · exact xt_vals h3 x hx
theorem mid_facts {ρ : List Addr} {H : Hp} {S : Store} {l : Nat} {kvs : List (NestedKey × D)} {v : V} (hR : Rel (gOf X) ρ H S) (e0 : S[l]? = some (.dl kvs)) (hv : RpV X.K ρ H (.loc l) v) :
    ∃ a o es ep xs, v = .ref a ∧ ρ[l]? = some a ∧ Locked H a o ∧ (a == sysModules) = false ∧ Ents X.prog X.w o es ep xs ∧ xs.length = kvs.length ∧ xs.length ≤ sizeLine ∧ ∀ x ∈ xs, ∃ v, RelV v x.2.2 := by
  obtain ⟨a, ea, od, o, es, ep, xs, q1, q2, q3, q4, q5, q6, q7, q8⟩ := hR.place e0
  obtain ⟨a', ea', rfl⟩ := hv
  rw [ea] at ea'
  cases ea'
  exact ⟨a, o, es, ep, xs, rfl, ea, ⟨od, q1⟩, q6, ⟨q2, q3, q4⟩, xt_len q8, q7, xt_vals q8⟩
theorem mid_keys {tg : Expr} {i : Nat} {x : Str} {pos : Pos} (hN : X.N[i]? = some x) (hv : Vis X.env.scope x) (hd : (x == ("__debug__" : Str)) = false := by decide) (hcd : (x == ("__classdict__" : Str)) = false := by decide) : MID X tg (.Name x pos) i keysD := by
  refine PI_imp (pi_nk (pe_var hN hv hd hcd)) fun σ H R ⟨ρ, σd, S, l, kvs, hR, hE, e1, e2, q⟩ => ?_
  obtain ⟨v, ev, rv⟩ := hE.at_ i _ e1
  obtain ⟨a, o, es, ep, xs, rfl, ea, lk, hs, en, hl, hz, _⟩ := mid_facts hR e2 rv
  exact ⟨.ref a, ev, a, o, es, ep, xs, rfl, lk, hs, en, q _ (jr_nk (G := gOf X) ea lk hl hz)⟩
theorem mid_items {i : Nat} {x : Str} {pos apos cpos tpos : Pos} {elts : List Expr} {kk : Nat} (hN : X.N[i]? = some x) (hv : Vis X.env.scope x) (hd : (x == ("__debug__" : Str)) = false := by decide) (hcd : (x == ("__classdict__" : Str)) = false := by decide)
    (hbase : attributeBase (.Name x pos) "items" X.env (eval (.Name x pos) X.env) = eval (.Name x pos) X.env := by rfl) (hline : (apos.endLine == cpos.line) = true := by rfl) :
    MID X (.Tuple elts kk tpos) (.Call (.Attribute (.Name x pos) "items" apos) [] [] cpos) i itemsD := by
  refine PI_imp (pi_ni (pe_var hN hv hd hcd) hbase hline) fun σ H R ⟨ρ, σd, S, l, kvs, hR, hE, e1, e2, q⟩ => ?_
  obtain ⟨v, ev, rv⟩ := hE.at_ i _ e1
  obtain ⟨a, o, es, ep, xs, rfl, ea, lk, hs, en, hl, hz, hx⟩ := mid_facts hR e2 rv
  exact ⟨.ref a, ev, a, o, es, ep, xs, rfl, lk, hs, en, hx, q _ (jr_ni (G := gOf X) ea lk hl hz)⟩
theorem ms_forD {own : List Nat} {tg iter : Expr} {body : List Stmt} {i : Nat} {f : List (NestedKey × D) → List D} {t : TgM} {cb : SM} {pos : Pos} (hp : PassesOwn (model X.prog X.w) X.A X.env X.xe) (hc : X.calm = true) (hi : MID X tg iter i f) (hg : MG X own tg t) (hb : MSs X W body cb)
    (hs : ∀ x, foldedSetIterable iter X.env x = pure x := by intro _; rfl) : MS X W (.For tg iter body [] pos) (sForD f (eVar i) t cb) := by
  refine PS_imp (ps_lock (ps_for hp hc hi hg hb hs)) fun D σ H ⟨ρ, σd, S, hR, hE, h⟩ => ?_
  unfold sForD eVar at h
  split at h
  · rename_i d ed
    cases d with
    | loc l =>
      have h : OutS (gOf X) W ρ H D (match S[l]? with
        | some (.dt kvs) => unlock l kvs (forL [(l, .dl kvs)] t cb (f kvs) σd (S.set l (.dl kvs)))
        | _ => .bad) := h
      split at h
      · rename_i kvs e0
        obtain ⟨v, ev, rv⟩ := hE.at_ i _ ed
        obtain ⟨a, o, xs, rfl, ea, hH, hx, hsm, hz, _⟩ := hR.dt e0 rv
        refine ⟨a, dtO o a, hH, True.intro, fun od => ?_⟩
        obtain ⟨x1, R1⟩ := lock_rel (od := od) hR e0 ea hH
        refine ⟨ρ, σd, S.set l (.dl kvs), l, kvs, R1, hE.ext x1, ed, List.getElem?_set_self (List.getElem?_eq_some_iff.mp e0).1, fun J jr => for_turns (own := own) jr R1 (hE.ext x1) ?_⟩
        cases er : forL [(l, Ob.dl kvs)] t cb (f kvs) σd (S.set l (.dl kvs)) with
        | nx σ1 S1 =>
          rw [er] at h
          unfold unlock at h
          split at h
          · rename_i e1
            cases e1
            intro ρ' H' σ' x r q
            by_cases hl : S1[l]? = some (.dl kvs)
            · rw [if_pos hl] at h
              obtain ⟨z1, z2, z3, z4⟩ := unlock_rel (List.mem_of_getElem? ea) hH x r hl (x.loc ea)
              exact ⟨z1, h ρ' _ σ' z2 z3 ⟨q.len, fun i d e => let ⟨v, e1, rv⟩ := q.at_ i d e; ⟨v, e1, z4 _ _ _ rv⟩⟩⟩
            · rw [if_neg hl] at h
              exact h.elim
          · rename_i e1; cases e1
          · rename_i n1 n2; exact (n1 _ _ rfl).elim
        | rt v S1 =>
          rw [er] at h
          unfold unlock at h
          split at h
          · rename_i e1; cases e1
          · rename_i e1
            cases e1
            intro ρ' H' v' x r q
            by_cases hl : S1[l]? = some (.dl kvs)
            · rw [if_pos hl] at h
              obtain ⟨z1, z2, z3, z4⟩ := unlock_rel (List.mem_of_getElem? ea) hH x r hl (x.loc ea)
              exact ⟨z1, h ρ' _ v' z2 z3 (z4 _ _ _ q)⟩
            · rw [if_neg hl] at h
              exact h.elim
          · rename_i n1 n2; exact (n2 _ _ rfl).elim
        | exc x s1 S1 => rw [er] at h; exact h.elim
        | bad => rw [er] at h; exact h.elim
      · exact h.elim
    | _ => exact h.elim
  · exact h.elim
/-- a list comprehension over a dict -/
theorem lcD_fit {own : List Nat} {i : Nat} {f : List (NestedKey × D) → List D} {t : TgM} {cond elt : EM} {wi : TI} {σ : L2.St} {H : Hp} {Q : VK} (hw : wi = fun σ H R => ∃ ρ σd S l kvs, Rel (gOf X) ρ H S ∧ REnv (gOf X) ρ H σd σ ∧ σd[i]? = some (some (.loc l)) ∧ S[l]? = some (.dl kvs) ∧ ∀ J, JR (gOf X) ρ H ⟨f kvs, [(l, .dl kvs)]⟩ J → R J H)
    (h : tE (gOf X) W (eLCD f (eVar i) t cond elt own) σ H Q) : ∃ a u, H a = some u ∧ Mut (some u) ∧ ∀ od, tLc wi (tTg (gOf X) own t) (tG (gOf X) WN rpB (cB cond)) (tE (gOf X) WN elt) own σ (upd H a (.frz od u)) fun v H' => H' a = some (.frz od u) ∧ Q v (upd H' a u) := by
  subst hw
  obtain ⟨ρ, σd, S, hR, hE, h⟩ := h
  unfold eLCD eVar at h
  split at h
  · rename_i d ed
    cases d with
    | loc l =>
      have h : Out (gOf X) W (rpV (gOf X)) ρ H σ Q (match S[l]? with
        | some (.dt kvs) => noX ((lcL [(l, .dl kvs)] t cond elt (wipeD σd own) (f kvs) (S.set l (.dl kvs))).bind fun ys S2 =>
            if S2[l]? = some (.dl kvs) then .ok (.loc S2.length) (S2.set l (.dt kvs) ++ [.lst ys]) else .bad)
        | _ => .bad) := h
      split at h
      · rename_i kvs e0
        obtain ⟨v, ev, rv⟩ := hE.at_ i _ ed
        obtain ⟨a, o, xs, rfl, ea, hH, hx, hsm, hz, _⟩ := hR.dt e0 rv
        refine ⟨a, dtO o a, hH, True.intro, fun od => ?_⟩
        obtain ⟨x1, R1⟩ := lock_rel (od := od) hR e0 ea hH
        obtain ⟨ys, S2, e, o2⟩ := noX_bind h
        refine ⟨ρ, σd, S.set l (.dl kvs), l, kvs, R1, hE.ext x1, ed, List.getElem?_set_self (List.getElem?_eq_some_iff.mp e0).1, fun J jr Dd hD => ?_⟩
        refine lc_turns (Q := fun v H' => H' a = some (.frz od (dtO o a)) ∧ Q v (upd H' a (dtO o a))) jr R1 (hE.ext x1) hD e fun ρ' H' vs x R' hn hv r hz => ?_
        have hl : S2[l]? = some (.dl kvs) := (lcL_ok e).2 (l, .dl kvs) List.mem_cons_self
        rw [if_pos hl] at o2
        obtain ⟨z1, z2, z3, z4⟩ := unlock_rel (List.mem_of_getElem? ea) hH x R' hl (x.loc ea)
        have hne : Dd ≠ a := fun z => by rw [z, upd_same] at hD; cases hD
        refine ⟨z1, ?_⟩
        have o3 : Out (gOf X) W (rpV (gOf X)) ρ H σ Q (.ok (.loc (S2.set l (.dt kvs)).length) (S2.set l (.dt kvs) ++ [.lst ys])) := by rw [List.length_set]; exact o2
        refine Out.seat o3 (by rw [upd_ne hne] at hD; exact hD) z2 z3 hn (by rw [upd_ne hne]; exact hv) ?_ hz
        have h1 : ∀ vs, ¬ Rd H' a (.tup vs) := fun vs q => by
          rcases q with q | ⟨o2, q⟩
          · rw [z1] at q; cases q
          · rw [z1] at q; cases q
        exact rps_over h1 (fun o2 vs q => by rw [z1] at q; cases q) _ _ r
      · exact h.elim
    | _ => exact h.elim
  · exact h.elim
theorem me_lcD {elt tg iter : Expr} {ifs : List Expr} {scope : Scope} {own : List (Str × Nat)} {pos : Pos} {i : Nat} {f : List (NestedKey × D) → List D} {t : TgM} {cond ce : EM} (hc : X.calm = true) (hN : X.N.Nodup) (hi : MID X tg iter i f) (ok : BlkOk X.N X.env.scope scope own)
    (hg : ∀ (s : Shared) (H : Hp) (C : Addr) (cl : List (Str × Addr)) (fp : List Addr), MG (X.blk s H scope (compEnvC scope cl C X.env) fp) (own.map (·.2)) tg t) (ht : ∀ (s : Shared) (H : Hp) (C : Addr) (cl : List (Str × Addr)) (fp : List Addr), MTs (X.blk s H scope (compEnvC scope cl C X.env) fp) WN ifs cond)
    (he : ∀ (s : Shared) (H : Hp) (C : Addr) (cl : List (Str × Addr)) (fp : List Addr), ME (X.blk s H scope (compEnvC scope cl C X.env) fp) WN elt ce) (hs : ∀ x, foldedSetIterable iter X.env x = pure x := by intro _; rfl) :
    ME X W (.ListComp elt [⟨tg, iter, ifs, 0⟩] scope pos) (eLCD f (eVar i) t cond ce (own.map (·.2))) :=
  PE_imp (pe_lock (pe_lc (own := own) (g := tTg (gOf X) (own.map fun (p : Str × Nat) => p.2) t) (tt := tG (gOf X) WN rpB (cB cond)) (te := tE (gOf X) WN ce) hc hN hi ok hg ht he hs)) fun σ H Q h => lcD_fit rfl h
theorem ms_setLcD {j : Nat} {y : Str} {py : Pos} {elt tg iter : Expr} {ifs : List Expr} {scope : Scope} {own : List (Str × Nat)} {pos spos : Pos} {i : Nat} {f : List (NestedKey × D) → List D} {t : TgM} {cond ce : EM} (hc : X.calm = true) (hN : X.N.Nodup) (hy : X.N[j]? = some y) (hyl : X.env.scope.names.lookup y = some .local)
    (hsw : swapsWith (.ListComp elt [⟨tg, iter, ifs, 0⟩] scope pos) (some (.Name y py)) spos.line X.env = pure true) (hi : MID X tg iter i f) (ok : BlkOk X.N X.env.scope scope own)
    (hg : ∀ (s : Shared) (H : Hp) (C : Addr) (cl : List (Str × Addr)) (fp : List Addr), MG (X.blk s H scope (compEnvC scope cl C X.env) fp) (own.map (·.2)) tg t) (ht : ∀ (s : Shared) (H : Hp) (C : Addr) (cl : List (Str × Addr)) (fp : List Addr), MTs (X.blk s H scope (compEnvC scope cl C X.env) fp) WN ifs cond)
    (he : ∀ (s : Shared) (H : Hp) (C : Addr) (cl : List (Str × Addr)) (fp : List Addr), ME (X.blk s H scope (compEnvC scope cl C X.env) fp) WN elt ce) (hs : ∀ x, foldedSetIterable iter X.env x = pure x := by intro _; rfl) :
    MS X W (.Assign [.Name y py] (.ListComp elt [⟨tg, iter, ifs, 0⟩] scope pos) spos) (sSet (tgN j) (eLCD f (eVar i) t cond ce (own.map (·.2)))) := by
  refine PS_imp (ps_lock (ps_setLc (own := own) (g := tTg (gOf X) (own.map fun (p : Str × Nat) => p.2) t) (tt := tG (gOf X) WN rpB (cB cond)) (te := tE (gOf X) WN ce) hc hN hy hyl hsw hi ok hg ht he hs)) fun D σ H ⟨ρ, σd, S, hR, hE, h⟩ => ?_
  refine (lcD_fit (W := W) rfl (Q := fun x H1 => gName j x σ H1 D.nx) ?_)
  exact stepS hR hE h fun ρ1 H1 d S1 v x1 R1 E1 q1 _ o1 => OutS.nx_here (show OutS (gOf X) W ρ1 H1 D (.nx (σd.set j (some d)) S1) from o1) R1 (E1.set q1)
end
end Mn
set_option maxHeartbeats 4000000
/-! Dict comprehensions, keys that are tuples. -/
namespace Mn
open PySem PySem.Spec PyProof.Rows L2
open Sem (wp)
/-- the turns: the new dict is the place l -/
def dcR (g : List (Nat × Ob)) (tg : TgM) (cond ke ve : EM) (σ : Env) (l : Nat) : List D → Store → R Unit
  | [], S => if It.ok g S then .ok () S else .bad
  | d :: ds, S => if It.ok g S then match tg d σ with
      | some σ1 => match cond σ1 S with
        | .ok (.bl true) S1 => (ke σ1 S1).bind fun k S2 => (ve σ1 S2).bind fun v S3 => match S3[l]?, tkey k with
          | some (.dt kvs), some k => if kvs.length < sizeLine then dcR g tg cond ke ve σ l ds (S3.set l (.dt (kput kvs k v))) else .bad
          | _, _ => .bad
        | .ok (.bl false) S1 => dcR g tg cond ke ve σ l ds S1
        | _ => .bad
      | none => .bad
    else .bad
def eDN (src : IM) (tg : TgM) (cond ke ve : EM) (own : List Nat) : EM := fun σ S => (src σ S).bind fun it S1 =>
  noX ((dcR it.g tg cond ke ve (wipeD σ own) S1.length it.its (S1 ++ [.dt []])).bind fun _ S2 => .ok (.loc S1.length) S2)
def eDND (f : List (NestedKey × D) → List D) (e : EM) (tg : TgM) (cond ke ve : EM) (own : List Nat) : EM := fun σ S => (e σ S).bind fun x S1 => match x with
  | .loc l => match S1[l]? with
    | some (.dt kvs) => noX ((dcR [(l, .dl kvs)] tg cond ke ve (wipeD σ own) S1.length (f kvs) (S1.set l (.dl kvs) ++ [.dt []])).bind fun _ S2 =>
        if S2[l]? = some (.dl kvs) then .ok (.loc S1.length) (S2.set l (.dt kvs)) else .bad)
    | _ => .bad
  | _ => .bad
theorem dcR_nil {g : List (Nat × Ob)} {tg : TgM} {cond ke ve : EM} {σ : Env} {l : Nat} {S S' : Store} (h : dcR g tg cond ke ve σ l [] S = .ok () S') : It.ok g S ∧ S' = S := by
  unfold dcR at h
  split at h
  · rename_i hg
    cases h
    exact ⟨hg, rfl⟩
  · cases h
theorem dcR_cons {g : List (Nat × Ob)} {tg : TgM} {cond ke ve : EM} {σ : Env} {l : Nat} {d : D} {ds : List D} {S S' : Store} (h : dcR g tg cond ke ve σ l (d :: ds) S = .ok () S') :
    It.ok g S ∧ ∃ σ1 b S1, tg d σ = some σ1 ∧ cond σ1 S = .ok (.bl b) S1 ∧ ((b = true ∧ ∃ x S2 v S3 kvs k, ke σ1 S1 = .ok x S2 ∧ ve σ1 S2 = .ok v S3 ∧ S3[l]? = some (.dt kvs) ∧ tkey x = some k ∧ kvs.length < sizeLine ∧ dcR g tg cond ke ve σ l ds (S3.set l (.dt (kput kvs k v))) = .ok () S') ∨ (b = false ∧ dcR g tg cond ke ve σ l ds S1 = .ok () S')) := by
  unfold dcR at h
  split at h
  · rename_i hg
    refine ⟨hg, ?_⟩
    split at h
    · rename_i σ1 e1
      split at h
      · rename_i S1 e2
        refine ⟨σ1, true, S1, e1, e2, .inl ⟨rfl, ?_⟩⟩
        cases e3 : ke σ1 S1 with
        | ok x S2 =>
          rw [e3] at h
          simp only [R.bind] at h
          cases e4 : ve σ1 S2 with
          | ok v S3 =>
            rw [e4] at h
            simp only at h
            split at h
            · rename_i e5 e6
              split at h
              · rename_i hz
                exact ⟨x, S2, v, S3, _, _, rfl, e4, e5, e6, hz, h⟩
              · cases h
            · cases h
          | exc _ _ => rw [e4] at h; cases h
          | bad => rw [e4] at h; cases h
        | exc _ _ => rw [e3] at h; cases h
        | bad => rw [e3] at h; cases h
      · rename_i S1 e2
        exact ⟨σ1, false, S1, e1, e2, .inr ⟨rfl, h⟩⟩
      · cases h
    · cases h
  · cases h
theorem dcR_ok {g : List (Nat × Ob)} {tg : TgM} {cond ke ve : EM} {σ : Env} {l : Nat} : ∀ {ds : List D} {S S' : Store}, dcR g tg cond ke ve σ l ds S = .ok () S' → It.ok g S'
  | [], _, _, h => by obtain ⟨a, b⟩ := dcR_nil h; rw [b]; exact a
  | d :: ds, _, _, h => by
    obtain ⟨a, _, _, _, _, _, b⟩ := dcR_cons h
    rcases b with ⟨_, _, _, _, _, _, _, _, _, _, _, _, e⟩ | ⟨_, e⟩
    · exact dcR_ok e
    · exact dcR_ok e
section
variable {X : Cx} {W : WX}
/-- what the source must hand over -/
def DnRun (X : Cx) (t : TgM) (cond ck cv : EM) (own : List Nat) (σ : L2.St) (Q : VK) : L2.It → Hp → Prop := fun J H1 => ∃ ρ1 S1 it σd S2, Rel (gOf X) ρ1 H1 S1 ∧ REnv (gOf X) ρ1 H1 σd σ ∧ JR (gOf X) ρ1 H1 it J ∧ dcR it.g t cond ck cv (wipeD σd own) S1.length it.its (S1 ++ [.dt []]) = .ok () S2 ∧
  ∀ ρ' H' D, Ext ρ1 H1 ρ' H' → H1 D = none → Rel (gOf X) ρ' H' S2 → ρ'[S1.length]? = some D → Q (.ref D) H'
theorem dn_core {pins : List (Addr × Obj)} {s : Shared} {σ : L2.St} {H : Hp} {Q : VK} {kx vx tg iter : Expr} {ifs : List Expr} {scope : Scope} {own : List (Str × Nat)} {pos pos' : Pos} {wi : TI} {t : TgM} {cond ck cv : EM} {use : Option (Value → Sem Unit)} {Qf : Value → Shared → Prop}
    (hu : X.A.units + 64 < cLine) (hc : X.calm = true) (hN : X.N.Nodup) (I : Inv X pins σ H s) (hi : PI X tg iter wi) (ok : BlkOk X.N X.env.scope scope own)
    (hg : ∀ (s : Shared) (H : Hp) (C : Addr) (cl : List (Str × Addr)) (fp : List Addr), MG (X.blk s H scope (compEnvC scope cl C X.env) fp) (own.map (·.2)) tg t) (ht : ∀ (s : Shared) (H : Hp) (C : Addr) (cl : List (Str × Addr)) (fp : List Addr), MTs (X.blk s H scope (compEnvC scope cl C X.env) fp) WN ifs cond)
    (hk : ∀ (s : Shared) (H : Hp) (C : Addr) (cl : List (Str × Addr)) (fp : List Addr), ME (X.blk s H scope (compEnvC scope cl C X.env) fp) WN kx ck) (he : ∀ (s : Shared) (H : Hp) (C : Addr) (cl : List (Str × Addr)) (fp : List Addr), ME (X.blk s H scope (compEnvC scope cl C X.env) fp) WN vx cv)
    (hs : ∀ x, foldedSetIterable iter X.env x = pure x) (hw : wi σ H (DnRun X t cond ck cv (own.map (·.2)) σ Q))
    (hR : ∀ D C s' m H', Inv X pins σ H' s' → Q (.ref D) H' → s'.heap.Ns C m → FpOk X pins H' C → compPost (model X.prog X.w) X.A X.xe use Qf (.ref D) C (.ok .next) s') :
    wpAny (model X.prog X.w) X.A (comprehension (.DictComp kx vx [⟨tg, iter, ifs, 0⟩] scope pos) scope X.env pos' newDict false (eval iter X.env) use) Qf X.xe s := by
  have cellsOf : ∀ y ∈ scope.names, y.2 = .free → ∃ c, X.env.cells.lookup y.1 = some c := fun y hy e => (ok.free y hy e).elim (fun k => I.ok.has _ (.inl k)) fun k => I.ok.has _ (.inr k)
  refine wpAny_comprehension_free (use := use) rfl hs (closure_ok cellsOf) ok.kind (fun y hy e => by rw [ok.uniq y hy, e]) (thn (hi.run pins s σ H _ I hw) fun src s1 run => thn run fun itv s2 run2 => ?_)
  obtain ⟨it, fp, tn, J, H2, rfl, I2, T, st2, f2, ρ1, S1, itm, σd, S2, R1, E1, jr, edc, fin⟩ := run2
  refine wpAny_newObj_type (newEnv_comp ?_)
  -- the new dict is a place
  have hn : H2 s2.heap.objs.size = none := I2.hok.fresh (Nat.le_refl _)
  have hx0 : ({ cls := .type "dict", data := .dict #[] } : Obj).ExactDict := ⟨rfl, rfl, rfl⟩
  have hg0 := Heap.get?_push_size s2.heap (o := { cls := .type "dict", data := .dict #[] }) rfl
  obtain ⟨D, hD⟩ : ∃ D, D = s2.heap.objs.size := ⟨_, rfl⟩
  obtain ⟨s3, h3⟩ : ∃ s3 : Shared, s3 = { s2 with heap := s2.heap.push { cls := .type "dict", data := .dict #[] } } := ⟨_, rfl⟩
  obtain ⟨H3, hH3⟩ : ∃ H3, H3 = upd H2 D (dtO { cls := .type "dict", data := .dict #[] } D) := ⟨_, rfl⟩
  have I3 : Inv X pins σ H3 s3 := by
    rw [hH3, h3, hD]
    exact I2.laid (t' := s2.toks) (fun b o e => Heap.get?_push_of_some _ e) (Nat.le_refl _) ⟨hg0, ⟨_, hg0⟩, fun h1 h2 e k => k _ e⟩
  have x3 : Ext ρ1 H2 (ρ1 ++ [D]) H3 := by rw [hH3, hD]; exact Ext.alloc hn
  have R3 : Rel (gOf X) (ρ1 ++ [D]) H3 (S1 ++ [.dt []]) := by
    rw [hH3, hD]
    exact R1.alloc hn ⟨_, #[], 0, [], upd_same, hx0, rfl, rfl, List.nodup_nil, beq_eq_false_iff_ne.mpr (Ne.symm (Nat.ne_of_lt I2.big)), Nat.zero_le _, rfl⟩
  have eD : (ρ1 ++ [D])[S1.length]? = some D := by rw [← R1.len]; simp
  have hh3 : s3.heap = s2.heap.push { cls := .type "dict", data := .dict #[] } := by rw [h3]
  have small : ∀ b ∈ fp, b < s2.heap.objs.size := fun b hb => let ⟨o, e, _⟩ := T.obj _ _ st2 b hb; Heap.lt_size e
  have f3 : ∀ b ∈ fp, FpOk X pins H3 b ∧ b < s3.heap.objs.size := fun b hb => by
    have lt := small b hb
    refine ⟨⟨?_, (f2 b hb).2⟩, by rw [hh3, Heap.size_push]; exact Nat.lt_succ_of_lt lt⟩
    rw [hH3, upd_ne (by rw [hD]; exact Nat.ne_of_lt lt)]
    exact (f2 b hb).1
  have st3 : tn 0 s3.heap := T.keep _ _ _ st2 fun b _ o e => by rw [hh3]; exact Heap.get?_push_of_some _ e
  have I4 := block_start I3 ok hN f3
  have pg := hg s3 H3 s3.heap.objs.size (cellsFrom (s3.heap.objs.size + 1) scope.names (cloFrom X.env.cells scope.names [])) fp
  have pt := ht s3 H3 s3.heap.objs.size (cellsFrom (s3.heap.objs.size + 1) scope.names (cloFrom X.env.cells scope.names [])) fp
  have pk := hk s3 H3 s3.heap.objs.size (cellsFrom (s3.heap.objs.size + 1) scope.names (cloFrom X.env.cells scope.names [])) fp
  have pv := he s3 H3 s3.heap.objs.size (cellsFrom (s3.heap.objs.size + 1) scope.names (cloFrom X.env.cells scope.names [])) fp
  rw [← h3, ← hD]
  show codeAny _ _ (.compStart (.DictComp kx vx [⟨tg, iter, ifs, 0⟩] scope pos) 0 (.ref it) (.ref D) (compEnvC scope (cellsFrom (s3.heap.objs.size + 1) scope.names (cloFrom X.env.cells scope.names [])) s3.heap.objs.size X.env)) (compPost (model X.prog X.w) X.A X.xe use Qf (.ref D) s3.heap.objs.size) { s3 with heap := pushCells (s3.heap.push { cls := .type "dict", data := .dict #[] }) scope.names }
  generalize hce : compEnvC scope (cellsFrom (s3.heap.objs.size + 1) scope.names (cloFrom X.env.cells scope.names [])) s3.heap.objs.size X.env = ce at I4 pg pt pk pv ⊢
  have locs : ce.locals = s3.heap.objs.size := by rw [← hce]; rfl
  obtain ⟨s4, h4⟩ : ∃ s4 : Shared, s4 = { s3 with heap := pushCells (s3.heap.push { cls := .type "dict", data := .dict #[] }) scope.names } := ⟨_, rfl⟩
  rw [← h4] at I4 ⊢
  have st4 : tn 0 s4.heap := T.keep _ _ _ st3 fun b _ o e => by rw [h4]; exact pushCells_keeps _ _ _ _ (Heap.get?_push_of_some _ e)
  have standing : ∀ {σ' : L2.St} {H' : Hp} {s' : Shared}, Inv (X.blk s3 H3 scope ce fp) [] σ' H' s' → (∀ b ∈ fp, H' b = none) → ∀ b ∈ fp, FpOk (X.blk s3 H3 scope ce fp) [] H' b := fun {σ' H' s'} I' q b hb =>
    ⟨q b hb, (I'.ok.exf b hb).1, I'.ok.exfs b hb, .inl hb, fun x c e => (I'.ok.exf b hb).2 x c e, fun p hp => absurd (show p ∈ ([] : List (Addr × Obj)) ++ [] from hp) (by simp)⟩
  have loop : codeAny (model X.prog X.w) X.A (.compLoop (.DictComp kx vx [⟨tg, iter, ifs, 0⟩] scope pos) 0 (.ref it) (.ref D) ce) (compPost (model X.prog X.w) X.A X.xe use Qf (.ref D) s3.heap.objs.size) s4 := by
    refine compLoop_anyD (fun n s' => ∃ i H' ρ' S', n + i = itm.its.length ∧ Inv (X.blk s3 H3 scope ce fp) [] (wipe σ (own.map (·.2))) H' s' ∧ tn i s'.heap ∧ (∀ b ∈ fp, H' b = none) ∧ Ext (ρ1 ++ [D]) H3 ρ' H' ∧ Rel (gOf X) ρ' H' S' ∧
      dcR itm.g t cond ck cv (wipeD σd (own.map (·.2))) S1.length (itm.its.drop i) S' = .ok () S2) ?_ itm.its.length ⟨0, H3, ρ1 ++ [D], S1 ++ [.dt []], rfl, I4, st4, fun b hb => (f3 b hb).1.1, Ext.refl, R3, by rw [List.drop_zero]; exact edc⟩
    rintro n s5 ⟨i, H5, ρ5, S5, hni, I5, st5, n5, x5, R5, e5⟩
    rcases drop_cases itm.its i with ⟨ed, hi⟩ | ⟨d, hd, ed⟩
    · rw [ed] at e5
      obtain ⟨hgd, rfl⟩ := dcR_nil e5
      have stop := jr.stop i ρ5 S2 H5 hi (x3.trans x5) R5 hgd
      refine thnF (T.done (X.blk s3 H3 scope ce fp) rfl rfl rfl hc i [] s5 _ H5 (fun _ _ => False) I5 (standing I5 n5) st5 stop) fun r s6 ⟨hr, I6⟩ => ?_
      subst hr
      have I7 : Inv X pins σ H5 s6 := I3.call' (ch := fp) I6.os I6.base I6.hok I6.bare fun b hb => ⟨(f3 b hb).1.2.2.2.1, (f3 b hb).1.2.1, (f3 b hb).1.2.2.2.2.1, (f3 b hb).1.2.2.2.2.2⟩
      have noC : H5 s3.heap.objs.size = none := locs ▸ I6.free
      obtain ⟨m, ns, _⟩ := I6.loc
      have ns : s6.heap.Ns s3.heap.objs.size m := locs ▸ ns
      exact hR D s3.heap.objs.size s6 m H5 I7 (fin ρ5 H5 D (x3.trans x5) (by rw [hD]; exact hn) R5 (x5.loc eD)) ns (I3.fpOk (Nat.le_refl _) noC)
    · rw [ed] at e5
      obtain ⟨hgd, σ1, bb, S6, et, ec, rest⟩ := dcR_cons e5
      obtain ⟨go, yl⟩ := jr.go i d ρ5 S5 H5 hd (x3.trans x5) R5 hgd
      have hlt := (List.getElem?_eq_some_iff.mp hd).1
      refine thnF (T.item (X.blk s3 H3 scope ce fp) rfl rfl rfl hc i [] s5 _ H5 (fun _ _ => False) I5 (standing I5 n5) st5 go) fun r s6 ⟨u, hr, h6⟩ => ?_
      subst hr
      refine thnF h6 fun _ s7 ⟨x, H7, I7, r7, y7, st7, n7⟩ => ?_
      obtain ⟨x7, R7, q7⟩ := yl x H7 y7
      have I8 := I7.pinned (standing I7 n7) (T.obj _ _ st7)
      have E7 : REnv (gOf X) ρ5 H7 (wipeD σd (own.map (·.2))) (wipe σ (own.map (·.2))) := (E1.ext ((x3.trans x5).trans x7)).wipe _
      refine thnF (pg.run _ s7 _ H7 x u (fun σ8 H8 => H8 = H7 ∧ REnv (gOf X) ρ5 H7 σ1 σ8 ∧ wipe σ8 (own.map (·.2)) = wipe σ (own.map (·.2))) I8 r7 ⟨ρ5, S5, d, _, R7, E7, q7, σ1, et, fun σ' E' ag => ⟨rfl, E', wipe_agree ag⟩⟩) fun _ s8 ⟨σ8, H8, I9, eH, E8, w8⟩ => ?_
      subst eH
      refine thnF (pt.run _ s8 σ8 H8 (fun b H9 => b = bb ∧ ∃ ρ9, Ext ρ5 H8 ρ9 H9 ∧ Rel (gOf X) ρ9 H9 S6) I9 (run_ok (a := bb) (S1 := S6) R7 E8 (by unfold cB; rw [ec]; rfl) fun ρ9 H9 b' x9 R9 qb => ⟨qb.symm, ρ9, x9, R9⟩)) fun b s9 ⟨H9, I10, eb, ρ9, x9, R9⟩ => ?_
      subst eb
      -- the turn's end
      have close : ∀ {s' : Shared} {H' : Hp} {ρ' : List Addr} {S' : Store}, Inv (X.blk s3 H3 scope ce fp) ([] ++ pinsAt fp s7.heap) σ8 H' s' → Ext (ρ1 ++ [D]) H3 ρ' H' → Rel (gOf X) ρ' H' S' → dcR itm.g t cond ck cv (wipeD σd (own.map (·.2))) S1.length (itm.its.drop (i + 1)) S' = .ok () S2 →
          ∃ m, m < n ∧ ∃ i H' ρ' S', m + i = itm.its.length ∧ Inv (X.blk s3 H3 scope ce fp) [] (wipe σ (own.map (·.2))) H' s' ∧ tn i s'.heap ∧ (∀ b ∈ fp, H' b = none) ∧ Ext (ρ1 ++ [D]) H3 ρ' H' ∧ Rel (gOf X) ρ' H' S' ∧ dcR itm.g t cond ck cv (wipeD σd (own.map (·.2))) S1.length (itm.its.drop i) S' = .ok () S2 := fun {s' H' ρ' S'} I' x' R' e' => by
        have pinned : ∀ b ∈ fp, ∀ o, s7.heap.get? b = some o → s'.heap.get? b = some o ∧ H' b = none := fun b hb o e =>
          have z := I'.pin (b, o) (List.mem_append_right _ (List.mem_append_right _ (mem_pinsAt hb e)))
          ⟨z.1, z.2.1⟩
        have len : (wipe σ (own.map (·.2))).length = σ8.length := by rw [← w8, wipe_length]
        refine ⟨n - 1, by omega, i + 1, H', ρ', S', by omega, (I'.unpinned (pins := [])).weak len (fun j v e => ?_), T.keep _ _ _ st7 fun b hb o e => (pinned b hb o e).1, fun b hb => ?_, x', R', e'⟩
        · rw [← w8] at e
          exact (wipe_some e).1
        · obtain ⟨o, e, _⟩ := T.obj _ _ st7 b hb
          exact (pinned b hb o e).2
      have x59 : Ext (ρ1 ++ [D]) H3 ρ9 H9 := (x5.trans x7).trans x9
      rcases rest with ⟨rfl, kx', S7, vx', S8, kvs, key, ek, ev, ed8, ekey, hz8, e6⟩ | ⟨rfl, e6⟩
      · rw [if_pos rfl]
        refine thnF (pk.run _ s9 σ8 H9 (fun y H10 => ∃ ρ10, Ext ρ9 H9 ρ10 H10 ∧ Rel (gOf X) ρ10 H10 S7 ∧ RpV X.K ρ10 H10 kx' y) I10 (run_ok R9 (E8.ext x9) ek fun ρ10 H10 y x10 R10 q10 => ⟨ρ10, x10, R10, q10⟩)) fun z s10 ⟨y, H10, I11, r10, ρ10, x10, R10, q10⟩ => ?_
        refine thnF (pv.run _ s10 σ8 H10 (fun y H11 => ∃ ρ11, Ext ρ10 H10 ρ11 H11 ∧ Rel (gOf X) ρ11 H11 S8 ∧ RpV X.K ρ11 H11 vx' y) I11 (run_ok R10 ((E8.ext x9).ext x10) ev fun ρ11 H11 y x11 R11 q11 => ⟨ρ11, x11, R11, q11⟩)) fun z2 s11 ⟨y2, H11, I12, r11, ρ11, x11, R11, q11⟩ => ?_
        have xall := (x59.trans x10).trans x11
        have elD := xall.loc eD
        obtain ⟨a, o, xs, ea, eaρ, hHa, hx, hsm, hz, hm⟩ := (show Rel (gOf (X.blk s3 H3 scope ce fp)) ρ11 H11 S8 from R11).dt ed8 ⟨_, elD, rfl⟩
        cases ea
        obtain ⟨bk, rfl, rfl, hi', hd', rb⟩ := key_is (X := X.blk s3 H3 scope ce fp) I12 ekey (x11.rp _ _ q10) r10
        refine wpAny_dictSet_heap (knd := nk (X.blk s3 H3 scope ce fp)) (room_a (X := X.blk s3 H3 scope ce fp) (k := .none) hu) hi' (hm I12).1 (fun h' hm' sb => ?_) hz
        obtain ⟨H', I', x', R'⟩ := dt_write (X := X.blk s3 H3 scope ce fp) (t' := s11.toks + (nk X).draws key) I12 R11 eaρ hHa hsm hm' sb (xt_put hd' rb r11 q11 hx) (by
          have l := xt_len hx
          unfold storedH
          split
          · rw [List.length_map]; exact hz
          · rw [List.length_append, List.length_singleton, l]; omega)
        exact close I' (xall.trans x') R' e6
      · rw [if_neg Bool.false_ne_true]
        exact close I10 x59 R9 e6
  exact codeAny_compStart_dict loop (T.self X.A 0 _ _ _ st4 loop)
/-- the source of the machine's comprehension -/
theorem dn_fit {src : IM} {t : TgM} {cond ck cv : EM} {own : List Nat} {σ : L2.St} {H : Hp} {Q : VK} (h : tE (gOf X) W (eDN src t cond ck cv own) σ H Q) : tG (gOf X) W (rpI (gOf X)) src σ H (DnRun X t cond ck cv own σ Q) := by
  obtain ⟨ρ, σd, S, hR, hE, h⟩ := h
  refine step hR hE h fun ρ1 H1 it S1 J x1 R1 E1 jr _ o1 => ?_
  obtain ⟨u, S2, e, o2⟩ := noX_bind o1
  exact ⟨ρ1, S1, it, σd, S2, R1, E1, jr, e, fun ρ' H' D x hn R' eD => (show Out (gOf X) W (rpV (gOf X)) ρ1 H1 σ Q (.ok (.loc S1.length) S2) from o2) ρ' H' _ x R' ⟨D, eD, rfl⟩⟩
theorem dnD_fit {own : List Nat} {i : Nat} {f : List (NestedKey × D) → List D} {t : TgM} {cond ck cv : EM} {wi : TI} {σ : L2.St} {H : Hp} {Q : VK} (hw : wi = fun σ H R => ∃ ρ σd S l kvs, Rel (gOf X) ρ H S ∧ REnv (gOf X) ρ H σd σ ∧ σd[i]? = some (some (.loc l)) ∧ S[l]? = some (.dl kvs) ∧ ∀ J, JR (gOf X) ρ H ⟨f kvs, [(l, .dl kvs)]⟩ J → R J H)
    (h : tE (gOf X) W (eDND f (eVar i) t cond ck cv own) σ H Q) : ∃ a u, H a = some u ∧ Mut (some u) ∧ ∀ od, wi σ (upd H a (.frz od u)) (DnRun X t cond ck cv own σ fun v H' => H' a = some (.frz od u) ∧ Q v (upd H' a u)) := by
  subst hw
  obtain ⟨ρ, σd, S, hR, hE, h⟩ := h
  unfold eDND eVar at h
  split at h
  · rename_i d ed
    cases d with
    | loc l =>
      have h : Out (gOf X) W (rpV (gOf X)) ρ H σ Q (match S[l]? with
        | some (.dt kvs) => noX ((dcR [(l, .dl kvs)] t cond ck cv (wipeD σd own) S.length (f kvs) (S.set l (.dl kvs) ++ [.dt []])).bind fun _ S2 =>
            if S2[l]? = some (.dl kvs) then .ok (.loc S.length) (S2.set l (.dt kvs)) else .bad)
        | _ => .bad) := h
      split at h
      · rename_i kvs e0
        obtain ⟨v, ev, rv⟩ := hE.at_ i _ ed
        obtain ⟨a, o, xs, rfl, ea, hH, hx, hsm, hz, _⟩ := hR.dt e0 rv
        refine ⟨a, dtO o a, hH, True.intro, fun od => ?_⟩
        obtain ⟨x1, R1⟩ := lock_rel (od := od) hR e0 ea hH
        obtain ⟨u, S2, e, o2⟩ := noX_bind h
        have hlen : (S.set l (Ob.dl kvs)).length = S.length := List.length_set
        refine ⟨ρ, σd, S.set l (.dl kvs), l, kvs, R1, hE.ext x1, ed, List.getElem?_set_self (List.getElem?_eq_some_iff.mp e0).1, fun J jr => ?_⟩
        refine ⟨ρ, S.set l (.dl kvs), _, σd, S2, R1, hE.ext x1, jr, by rw [hlen]; exact e, fun ρ' H' D x hn R' eD => ?_⟩
        have hl : S2[l]? = some (.dl kvs) := dcR_ok e (l, .dl kvs) List.mem_cons_self
        have o2 : Out (gOf X) W (rpV (gOf X)) ρ H σ Q (noX (if S2[l]? = some (.dl kvs) then .ok (.loc S.length) (S2.set l (.dt kvs)) else .bad)) := o2
        rw [if_pos hl] at o2
        obtain ⟨z1, z2, z3, z4⟩ := unlock_rel (List.mem_of_getElem? ea) hH x R' hl (x.loc ea)
        rw [hlen] at eD
        exact ⟨z1, o2 ρ' _ _ z2 z3 ⟨D, eD, rfl⟩⟩
      · exact h.elim
    | _ => exact h.elim
  · exact h.elim
theorem me_dn {kx vx tg iter : Expr} {ifs : List Expr} {scope : Scope} {own : List (Str × Nat)} {pos : Pos} {src : IM} {t : TgM} {cond ck cv : EM} (hu : X.A.units + 64 < cLine) (hc : X.calm = true) (hN : X.N.Nodup) (hi : MI X W tg iter src) (ok : BlkOk X.N X.env.scope scope own)
    (hg : ∀ (s : Shared) (H : Hp) (C : Addr) (cl : List (Str × Addr)) (fp : List Addr), MG (X.blk s H scope (compEnvC scope cl C X.env) fp) (own.map (·.2)) tg t) (ht : ∀ (s : Shared) (H : Hp) (C : Addr) (cl : List (Str × Addr)) (fp : List Addr), MTs (X.blk s H scope (compEnvC scope cl C X.env) fp) WN ifs cond)
    (hk : ∀ (s : Shared) (H : Hp) (C : Addr) (cl : List (Str × Addr)) (fp : List Addr), ME (X.blk s H scope (compEnvC scope cl C X.env) fp) WN kx ck) (he : ∀ (s : Shared) (H : Hp) (C : Addr) (cl : List (Str × Addr)) (fp : List Addr), ME (X.blk s H scope (compEnvC scope cl C X.env) fp) WN vx cv)
    (hs : ∀ x, foldedSetIterable iter X.env x = pure x := by intro _; rfl) : ME X W (.DictComp kx vx [⟨tg, iter, ifs, 0⟩] scope pos) (eDN src t cond ck cv (own.map (·.2))) := by
  refine ⟨fun pins s σ H Q I h => ?_⟩
  rw [arm_eval_DictComp]
  refine dn_core hu hc hN I hi ok hg ht hk he hs (dn_fit h) fun D C s' m H' I' q hn f => ⟨m, hn, fun h'' sb => ?_⟩
  obtain ⟨f0, f1, f2, f3, f4, f5⟩ := f
  exact ⟨.ref D, H', I'.turned (t' := s'.toks) (fun b o hb e => (sb.2 b hb).trans e) f0 f1 f3 f4 f5, rfl, q⟩
theorem me_dnD {kx vx tg iter : Expr} {ifs : List Expr} {scope : Scope} {own : List (Str × Nat)} {pos : Pos} {i : Nat} {f : List (NestedKey × D) → List D} {t : TgM} {cond ck cv : EM} (hu : X.A.units + 64 < cLine) (hc : X.calm = true) (hN : X.N.Nodup) (hi : MID X tg iter i f) (ok : BlkOk X.N X.env.scope scope own)
    (hg : ∀ (s : Shared) (H : Hp) (C : Addr) (cl : List (Str × Addr)) (fp : List Addr), MG (X.blk s H scope (compEnvC scope cl C X.env) fp) (own.map (·.2)) tg t) (ht : ∀ (s : Shared) (H : Hp) (C : Addr) (cl : List (Str × Addr)) (fp : List Addr), MTs (X.blk s H scope (compEnvC scope cl C X.env) fp) WN ifs cond)
    (hk : ∀ (s : Shared) (H : Hp) (C : Addr) (cl : List (Str × Addr)) (fp : List Addr), ME (X.blk s H scope (compEnvC scope cl C X.env) fp) WN kx ck) (he : ∀ (s : Shared) (H : Hp) (C : Addr) (cl : List (Str × Addr)) (fp : List Addr), ME (X.blk s H scope (compEnvC scope cl C X.env) fp) WN vx cv)
    (hs : ∀ x, foldedSetIterable iter X.env x = pure x := by intro _; rfl) : ME X W (.DictComp kx vx [⟨tg, iter, ifs, 0⟩] scope pos) (eDND f (eVar i) t cond ck cv (own.map (·.2))) := by
  refine ⟨fun pins s σ H Q I h => ?_⟩
  have pl : PE X (.DictComp kx vx [⟨tg, iter, ifs, 0⟩] scope pos) (fun σ H Q => (fun σ H R => ∃ ρ σd S l kvs, Rel (gOf X) ρ H S ∧ REnv (gOf X) ρ H σd σ ∧ σd[i]? = some (some (.loc l)) ∧ S[l]? = some (.dl kvs) ∧ ∀ J, JR (gOf X) ρ H ⟨f kvs, [(l, .dl kvs)]⟩ J → R J H) σ H (DnRun X t cond ck cv (own.map (·.2)) σ Q)) := by
    refine ⟨fun pins s σ H Q I h => ?_⟩
    rw [arm_eval_DictComp]
    refine dn_core hu hc hN I hi ok hg ht hk he hs h fun D C s' m H' I' q hn f => ⟨m, hn, fun h'' sb => ?_⟩
    obtain ⟨f0, f1, f2, f3, f4, f5⟩ := f
    exact ⟨.ref D, H', I'.turned (t' := s'.toks) (fun b o hb e => (sb.2 b hb).trans e) f0 f1 f3 f4 f5, rfl, q⟩
  exact (pe_lock pl).run pins s σ H Q I (dnD_fit rfl h)
/-- given to a name -/
theorem sd_true {kx vx : Expr} {gs : List Comprehension} {scope : Scope} {pos py : Pos} {y : Str} {l : Nat} {env : PySem.Env} (hk : env.scope.kind = .function) (hy : env.scope.names.lookup y = some .local) (hl : (py.line == pos.line) = true)
    (ha : (scope.names.any fun (n, k) => n == y && (k == .local || k == .cell)) = false) : swapsWith (.DictComp kx vx gs scope pos) (some (.Name y py)) l env = pure true := by
  have ky : env.kindOf y = some .local := hy
  have hb : env.blockKind = .function := by unfold Env.blockKind; rw [hk]; rfl
  unfold swapsWith
  simp only [hb, ky, ha, Expr.pos, hl]
  rfl
theorem setDn_core {j : Nat} {y : Str} {py : Pos} {kx vx tg iter : Expr} {ifs : List Expr} {scope : Scope} {own : List (Str × Nat)} {pos spos : Pos} {wi : TI} {t : TgM} {cond ck cv : EM} (hu : X.A.units + 64 < cLine) (hc : X.calm = true) (hN : X.N.Nodup) (hy : X.N[j]? = some y) (hyl : X.env.scope.names.lookup y = some .local)
    (hsw : swapsWith (.DictComp kx vx [⟨tg, iter, ifs, 0⟩] scope pos) (some (.Name y py)) spos.line X.env = pure true) (hi : PI X tg iter wi) (ok : BlkOk X.N X.env.scope scope own)
    (hg : ∀ (s : Shared) (H : Hp) (C : Addr) (cl : List (Str × Addr)) (fp : List Addr), MG (X.blk s H scope (compEnvC scope cl C X.env) fp) (own.map (·.2)) tg t) (ht : ∀ (s : Shared) (H : Hp) (C : Addr) (cl : List (Str × Addr)) (fp : List Addr), MTs (X.blk s H scope (compEnvC scope cl C X.env) fp) WN ifs cond)
    (hk : ∀ (s : Shared) (H : Hp) (C : Addr) (cl : List (Str × Addr)) (fp : List Addr), ME (X.blk s H scope (compEnvC scope cl C X.env) fp) WN kx ck) (he : ∀ (s : Shared) (H : Hp) (C : Addr) (cl : List (Str × Addr)) (fp : List Addr), ME (X.blk s H scope (compEnvC scope cl C X.env) fp) WN vx cv)
    (hs : ∀ x, foldedSetIterable iter X.env x = pure x) : PS X (.Assign [.Name y py] (.DictComp kx vx [⟨tg, iter, ifs, 0⟩] scope pos) spos) (fun D σ H => wi σ H (DnRun X t cond ck cv (own.map (·.2)) σ fun x H1 => gName j x σ H1 D.nx)) := by
  refine ⟨fun pins s σ H D I h => ?_⟩
  rw [exec_Assign_Name_used _ _ _ _ hsw]
  refine wpAny_bind (wpAny_standAt (wpAny_bind ?_))
  show wpAny _ X.A (do let _ ← comprehension (.DictComp kx vx [⟨tg, iter, ifs, 0⟩] scope pos) scope X.env (firstIterPos [⟨tg, iter, ifs, 0⟩] pos) newDict false (eval iter X.env) (some (assign (.Name y py) X.env))) _ _ s
  refine wpAny_bind (thn (dn_core (Qf := fun _ s' => SP X pins D .next s') hu hc hN I hi ok hg ht hk he hs h fun L C s' m H' I' q hn f => ?_) fun _ s' hq => wpAny_pure (wpAny_pure hq))
  show wpAny _ _ (assign (.Name y py) X.env (.ref L)) _ _ _
  refine wpAny_assign_Name (store_ok2 (v := V.ref L) I' hN hy (.inl hyl) rfl (fun s2 I2 ⟨a, sb, ha⟩ => ?_) (.inr hyl))
  have other : C ≠ a := ha.elim (fun z => by rw [z]; exact f.2.1) fun z e => f.2.2.2.2.1 y a z e.symm
  exact ⟨m, hn.sameBut sb other, fun h3 sb3 => ⟨_, H', I2.turned (t' := s2.toks) (fun b o hb e => (sb3.2 b hb).trans e) f.1 f.2.1 f.2.2.2.1 f.2.2.2.2.1 f.2.2.2.2.2, q⟩⟩
theorem ms_setDn {j : Nat} {y : Str} {py : Pos} {kx vx tg iter : Expr} {ifs : List Expr} {scope : Scope} {own : List (Str × Nat)} {pos spos : Pos} {src : IM} {t : TgM} {cond ck cv : EM} (hu : X.A.units + 64 < cLine) (hc : X.calm = true) (hN : X.N.Nodup) (hy : X.N[j]? = some y) (hyl : X.env.scope.names.lookup y = some .local)
    (hsw : swapsWith (.DictComp kx vx [⟨tg, iter, ifs, 0⟩] scope pos) (some (.Name y py)) spos.line X.env = pure true) (hi : MI X W tg iter src) (ok : BlkOk X.N X.env.scope scope own)
    (hg : ∀ (s : Shared) (H : Hp) (C : Addr) (cl : List (Str × Addr)) (fp : List Addr), MG (X.blk s H scope (compEnvC scope cl C X.env) fp) (own.map (·.2)) tg t) (ht : ∀ (s : Shared) (H : Hp) (C : Addr) (cl : List (Str × Addr)) (fp : List Addr), MTs (X.blk s H scope (compEnvC scope cl C X.env) fp) WN ifs cond)
    (hk : ∀ (s : Shared) (H : Hp) (C : Addr) (cl : List (Str × Addr)) (fp : List Addr), ME (X.blk s H scope (compEnvC scope cl C X.env) fp) WN kx ck) (he : ∀ (s : Shared) (H : Hp) (C : Addr) (cl : List (Str × Addr)) (fp : List Addr), ME (X.blk s H scope (compEnvC scope cl C X.env) fp) WN vx cv)
    (hs : ∀ x, foldedSetIterable iter X.env x = pure x := by intro _; rfl) : MS X W (.Assign [.Name y py] (.DictComp kx vx [⟨tg, iter, ifs, 0⟩] scope pos) spos) (sSet (tgN j) (eDN src t cond ck cv (own.map (·.2)))) := by
  refine PS_imp (setDn_core (own := own) hu hc hN hy hyl hsw hi ok hg ht hk he hs) fun D σ H ⟨ρ, σd, S, hR, hE, h⟩ => ?_
  refine dn_fit (W := W) ?_
  exact stepS hR hE h fun ρ1 H1 d S1 v x1 R1 E1 q1 _ o1 => OutS.nx_here (show OutS (gOf X) W ρ1 H1 D (.nx (σd.set j (some d)) S1) from o1) R1 (E1.set q1)
theorem ms_setDnD {j : Nat} {y : Str} {py : Pos} {kx vx tg iter : Expr} {ifs : List Expr} {scope : Scope} {own : List (Str × Nat)} {pos spos : Pos} {i : Nat} {f : List (NestedKey × D) → List D} {t : TgM} {cond ck cv : EM} (hu : X.A.units + 64 < cLine) (hc : X.calm = true) (hN : X.N.Nodup) (hy : X.N[j]? = some y) (hyl : X.env.scope.names.lookup y = some .local)
    (hsw : swapsWith (.DictComp kx vx [⟨tg, iter, ifs, 0⟩] scope pos) (some (.Name y py)) spos.line X.env = pure true) (hi : MID X tg iter i f) (ok : BlkOk X.N X.env.scope scope own)
    (hg : ∀ (s : Shared) (H : Hp) (C : Addr) (cl : List (Str × Addr)) (fp : List Addr), MG (X.blk s H scope (compEnvC scope cl C X.env) fp) (own.map (·.2)) tg t) (ht : ∀ (s : Shared) (H : Hp) (C : Addr) (cl : List (Str × Addr)) (fp : List Addr), MTs (X.blk s H scope (compEnvC scope cl C X.env) fp) WN ifs cond)
    (hk : ∀ (s : Shared) (H : Hp) (C : Addr) (cl : List (Str × Addr)) (fp : List Addr), ME (X.blk s H scope (compEnvC scope cl C X.env) fp) WN kx ck) (he : ∀ (s : Shared) (H : Hp) (C : Addr) (cl : List (Str × Addr)) (fp : List Addr), ME (X.blk s H scope (compEnvC scope cl C X.env) fp) WN vx cv)
    (hs : ∀ x, foldedSetIterable iter X.env x = pure x := by intro _; rfl) : MS X W (.Assign [.Name y py] (.DictComp kx vx [⟨tg, iter, ifs, 0⟩] scope pos) spos) (sSet (tgN j) (eDND f (eVar i) t cond ck cv (own.map (·.2)))) := by
  refine PS_imp (ps_lock (setDn_core (own := own) hu hc hN hy hyl hsw hi ok hg ht hk he hs)) fun D σ H ⟨ρ, σd, S, hR, hE, h⟩ => ?_
  refine dnD_fit (W := W) rfl (Q := fun x H1 => gName j x σ H1 D.nx) ?_
  exact stepS hR hE h fun ρ1 H1 d S1 v x1 R1 E1 q1 _ o1 => OutS.nx_here (show OutS (gOf X) W ρ1 H1 D (.nx (σd.set j (some d)) S1) from o1) R1 (E1.set q1)
end
end Mn
set_option maxHeartbeats 4000000
/-! A comprehension of two fors, the first over a dict. -/
namespace Mn
open PySem PySem.Spec PyProof.Rows L2
open Sem (wp)
/-- the inner turns: the new list is the place l -/
def lcR (g : List (Nat × Ob)) (tg : TgM) (cond elt : EM) (σ : Env) (l : Nat) : List D → Store → R Unit
  | [], S => if It.ok g S then .ok () S else .bad
  | d :: ds, S => if It.ok g S then match tg d σ with
      | some σ1 => match cond σ1 S with
        | .ok (.bl true) S1 => (elt σ1 S1).bind fun y S2 => match S2[l]? with
          | some (.lst xs) => if xs.length < sizeLine then lcR g tg cond elt σ l ds (S2.set l (.lst (xs ++ [y]))) else .bad
          | _ => .bad
        | .ok (.bl false) S1 => lcR g tg cond elt σ l ds S1
        | _ => .bad
      | none => .bad
    else .bad
def lcR2 (g : List (Nat × Ob)) (tg : TgM) (src1 : IM) (tg1 : TgM) (cond1 elt : EM) (σ : Env) (own1 : List Nat) (l : Nat) : List D → Store → R Unit
  | [], S => if It.ok g S then .ok () S else .bad
  | d :: ds, S => if It.ok g S then match tg d σ with
      | some σ1 => (src1 σ1 S).bind fun it S1 => (lcR it.g tg1 cond1 elt (wipeD σ1 own1) l it.its S1).bind fun _ S2 => lcR2 g tg src1 tg1 cond1 elt σ own1 l ds S2
      | none => .bad
    else .bad
def eLC2D (f : List (NestedKey × D) → List D) (e : EM) (tg : TgM) (src1 : IM) (tg1 : TgM) (cond1 elt : EM) (own own1 : List Nat) : EM := fun σ S => (e σ S).bind fun x S1 => match x with
  | .loc l => match S1[l]? with
    | some (.dt kvs) => noX ((lcR2 [(l, .dl kvs)] tg src1 tg1 cond1 elt (wipeD σ own) own1 S1.length (f kvs) (S1.set l (.dl kvs) ++ [.lst []])).bind fun _ S2 =>
        if S2[l]? = some (.dl kvs) then .ok (.loc S1.length) (S2.set l (.dt kvs)) else .bad)
    | _ => .bad
  | _ => .bad
theorem lcR_nil {g : List (Nat × Ob)} {tg : TgM} {cond elt : EM} {σ : Env} {l : Nat} {S S' : Store} (h : lcR g tg cond elt σ l [] S = .ok () S') : It.ok g S ∧ S' = S := by
  unfold lcR at h
  split at h
  · rename_i hg
    cases h
    exact ⟨hg, rfl⟩
  · cases h
theorem lcR_cons {g : List (Nat × Ob)} {tg : TgM} {cond elt : EM} {σ : Env} {l : Nat} {d : D} {ds : List D} {S S' : Store} (h : lcR g tg cond elt σ l (d :: ds) S = .ok () S') :
    It.ok g S ∧ ∃ σ1 b S1, tg d σ = some σ1 ∧ cond σ1 S = .ok (.bl b) S1 ∧ ((b = true ∧ ∃ y S2 xs, elt σ1 S1 = .ok y S2 ∧ S2[l]? = some (.lst xs) ∧ xs.length < sizeLine ∧ lcR g tg cond elt σ l ds (S2.set l (.lst (xs ++ [y]))) = .ok () S') ∨ (b = false ∧ lcR g tg cond elt σ l ds S1 = .ok () S')) := by
  unfold lcR at h
  split at h
  · rename_i hg
    refine ⟨hg, ?_⟩
    split at h
    · rename_i σ1 e1
      split at h
      · rename_i S1 e2
        refine ⟨σ1, true, S1, e1, e2, .inl ⟨rfl, ?_⟩⟩
        cases e3 : elt σ1 S1 with
        | ok y S2 =>
          rw [e3] at h
          simp only [R.bind] at h
          split at h
          · rename_i e5
            split at h
            · rename_i hz
              exact ⟨y, S2, _, rfl, e5, hz, h⟩
            · cases h
          · cases h
        | exc _ _ => rw [e3] at h; cases h
        | bad => rw [e3] at h; cases h
      · rename_i S1 e2
        exact ⟨σ1, false, S1, e1, e2, .inr ⟨rfl, h⟩⟩
      · cases h
    · cases h
  · cases h
theorem lcR2_nil {g : List (Nat × Ob)} {tg tg1 : TgM} {src1 : IM} {cond elt : EM} {σ : Env} {own1 : List Nat} {l : Nat} {S S' : Store} (h : lcR2 g tg src1 tg1 cond elt σ own1 l [] S = .ok () S') : It.ok g S ∧ S' = S := by
  unfold lcR2 at h
  split at h
  · rename_i hg
    cases h
    exact ⟨hg, rfl⟩
  · cases h
theorem lcR2_cons {g : List (Nat × Ob)} {tg tg1 : TgM} {src1 : IM} {cond elt : EM} {σ : Env} {own1 : List Nat} {l : Nat} {d : D} {ds : List D} {S S' : Store} (h : lcR2 g tg src1 tg1 cond elt σ own1 l (d :: ds) S = .ok () S') :
    It.ok g S ∧ ∃ σ1 it S1 S2, tg d σ = some σ1 ∧ src1 σ1 S = .ok it S1 ∧ lcR it.g tg1 cond elt (wipeD σ1 own1) l it.its S1 = .ok () S2 ∧ lcR2 g tg src1 tg1 cond elt σ own1 l ds S2 = .ok () S' := by
  unfold lcR2 at h
  split at h
  · rename_i hg
    refine ⟨hg, ?_⟩
    split at h
    · rename_i σ1 e1
      cases e2 : src1 σ1 S with
      | ok it S1 =>
        rw [e2] at h
        simp only [R.bind] at h
        cases e3 : lcR it.g tg1 cond elt (wipeD σ1 own1) l it.its S1 with
        | ok u S2 =>
          rw [e3] at h
          exact ⟨σ1, it, S1, S2, e1, e2, e3, h⟩
        | exc _ _ => rw [e3] at h; cases h
        | bad => rw [e3] at h; cases h
      | exc _ _ => rw [e2] at h; cases h
      | bad => rw [e2] at h; cases h
    · cases h
  · cases h
theorem lcR2_ok {g : List (Nat × Ob)} {tg tg1 : TgM} {src1 : IM} {cond elt : EM} {σ : Env} {own1 : List Nat} {l : Nat} : ∀ {ds : List D} {S S' : Store}, lcR2 g tg src1 tg1 cond elt σ own1 l ds S = .ok () S' → It.ok g S'
  | [], _, _, h => by obtain ⟨a, b⟩ := lcR2_nil h; rw [b]; exact a
  | d :: ds, _, _, h => by
    obtain ⟨_, _, _, _, _, _, _, _, e⟩ := lcR2_cons h
    exact lcR2_ok e
section
variable {X : Cx} {W : WX}
theorem lc2_turns {G : Gc} {ρ1 : List Addr} {H1 : Hp} {S1 S2 : Store} {σd : Env} {σ : L2.St} {it : It} {J : L2.It} {t t1 : TgM} {own own1 : List Nat} {src1 : IM} {cond1 elt : EM} {Q : V → Hp → Prop} {Dd : Addr} (jr : JR G ρ1 H1 it J) (R1 : Rel G ρ1 H1 S1) (E1 : REnv G ρ1 H1 σd σ) (hD : H1 Dd = none)
    (e : lcR2 it.g t src1 t1 cond1 elt (wipeD σd own) own1 S1.length it.its (S1 ++ [.lst []]) = .ok () S2) (hq : ∀ ρ' H', Ext ρ1 H1 ρ' H' → Rel G ρ' H' S2 → ρ'[S1.length]? = some Dd → Q (.ref Dd) H') :
    ∃ W' : Nat → Nat → Hp → Prop, (∃ m, W' 0 m (upd H1 Dd (.lst []))) ∧ ∀ i m H, W' i m H →
      (J.stop i H ∧ Q (.ref Dd) H) ∨ (J.go i H ∧ ∃ Nx : Hp → Prop, (∀ H', Nx H' → ∃ m', m' < m ∧ W' (i + 1) m' H') ∧ ∀ x H', J.yld i H x H' → tTg G own t x (L2.wipe σ own) H' fun σ2 H2 => L2.wipe σ2 own = L2.wipe σ own ∧ tG G WN rpB (cB eYes) σ2 H2 fun b H3 =>
        if b = true then tG G WN (rpI G) src1 σ2 H3 fun J1 H4 => ∃ W1 : Nat → Nat → Hp → Prop, (∃ m, W1 0 m H4) ∧ ∀ j k H, W1 j k H →
          (J1.stop j H ∧ Nx H) ∨ (J1.go j H ∧ ∃ Nx1 : Hp → Prop, (∀ H', Nx1 H' → ∃ k', k' < k ∧ W1 (j + 1) k' H') ∧ ∀ x H', J1.yld j H x H' → tTg G own1 t1 x (L2.wipe σ2 own1) H' fun σ3 H5 => L2.wipe σ3 own1 = L2.wipe σ2 own1 ∧ tG G WN rpB (cB cond1) σ3 H5 fun b H6 =>
            if b = true then tE G WN elt σ3 H6 fun y H7 => ∃ acc, H7 Dd = some (.lst acc) ∧ acc.length < sizeLine ∧ Nx1 (upd H7 Dd (.lst (acc ++ [y]))) else Nx1 H6)
        else Nx H3) := by
  have xA : Ext ρ1 H1 (ρ1 ++ [Dd]) (upd H1 Dd (.lst [])) := Ext.alloc hD
  have RA : Rel G (ρ1 ++ [Dd]) (upd H1 Dd (.lst [])) (S1 ++ [.lst []]) := R1.alloc hD ⟨[], upd_same, rfl, Nat.zero_le _⟩
  have eD : (ρ1 ++ [Dd])[S1.length]? = some Dd := by rw [← R1.len]; simp
  refine ⟨fun i m H' => m + i = it.its.length ∧ ∃ ρ' S', Ext (ρ1 ++ [Dd]) (upd H1 Dd (.lst [])) ρ' H' ∧ Rel G ρ' H' S' ∧ lcR2 it.g t src1 t1 cond1 elt (wipeD σd own) own1 S1.length (it.its.drop i) S' = .ok () S2,
    ⟨it.its.length, rfl, _, _, Ext.refl, RA, by rw [List.drop_zero]; exact e⟩, ?_⟩
  rintro i m H2 ⟨hm, ρ2, S', x2, R2, e2⟩
  have x12 := xA.trans x2
  rcases drop_cases it.its i with ⟨ed, hi⟩ | ⟨d, hd, ed⟩
  · rw [ed] at e2
    obtain ⟨hg, rfl⟩ := lcR2_nil e2
    exact .inl ⟨jr.stop i ρ2 S2 H2 hi x12 R2 hg, hq ρ2 H2 x12 R2 (x2.loc eD)⟩
  · rw [ed] at e2
    obtain ⟨hg, σ1, it1, S3, S4, et, es, el, e3⟩ := lcR2_cons e2
    obtain ⟨go, yl⟩ := jr.go i d ρ2 S' H2 hd x12 R2 hg
    have hlt := (List.getElem?_eq_some_iff.mp hd).1
    refine .inr ⟨go, fun H' => ∃ ρ' S', Ext (ρ1 ++ [Dd]) (upd H1 Dd (.lst [])) ρ' H' ∧ Rel G ρ' H' S' ∧ lcR2 it.g t src1 t1 cond1 elt (wipeD σd own) own1 S1.length (it.its.drop (i + 1)) S' = .ok () S2, fun H' q => ⟨m - 1, by omega, by omega, q⟩, fun x H' y => ?_⟩
    obtain ⟨x3, R3, q3⟩ := yl x H' y
    refine ⟨ρ2, S', d, wipeD σd own, R3, (E1.ext (x12.trans x3)).wipe own, q3, σ1, et, fun σ' E' ag => ⟨wipe_agree ag, ?_⟩⟩
    refine run_ok (a := true) (S1 := S') R3 E' (by unfold cB eYes; rfl) fun ρ4 H4 b' x4 R4 qb => ?_
    cases qb
    rw [if_pos rfl]
    refine run_ok R4 (E'.ext x4) es fun ρ5 H5 J1 x5 R5 jr1 => ?_
    have x25 := (x2.trans x3).trans (x4.trans x5)
    refine ⟨fun j k H => k + j = it1.its.length ∧ ∃ ρ' S', Ext ρ5 H5 ρ' H ∧ Rel G ρ' H S' ∧ lcR it1.g t1 cond1 elt (wipeD σ1 own1) S1.length (it1.its.drop j) S' = .ok () S4, ⟨it1.its.length, rfl, ρ5, S3, Ext.refl, R5, by rw [List.drop_zero]; exact el⟩, ?_⟩
    rintro j k H6 ⟨hk, ρ6, S6, x6, R6, e6⟩
    rcases drop_cases it1.its j with ⟨ed1, hj⟩ | ⟨d1, hd1, ed1⟩
    · rw [ed1] at e6
      obtain ⟨hg1, rfl⟩ := lcR_nil e6
      exact .inl ⟨jr1.stop j ρ6 S4 H6 hj x6 R6 hg1, ρ6, S4, x25.trans x6, R6, e3⟩
    · rw [ed1] at e6
      obtain ⟨hg1, σ2, bb, S7, et1, ec1, rest⟩ := lcR_cons e6
      obtain ⟨go1, yl1⟩ := jr1.go j d1 ρ6 S6 H6 hd1 x6 R6 hg1
      have hlt1 := (List.getElem?_eq_some_iff.mp hd1).1
      refine .inr ⟨go1, fun H => ∃ ρ' S', Ext ρ5 H5 ρ' H ∧ Rel G ρ' H S' ∧ lcR it1.g t1 cond1 elt (wipeD σ1 own1) S1.length (it1.its.drop (j + 1)) S' = .ok () S4, fun H' q => ⟨k - 1, by omega, by omega, q⟩, fun x H' y => ?_⟩
      obtain ⟨x7, R7, q7⟩ := yl1 x H' y
      refine ⟨ρ6, S6, d1, wipeD σ1 own1, R7, ((E'.ext (x4.trans x5)).ext (x6.trans x7)).wipe own1, q7, σ2, et1, fun σ3 E3 ag => ⟨wipe_agree ag, ?_⟩⟩
      refine run_ok (a := bb) (S1 := S7) R7 E3 (by unfold cB; rw [ec1]; rfl) fun ρ8 H8 b' x8 R8 qb => ?_
      cases qb
      rcases rest with ⟨rfl, y', S8, xs, ee, exs, hz, e7⟩ | ⟨rfl, e7⟩
      · rw [if_pos rfl]
        refine run_ok R8 (E3.ext x8) ee fun ρ9 H9 yv x9 R9 qy => ?_
        have x59 := x6.trans (x7.trans (x8.trans x9))
        have elD := (x25.trans x59).loc eD
        obtain ⟨a, vs, ea, eaρ, ha, ra, hzz⟩ := R9.lst exs ⟨_, elD, rfl⟩
        cases ea
        have hf : ∀ o u, H9 Dd ≠ some (.frz o u) := fun o u z => by rw [ha] at z; cases z
        have xw := Ext.write (ρ := ρ9) (u := .lst (vs ++ [yv])) (List.mem_of_getElem? elD) hf
        refine ⟨vs, ha, by rw [ra.length]; exact hz, ρ9, _, x59.trans xw, R9.write (o := .lst (xs ++ [y'])) elD hf ⟨vs ++ [yv], upd_same, xw.rps _ _ (ra.append ⟨yv, [], rfl, qy, rfl⟩), ?_⟩, e7⟩
        rw [List.length_append, ra.length]
        exact hz
      · rw [if_neg Bool.false_ne_true]
        exact ⟨ρ8, S7, x6.trans (x7.trans x8), R8, e7⟩
theorem lc2D_fit {own own1 : List Nat} {i : Nat} {f : List (NestedKey × D) → List D} {t t1 : TgM} {src1 : IM} {cond1 elt : EM} {wi : TI} {σ : L2.St} {H : Hp} {Q : VK} (hw : wi = fun σ H R => ∃ ρ σd S l kvs, Rel (gOf X) ρ H S ∧ REnv (gOf X) ρ H σd σ ∧ σd[i]? = some (some (.loc l)) ∧ S[l]? = some (.dl kvs) ∧ ∀ J, JR (gOf X) ρ H ⟨f kvs, [(l, .dl kvs)]⟩ J → R J H)
    (h : tE (gOf X) W (eLC2D f (eVar i) t src1 t1 cond1 elt own own1) σ H Q) : ∃ a u, H a = some u ∧ Mut (some u) ∧ ∀ od, tLc2 wi (tTg (gOf X) own t) (tG (gOf X) WN rpB (cB eYes)) (tG (gOf X) WN (rpI (gOf X)) src1) (tTg (gOf X) own1 t1) (tG (gOf X) WN rpB (cB cond1)) (tE (gOf X) WN elt) own own1 σ (upd H a (.frz od u)) fun v H' => H' a = some (.frz od u) ∧ Q v (upd H' a u) := by
  subst hw
  obtain ⟨ρ, σd, S, hR, hE, h⟩ := h
  unfold eLC2D eVar at h
  split at h
  · rename_i d ed
    cases d with
    | loc l =>
      have h : Out (gOf X) W (rpV (gOf X)) ρ H σ Q (match S[l]? with
        | some (.dt kvs) => noX ((lcR2 [(l, .dl kvs)] t src1 t1 cond1 elt (wipeD σd own) own1 S.length (f kvs) (S.set l (.dl kvs) ++ [.lst []])).bind fun _ S2 =>
            if S2[l]? = some (.dl kvs) then .ok (.loc S.length) (S2.set l (.dt kvs)) else .bad)
        | _ => .bad) := h
      split at h
      · rename_i kvs e0
        obtain ⟨v, ev, rv⟩ := hE.at_ i _ ed
        obtain ⟨a, o, xs, rfl, ea, hH, hx, hsm, hz, _⟩ := hR.dt e0 rv
        refine ⟨a, dtO o a, hH, True.intro, fun od => ?_⟩
        obtain ⟨x1, R1⟩ := lock_rel (od := od) hR e0 ea hH
        obtain ⟨u, S2, e, o2⟩ := noX_bind h
        have hlen : (S.set l (Ob.dl kvs)).length = S.length := List.length_set
        refine ⟨ρ, σd, S.set l (.dl kvs), l, kvs, R1, hE.ext x1, ed, List.getElem?_set_self (List.getElem?_eq_some_iff.mp e0).1, fun J jr Dd hD => ?_⟩
        refine lc2_turns (Q := fun v H' => H' a = some (.frz od (dtO o a)) ∧ Q v (upd H' a (dtO o a))) jr R1 (hE.ext x1) hD (by rw [hlen]; exact e) fun ρ' H' x R' eD => ?_
        have hl : S2[l]? = some (.dl kvs) := lcR2_ok e (l, .dl kvs) List.mem_cons_self
        have o2 : Out (gOf X) W (rpV (gOf X)) ρ H σ Q (noX (if S2[l]? = some (.dl kvs) then .ok (.loc S.length) (S2.set l (.dt kvs)) else .bad)) := o2
        rw [if_pos hl] at o2
        obtain ⟨z1, z2, z3, z4⟩ := unlock_rel (List.mem_of_getElem? ea) hH x R' hl (x.loc ea)
        rw [hlen] at eD
        exact ⟨z1, o2 ρ' _ _ z2 z3 ⟨Dd, eD, rfl⟩⟩
      · exact h.elim
    | _ => exact h.elim
  · exact h.elim
theorem me_lc2D {elt tg iter tg1 iter1 : Expr} {ifs1 : List Expr} {scope : Scope} {own : List (Str × Nat)} {own1 : List Nat} {pos : Pos} {i : Nat} {f : List (NestedKey × D) → List D} {t t1 : TgM} {src1 : IM} {cond1 ce : EM} (hc : X.calm = true) (hN : X.N.Nodup) (hi : MID X tg iter i f) (ok : BlkOk X.N X.env.scope scope own) (hv : ∀ i ∈ own1, i ∈ own.map (·.2))
    (hg : ∀ (s : Shared) (H : Hp) (C : Addr) (cl : List (Str × Addr)) (fp : List Addr), MG (X.blk s H scope (compEnvC scope cl C X.env) fp) (own.map (·.2)) tg t)
    (hi1 : ∀ (s : Shared) (H : Hp) (C : Addr) (cl : List (Str × Addr)) (fp : List Addr), MI (X.blk s H scope (compEnvC scope cl C X.env) fp) WN tg1 iter1 src1)
    (hg1 : ∀ (s : Shared) (H : Hp) (C : Addr) (cl : List (Str × Addr)) (fp : List Addr), MG (X.blk s H scope (compEnvC scope cl C X.env) fp) own1 tg1 t1) (ht1 : ∀ (s : Shared) (H : Hp) (C : Addr) (cl : List (Str × Addr)) (fp : List Addr), MTs (X.blk s H scope (compEnvC scope cl C X.env) fp) WN ifs1 cond1)
    (he : ∀ (s : Shared) (H : Hp) (C : Addr) (cl : List (Str × Addr)) (fp : List Addr), ME (X.blk s H scope (compEnvC scope cl C X.env) fp) WN elt ce) (hs : ∀ x, foldedSetIterable iter X.env x = pure x := by intro _; rfl) (hs1 : ∀ env x, foldedSetIterable iter1 env x = pure x := by intro _ _; rfl) :
    ME X W (.ListComp elt [⟨tg, iter, [], 0⟩, ⟨tg1, iter1, ifs1, 0⟩] scope pos) (eLC2D f (eVar i) t src1 t1 cond1 ce (own.map (·.2)) own1) :=
  PE_imp (pe_lock (pe_lc2 (own := own) (vs1 := own1) (g := tTg (gOf X) (own.map fun (p : Str × Nat) => p.2) t) (tt := tG (gOf X) WN rpB (cB eYes)) (wi1 := tG (gOf X) WN (rpI (gOf X)) src1) (g1 := tTg (gOf X) own1 t1) (tt1 := tG (gOf X) WN rpB (cB cond1)) (te := tE (gOf X) WN ce)
    hc hN hi ok hv hg (fun _ _ _ _ _ => mts_nil) hi1 hg1 ht1 he hs hs1)) fun σ H Q h => lc2D_fit rfl h
end
end Mn
set_option maxHeartbeats 4000000
/-! isinstance; l.index; xs[::-1]; texts: split, join, strip; ranges from a to b. -/
namespace Mn
open PySem PySem.Spec PyProof.Rows L2
open Sem (wp)
/-! ### isinstance, of built-in classes -/
def dty (S : Store) : D → Option String
  | .non => some "NoneType"
  | .bl _ => some "bool"
  | .int _ => some "int"
  | .str _ => some "str"
  | .tup _ => some "tuple"
  | .ro _ => some "list"
  | .loc l => match S[l]? with
    | some (.lst _) => some "list"
    | _ => none
def subT (t T : String) : Bool := t == T || (t == "bool" && T == "int")
def tNames : List String := ["NoneType", "bool", "int", "str", "tuple", "list"]
theorem kit_tab : (tNames.all fun t => ["int", "str", "tuple", "list", "bool"].all fun T => kitB t T == some (subT t T)) = true := by decide +kernel
theorem kit_of' {K : PySem.W.Frag} {t T : String} (h : t ∈ tNames) (hT : T ∈ ["int", "str", "tuple", "list", "bool"]) : PySem.W.kitOne K (.type t) (.type T) = some (subT t T) :=
  kit_ty (by simpa using List.all_eq_true.mp (List.all_eq_true.mp kit_tab t h) T hT)
theorem dty_in {S : Store} {d : D} {t : String} (h : dty S d = some t) : t ∈ tNames := by
  unfold dty at h
  split at h <;> try (cases h; decide)
  split at h
  · cases h; decide
  · cases h
section
variable {X : Cx} {W : WX}
theorem dty_ty {ρ : List Addr} {H : Hp} {S : Store} {d : D} {v : V} {t : String} (hR : Rel (gOf X) ρ H S) (hd : RpV X.K ρ H d v) (h : dty S d = some t) : TyX X.K H v (.type t) := by
  cases d with
  | non => cases h; rw [show v = _ from hd]; exact .base .non
  | bl b => cases h; rw [show v = _ from hd]; exact .base (.bl _)
  | int b => cases h; rw [show v = _ from hd]; exact .base (.int _)
  | str b => cases h; rw [show v = _ from hd]; exact .base (.str _)
  | tup xs =>
    cases h
    obtain ⟨a, vs, rfl, ta, _, _⟩ := hd
    rcases ta with ⟨ta, _⟩ | ⟨o, its, n, q1, q2, _⟩
    · rcases ta with ta | ⟨o, ta⟩
      · exact .base (.tup ta)
      · exact .fTuple ta
    · exact .kTuple q1 q2
  | ro xs =>
    cases h
    obtain ⟨a, vs, rfl, ta, _, _⟩ := hd
    rcases ta with ⟨o, ta⟩ | ⟨o, its, n, q1, q2, _⟩
    · exact .base (.frz ta)
    · exact .kList q1 q2
  | loc l =>
    unfold dty at h
    simp only at h
    split at h
    · rename_i xs e
      cases h
      obtain ⟨a, vs, rfl, _, ha, _⟩ := hR.lst e hd
      exact .base (.lst ha)
    · cases h
def bIsI (T : String) : D → Store → R D := fun d S => match dty S d with
  | some t => .ok (.bl (subT t T)) S
  | none => .bad
def bIsI2 (T T' : String) : D → Store → R D := fun d S => match dty S d with
  | some t => .ok (.bl (subT t T || subT t T')) S
  | none => .bad
theorem me_isI {T : String} {x : Str} {a : Expr} {ca : EM} {p p2 pos : Pos} (hT : T ∈ ["int", "str", "tuple", "list", "bool"]) (hg : Gl X "isinstance") (hm : X.mg "isinstance" = none) (hgx : Gl X x) (hmx : X.mg x = none) (hv : bootBuiltins x = some (.type T)) (ha : ME X W a ca)
    (hn : x ≠ "__name__" := by decide) (hdb : (x == ("__debug__" : Str)) = false := by decide)
    (he : starEach [a, .Name x p2] X.env = (false, eval a X.env) :: starEach [.Name x p2] X.env := by rfl) (he2 : starEach [.Name x p2] X.env = (false, eval (.Name x p2) X.env) :: starEach [] X.env := by rfl) (hpl : (backTo pos (starEach [.Name x p2] X.env)).any (·.1) = false := by rfl) :
    ME X W (.Call (.Name "isinstance" p) [a, .Name x p2] [] pos) (e1 (bIsI T) ca) := by
  refine PE_imp (pe_callB call_isi hg hm boot_isinstance (pa_cons ha (pa_cons (pe_bltn (v := .ty T) hgx hmx hv rfl hn hdb) pa_nil he2) he) (by decide) (by decide) he hpl) fun σ H Q ⟨ρ, σd, S, hR, hE, h⟩ => ?_
  refine step hR hE h fun ρ1 H1 d S1 v x1 R1 E1 q1 _ o1 => ?_
  unfold bIsI at o1
  split at o1
  · rename_i t et
    exact ⟨v, .ty T, .type t, .type T, subT t T, rfl, .ty T, dty_ty R1 q1 et, kit_of' (dty_in et) hT, o1.here R1 rfl⟩
  · exact o1.elim
theorem me_isI2 {T T' : String} {x x' : Str} {a : Expr} {ca : EM} {p p2 p3 p4 pos : Pos} {kk : Nat} (hT : T ∈ ["int", "str", "tuple", "list", "bool"]) (hT' : T' ∈ ["int", "str", "tuple", "list", "bool"]) (hg : Gl X "isinstance") (hm : X.mg "isinstance" = none) (hgx : Gl X x) (hmx : X.mg x = none) (hv : bootBuiltins x = some (.type T)) (hgx' : Gl X x') (hmx' : X.mg x' = none) (hv' : bootBuiltins x' = some (.type T')) (ha : ME X W a ca)
    (hn : x ≠ "__name__" := by decide) (hdb : (x == ("__debug__" : Str)) = false := by decide) (hn' : x' ≠ "__name__" := by decide) (hdb' : (x' == ("__debug__" : Str)) = false := by decide)
    (he : starEach [a, .Tuple [.Name x p2, .Name x' p3] kk p4] X.env = (false, eval a X.env) :: starEach [.Tuple [.Name x p2, .Name x' p3] kk p4] X.env := by rfl) (he2 : starEach [.Tuple [.Name x p2, .Name x' p3] kk p4] X.env = (false, eval (.Tuple [.Name x p2, .Name x' p3] kk p4) X.env) :: starEach [] X.env := by rfl)
    (he3 : starEach [.Name x p2, .Name x' p3] X.env = (false, eval (.Name x p2) X.env) :: starEach [.Name x' p3] X.env := by rfl) (he4 : starEach [.Name x' p3] X.env = (false, eval (.Name x' p3) X.env) :: starEach [] X.env := by rfl)
    (hpl : (backTo pos (starEach [.Tuple [.Name x p2, .Name x' p3] kk p4] X.env)).any (·.1) = false := by rfl) :
    ME X W (.Call (.Name "isinstance" p) [a, .Tuple [.Name x p2, .Name x' p3] kk p4] [] pos) (e1 (bIsI2 T T') ca) := by
  refine PE_imp (pe_callB call_isiT hg hm boot_isinstance (pa_cons ha (pa_cons (pe_tup (pa_cons (pe_bltn (v := .ty T) hgx hmx hv rfl hn hdb) (pa_cons (pe_bltn (v := .ty T') hgx' hmx' hv' rfl hn' hdb') pa_nil he4) he3)) pa_nil he2) he) (by decide) (by decide) he hpl) fun σ H Q ⟨ρ, σd, S, hR, hE, h⟩ => ?_
  refine step hR hE h fun ρ1 H1 d S1 v x1 R1 E1 q1 _ o1 => ?_
  refine ⟨by show 2 ≤ sizeLine; decide, fun tp ntp => ?_⟩
  unfold bIsI2 at o1
  split at o1
  · rename_i t et
    refine ⟨v, tp, [.ty T, .ty T'], .type t, [.type T, .type T'], subT t T || subT t T', rfl, upd_same, .cons (.ty T) (.cons (.ty T') .nil), dty_ty (R1.new ntp) ((Ext.new ntp).rp _ _ q1) et, ?_, o1 ρ1 _ _ (Ext.new ntp) (R1.new ntp) rfl⟩
    refine kitAny_cons (kit_of' (dty_in et) hT) (fun e => ?_) (fun e => by rw [e, Bool.true_or])
    rw [e, Bool.false_or]
    exact kitAny_cons (kit_of' (dty_in et) hT') (fun e => by rw [e]; exact kitAny_nil) (fun e => e)
  · exact o1.elim
/-! ### l.index(x) -/
def idxD (d : PyData) : List PyData → Option Nat
  | [] => none
  | e :: es => if PyData.eqv e d = true then some 0 else (idxD d es).map (· + 1)
theorem idxD_some {d : PyData} : ∀ {es : List PyData} {j : Nat}, idxD d es = some j → ∃ z, es[j]? = some z ∧ PyData.eqv z d = true ∧ ∀ m z', m < j → es[m]? = some z' → PyData.eqv z' d = false
  | [], j, h => by cases h
  | e :: es, j, h => by
    unfold idxD at h
    by_cases he : PyData.eqv e d = true
    · rw [if_pos he] at h
      cases h
      exact ⟨e, rfl, he, fun m z' hm => absurd hm (Nat.not_lt_zero _)⟩
    · rw [if_neg he] at h
      obtain ⟨k, hk, rfl⟩ := Option.map_eq_some_iff.mp h
      obtain ⟨z, h1, h2, h3⟩ := idxD_some hk
      refine ⟨z, by simpa using h1, h2, fun m z' hm e' => ?_⟩
      cases m with
      | zero =>
        simp only [List.getElem?_cons_zero, Option.some.injEq] at e'
        subst e'
        simpa using he
      | succ m => exact h3 m z' (by omega) (by simpa using e')
def mIndex : List D → Store → R D
  | [.loc l, y], S => match S[l]? with
    | some (.lst xs) => match xs.mapM (pd 9 S), pd 9 S y with
      | some es, some d => if SeqAt.shaped d = true ∧ SeqAt.shaped (.list es) = true then match idxD d es with
          | some j => .ok (.int (j : Nat)) S
          | none => .bad
        else .bad
      | _, _ => .bad
    | _ => .bad
  | _, _ => .bad
theorem mr_index (hu : X.A.units + 65 < cLine) : MtR X "list.index" (fun x xs H Q => rF (gOf X) mIndex (x :: xs) H Q) := by
  intro pins s σ H x xs v us Q I rx rs ⟨ρ, S, ds, hR, hd, q⟩
  unfold mIndex at q
  split at q
  · split at q
    · rename_i ys e0
      split at q
      · rename_i es d e1 e2
        obtain ⟨⟨s1, s2⟩, q⟩ := q.ite
        split at q
        · rename_i j ej
          obtain ⟨x0, x1, e, h1, h2⟩ := two_of hd
          simp only [List.cons.injEq] at e
          obtain ⟨rfl, rfl⟩ := e
          obtain ⟨a, vs, rfl, _, ha, ra, hz⟩ := hR.lst e0 h1
          obtain ⟨z, z1, z2, z3⟩ := idxD_some ej
          exact mt_indexD hu pins s σ H _ _ v us Q I rx rs ⟨a, x1, d, es, j, z, rfl, rfl, .lst (SqL.of ha) (pds_dp hR 9 _ _ _ e1 ra), pd_dp hR 9 _ _ _ e2 h2, s2, s1, z1, z2, z3, q.here hR rfl⟩
        · exact q.elim
      · exact q.elim
    · exact q.elim
  · exact q.elim
/-! ### xs[::-1] of a list -/
def oRev : D → Store → R D := fun d S => match d with
  | .loc l => match S[l]? with
    | some (.lst xs) => .ok (.loc S.length) (S ++ [.lst xs.reverse])
    | _ => .bad
  | _ => .bad
theorem me_rev {e : Expr} {c : EM} {k : Nat} {p1 p2 p3 pos : Pos} (he : ME X W e c) : ME X W (.Subscript e (.Slice none none (some (.UnaryOp .USub (.Constant (.int 1) k p1) p2)) p3) pos) (e1 oRev c) := by
  refine PE_imp (pe_revL he) fun σ H Q ⟨ρ, σd, S, hR, hE, h⟩ => ?_
  refine step hR hE h fun ρ1 H1 d S1 v x1 R1 E1 q1 _ o1 => ?_
  unfold oRev at o1
  split at o1
  · split at o1
    · rename_i e0
      obtain ⟨a, vs, rfl, _, ha, ra, hz⟩ := R1.lst e0 q1
      exact ⟨a, vs, rfl, SqL.of ha, fun p hp => o1.newL R1 hp ra.reverse (by rw [List.length_reverse]; exact hz)⟩
    · exact o1.elim
  · exact o1.elim
/-! ### texts -/
def strsOf : List D → Option (List Str)
  | [] => some []
  | .str b :: r => (strsOf r).map (b :: ·)
  | _ :: _ => none
theorem strsOf_rp {K : PySem.W.Frag} {ρ : List Addr} {H : Hp} : ∀ {ds : List D} {vs : List V} {bs : List Str}, strsOf ds = some bs → RpVs K ρ H ds vs → vs = bs.map V.str
  | [], _, _, e, h => by cases e; rw [show _ = [] from h]; rfl
  | d :: ds, _, bs, e, h => by
    obtain ⟨v, r, rfl, h1, h2⟩ := h
    cases d with
    | str b =>
      obtain ⟨bs', e', rfl⟩ := Option.map_eq_some_iff.mp e
      rw [show v = _ from h1, strsOf_rp e' h2]
      rfl
    | _ => cases e
theorem rp_strs {K : PySem.W.Frag} {ρ : List Addr} {H : Hp} : ∀ ns : List Str, RpVs K ρ H (ns.map D.str) (ns.map V.str)
  | [] => rfl
  | n :: ns => ⟨_, _, rfl, rfl, rp_strs ns⟩
def mSplit : List D → Store → R D
  | [.str a, .str b], S => if (b.length == 0) = false ∧ a.length + 2 ≤ sizeLine ∧ (Txt.split a b).length ≤ sizeLine then .ok (.loc S.length) (S ++ [.lst ((Txt.split a b).map .str)]) else .bad
  | _, _ => .bad
theorem mr_split : MtR X "str.split" (fun x xs H Q => rF (gOf X) mSplit (x :: xs) H Q) := by
  intro pins s σ H x xs v us Q I rx rs ⟨ρ, S, ds, hR, hd, q⟩
  unfold mSplit at q
  split at q
  · obtain ⟨⟨c1, c2, c3⟩, q⟩ := q.ite
    obtain ⟨x0, x1, e, h1, h2⟩ := two_of hd
    simp only [List.cons.injEq] at e
    obtain ⟨rfl, rfl⟩ := e
    cases (show x = _ from h1); cases (show x1 = _ from h2)
    exact mt_split pins s σ H _ _ v us Q I rx rs ⟨_, _, rfl, rfl, c1, c2, fun p hp => q.newL hR hp (rp_strs _) (by rw [List.length_map]; exact c3)⟩
  · exact q.elim
def mJoin : List D → Store → R D
  | [.str a, d], S => match seqOf S d with
    | some xs => match strsOf xs with
      | some ys => if (ys.map (·.length)).sum + ys.length * a.length ≤ 16777216 then .ok (.str (Txt.join a ys)) S else .bad
      | none => .bad
    | none => .bad
  | _, _ => .bad
theorem mr_join : MtR X "str.join" (fun x xs H Q => rF (gOf X) mJoin (x :: xs) H Q) := by
  intro pins s σ H x xs v us Q I rx rs ⟨ρ, S, ds, hR, hd, q⟩
  unfold mJoin at q
  split at q
  · split at q
    · rename_i e0
      split at q
      · rename_i ys e1
        obtain ⟨c1, q⟩ := q.ite
        obtain ⟨x0, x1, e, h1, h2⟩ := two_of hd
        simp only [List.cons.injEq] at e
        obtain ⟨rfl, rfl⟩ := e
        cases (show x = _ from h1)
        obtain ⟨a, vs, rfl, r, z, hq, _⟩ := seq_of hR e0 h2
        rw [strsOf_rp e1 r] at hq
        exact mt_join pins s σ H _ _ v us Q I rx rs ⟨_, a, ys, rfl, rfl, hq, c1, q.here hR rfl⟩
      · exact q.elim
    · exact q.elim
  · exact q.elim
def mStrip : List D → Store → R D
  | [.str a, .str b], S => if a.length ≤ sizeLine then .ok (.str (Txt.stripChars a b)) S else .bad
  | _, _ => .bad
theorem mr_strip : MtR X "str.strip" (fun x xs H Q => rF (gOf X) mStrip (x :: xs) H Q) := by
  intro pins s σ H x xs v us Q I rx rs ⟨ρ, S, ds, hR, hd, q⟩
  unfold mStrip at q
  split at q
  · obtain ⟨c1, q⟩ := q.ite
    obtain ⟨x0, x1, e, h1, h2⟩ := two_of hd
    simp only [List.cons.injEq] at e
    obtain ⟨rfl, rfl⟩ := e
    cases (show x = _ from h1); cases (show x1 = _ from h2)
    exact mt_stripChars pins s σ H _ _ v us Q I rx rs ⟨_, _, rfl, rfl, c1, q.here hR rfl⟩
  · exact q.elim
end
end Mn
set_option maxHeartbeats 4000000
/-! list(range(n)), tuple(range(n)). -/
namespace Mn
open PySem PySem.Spec PyProof.Rows L2
def bRngL : D → Store → R D
  | .int n, S => if 0 ≤ n ∧ n ≤ 16777216 then .ok (.loc S.length) (S ++ [.lst (upTo 0 n.toNat)]) else .bad
  | _, _ => .bad
def bRngT : D → Store → R D
  | .int n, S => if 0 < n ∧ n ≤ 16777216 then .ok (.tup (upTo 0 n.toNat)) S else .bad
  | _, _ => .bad
section
variable {X : Cx} {W : WX}
theorem upTo_rp {K : PySem.W.Frag} {ρ : List Addr} {H : Hp} {b : Int} : RpVs K ρ H (upTo 0 b.toNat) (rgV 0 b) := by
  have key : ∀ (n : Nat) (f : Nat → V) (k : Int), (∀ i, i < n → f i = .int (k + i)) → RpVs K ρ H (upTo k n) ((List.range n).map f) := by
    intro n
    induction n with
    | zero => intro f k _; rfl
    | succ n ih =>
      intro f k h
      rw [List.range_succ_eq_map, List.map_cons, List.map_map]
      refine ⟨_, _, rfl, by rw [h 0 (by omega)]; show V.int _ = V.int _; rw [show k + ((0 : Nat) : Int) = k by omega], ih _ (k + 1) fun i hi => ?_⟩
      show f (i + 1) = _
      rw [h (i + 1) (by omega)]
      congr 1
      omega
  have e : rgV 0 b = (List.range b.toNat).map fun i : Nat => V.int (0 + (i : Int)) := by
    unfold rgV
    rw [Int.sub_zero]
  rw [e]
  exact key b.toNat _ 0 fun i _ => rfl
theorem upTo_rplen {b : Int} (h : b ≤ 16777216) : (rgV 0 b).length ≤ sizeLine := by rw [rgV_length, sizeLine_eq]; omega
theorem me_rngL {e : Expr} {c : EM} {p p2 pos pos2 : Pos} (hc : X.calm = true) (hg : Gl X "list") (hm : X.mg "list" = none) (hg2 : Gl X "range") (hm2 : X.mg "range" = none) (h : ME X W e c)
    (na : starEach [.Call (.Name "range" p2) [e] [] pos2] X.env = (false, eval (.Call (.Name "range" p2) [e] [] pos2) X.env) :: starEach [] X.env := by rfl) (na2 : starEach [e] X.env = (false, eval e X.env) :: starEach [] X.env := by rfl) :
    ME X W (.Call (.Name "list" p) [.Call (.Name "range" p2) [e] [] pos2] [] pos) (e1 bRngL c) := by
  refine PE_imp (pe_listRg hc hg hm (prg_1 hg2 hm2 h na2) na) fun σ H Q ⟨ρ, σd, S, hR, hE, o⟩ => ?_
  refine step hR hE o fun ρ1 H1 d S1 v x1 R1 E1 q1 _ o1 => ?_
  cases d with
  | int n =>
    obtain ⟨⟨h0, h1⟩, o1⟩ := o1.ite
    rw [show v = V.int n from q1]
    exact ⟨n, rfl, RgOk.of_le (by omega) h1 (by omega) h0, fun p hp => o1.newL R1 hp upTo_rp (upTo_rplen h1)⟩
  | _ => exact o1.elim
theorem me_rngT {e : Expr} {c : EM} {p p2 pos pos2 : Pos} (hc : X.calm = true) (hg : Gl X "tuple") (hm : X.mg "tuple" = none) (hg2 : Gl X "range") (hm2 : X.mg "range" = none) (h : ME X W e c)
    (na : starEach [.Call (.Name "range" p2) [e] [] pos2] X.env = (false, eval (.Call (.Name "range" p2) [e] [] pos2) X.env) :: starEach [] X.env := by rfl) (na2 : starEach [e] X.env = (false, eval e X.env) :: starEach [] X.env := by rfl) :
    ME X W (.Call (.Name "tuple" p) [.Call (.Name "range" p2) [e] [] pos2] [] pos) (e1 bRngT c) := by
  refine PE_imp (pe_tupRg hc hg hm (prg_1 hg2 hm2 h na2) na) fun σ H Q ⟨ρ, σd, S, hR, hE, o⟩ => ?_
  refine step hR hE o fun ρ1 H1 d S1 v x1 R1 E1 q1 _ o1 => ?_
  cases d with
  | int n =>
    obtain ⟨⟨h0, h1⟩, o1⟩ := o1.ite
    rw [show v = V.int n from q1]
    exact ⟨n, rfl, RgOk.of_le (by omega) h1 (by omega) (by omega), fun p hp => o1.newT R1 hp upTo_rp (upTo_rplen h1)⟩
  | _ => exact o1.elim
end
end Mn
namespace Mn
open PySem
/-- is_rule: rule, word, rest -/
def p_is_rule : SM :=
  sSeq (sIf (e2 oEq (eF (on1 bLen) (eCons (eVar 0) (eNil))) (eC (.int 0))) (sRet (eC (.bl false))) (sNil))
    (sSeq (sPar 1 2 (eCons (e2 oIx (eVar 0) (eC (.int 0))) (eCons (eSl (eVar 0) (pOf (eC (.int 1))) (pNo)) (eNil))))
    (sSeq (sIf (e2 oIn (eVar 1) (eTup (eCons (eC (.str "half")) (eCons (eC (.str "even")) (eNil))))) (sRet (e2 oEq (eF (on1 bLen) (eCons (eVar 2) (eNil))) (eC (.int 0)))) (sNil))
    (sSeq (sIf (e2 oEq (eVar 1) (eC (.str "some"))) (sRet (eAnd (e2 oEq (eF (on1 bLen) (eCons (eVar 2) (eNil))) (eC (.int 1))) (eCh oLe oLe (eC (.int 1)) (e2 oIx (eVar 2) (eC (.int 0))) (eC (.int 9))))) (sNil))
    (sRet (eAnd (e2 oEq (eVar 1) (eC (.str "part"))) (eAnd (e2 oEq (eF (on1 bLen) (eCons (eVar 2) (eNil))) (eC (.int 2))) (eCh3 oLe oLe oLe (eC (.int 1)) (e2 oIx (eVar 2) (eC (.int 0))) (e2 oIx (eVar 2) (eC (.int 1))) (eC (.int 9)))))))))
/-- need_world: world, weights, pairs, rule, number, weight, met, one, other -/
def p_need_world (f_is_rule : Fn) : SM :=
  sSeq (sSet (tgT (tgCons (tgN 1) (tgCons (tgN 2) (tgCons (tgN 3) (tgNil))))) (eVar 0))
    (sSeq (sFor (iEnum (eVar 1)) (tgT (tgCons (tgN 4) (tgCons (tgN 5) (tgNil)))) (sIf (eOr (e2 oEq (eVar 4) (eC (.int 6))) (eNot (eCh oLe oLe (eC (.int 0)) (eVar 5) (eC (.int 30))))) (sNever) (sNil)))
    (sSeq (sIf (e2 oLt (eF (on1 bLen) (eCons (eVar 1) (eNil))) (eC (.int 2))) (sNever) (sNil))
    (sSeq (sSet (tgN 6) (eD0))
    (sSeq (sFor (iEnum (eVar 2)) (tgT (tgCons (tgN 4) (tgCons (tgT (tgCons (tgN 7) (tgCons (tgN 8) (tgNil)))) (tgNil)))) (sSeq (sIf (eOr (e2 oEq (eVar 4) (eC (.int 15))) (eOr (eNot (eCh3 oLe oLt oLt (eC (.int 0)) (eVar 7) (eVar 8) (eF (on1 bLen) (eCons (eVar 1) (eNil))))) (e2 oIn (eTup (eCons (eVar 7) (eCons (eVar 8) (eNil)))) (eVar 6)))) (sNever) (sNil))
    (sPut (eVar 6) (eTup (eCons (eVar 7) (eCons (eVar 8) (eNil)))) (eC (.bl true)))))
    (sIf (eNot (eF f_is_rule (eCons (eVar 3) (eNil)))) (sNever) (sNil))))))
/-- gift_of: rule, heavy, light -/
def p_gift_of : SM :=
  sSeq (sIf (e2 oEq (e2 oIx (eVar 0) (eC (.int 0))) (eC (.str "some"))) (sRet (eF (on2 bMin2) (eCons (e2 oIx (eVar 0) (eC (.int 1))) (eCons (eVar 1) (eNil))))) (sNil))
    (sSeq (sIf (e2 oEq (e2 oIx (eVar 0) (eC (.int 0))) (eC (.str "half"))) (sRet (e2 oDiv (e2 oSub (eVar 1) (eVar 2)) (eC (.int 2)))) (sNil))
    (sSeq (sIf (e2 oEq (e2 oIx (eVar 0) (eC (.int 0))) (eC (.str "even"))) (sRet (e2 oDiv (e2 oAdd (e2 oSub (eVar 1) (eVar 2)) (eC (.int 1))) (eC (.int 2)))) (sNil))
    (sRet (e2 oDiv (e2 oMul (eVar 1) (e2 oIx (eVar 0) (eC (.int 1)))) (e2 oIx (eVar 0) (eC (.int 2)))))))
/-- gift_told: rule, weights, pair, one, other, giver, taker, many -/
def p_gift_told (f_gift_of : Fn) : SM :=
  sSeq (sSet (tgT (tgCons (tgN 3) (tgCons (tgN 4) (tgNil)))) (eVar 2))
    (sSeq (sIf (e2 oEq (e2 oIx (eVar 1) (eVar 3)) (e2 oIx (eVar 1) (eVar 4))) (sRet (eC .non)) (sNil))
    (sSeq (sSet (tgT (tgCons (tgN 5) (tgCons (tgN 6) (tgNil)))) (eIf (e2 oGt (e2 oIx (eVar 1) (eVar 3)) (e2 oIx (eVar 1) (eVar 4))) (eTup (eCons (eVar 3) (eCons (eVar 4) (eNil)))) (eTup (eCons (eVar 4) (eCons (eVar 3) (eNil))))))
    (sSeq (sSet (tgN 7) (eF f_gift_of (eCons (eVar 0) (eCons (e2 oIx (eVar 1) (eVar 5)) (eCons (e2 oIx (eVar 1) (eVar 6)) (eNil))))))
    (sRet (eIf (e2 oGt (eVar 7) (eC (.int 0))) (eTup (eCons (eVar 5) (eCons (eVar 6) (eCons (eVar 7) (eNil))))) (eC .non))))))
/-- behind: rule, weights, pair, row, giver, taker, many, found -/
def p_behind (f_gift_told : Fn) : SM :=
  sSeq (sSet (tgN 3) (eF f_gift_told (eCons (eVar 0) (eCons (eVar 1) (eCons (eVar 2) (eNil))))))
    (sSeq (sIf (e1 oIsN (eVar 3)) (sRet (eVar 1)) (sNil))
    (sSeq (sSet (tgT (tgCons (tgN 4) (tgCons (tgN 5) (tgCons (tgN 6) (tgNil))))) (eVar 3))
    (sSeq (sSet (tgN 7) (eF (on1 bList) (eCons (eVar 1) (eNil))))
    (sSeq (sAugS (eVar 7) (eVar 4) oSub (eVar 6))
    (sSeq (sAugS (eVar 7) (eVar 5) iAdd (eVar 6))
    (sRet (eF (on1 bTuple) (eCons (eVar 7) (eNil)))))))))
/-- need_meetings: world, meetings, most, number, place -/
def p_need_meetings : SM :=
  sFor (iEnum (eVar 1)) (tgT (tgCons (tgN 3) (tgCons (tgN 4) (tgNil)))) (sIf (eOr (e2 oEq (eVar 3) (eVar 2)) (eNot (eCh oLe oLt (eC (.int 0)) (eVar 4) (eF (on1 bLen) (eCons (e2 oIx (eVar 0) (eC (.int 1))) (eNil)))))) (sNever) (sNil))
/-- met: world, meetings, weights, place -/
def p_met (f_behind f_need_meetings f_need_world : Fn) : SM :=
  sSeq (sExpr (eF f_need_world (eCons (eVar 0) (eNil))))
    (sSeq (sExpr (eF f_need_meetings (eCons (eVar 0) (eCons (eVar 1) (eCons (eC (.int 200)) (eNil))))))
    (sSeq (sSet (tgN 2) (eF (on1 bTuple) (eCons (e2 oIx (eVar 0) (eC (.int 0))) (eNil))))
    (sSeq (sFor (iOf (eVar 1)) (tgN 3) (sSet (tgN 2) (eF f_behind (eCons (e2 oIx (eVar 0) (eC (.int 2))) (eCons (eVar 2) (eCons (e2 oIx (e2 oIx (eVar 0) (eC (.int 1))) (eVar 3)) (eNil)))))))
    (sRet (eVar 2)))))
/-- _law_mix: _law_script, _law_seed, _law_mixed, _law_cell -/
def p_law_mix : SM :=
  sSeq (sSet (tgN 2) (eVar 1))
    (sSeq (sFor (iOf (eVar 0)) (tgN 3) (sSet (tgN 2) (e2 oMod (e2 oAdd (e2 oAdd (e2 oMul (eVar 2) (eC (.int 48271))) (e2 oMod (eVar 3) (eC (.int 2147483629)))) (eC (.int 1))) (eC (.int 2147483647)))))
    (sRet (eLst (eCons (eVar 2) (eCons (eF (on1 bList) (eCons (eVar 0) (eNil))) (eCons (eC (.int 0)) (eNil)))))))
/-- _law_next: _law_h, _law_many, _law_cell -/
def p_law_next : SM :=
  sSeq (sSet (tgN 2) (e2 oIx (e2 oAdd (e2 oIx (eVar 0) (eC (.int 1))) (eLst (eCons (eC (.int 0)) (eNil)))) (e2 oMod (e2 oIx (eVar 0) (eC (.int 2))) (eF (on2 bMax2) (eCons (eC (.int 1)) (eCons (eF (on1 bLen) (eCons (e2 oIx (eVar 0) (eC (.int 1))) (eNil))) (eNil)))))))
    (sSeq (sIf (e2 oGe (eVar 2) (e2 oPow (eC (.int 10)) (eC (.int 18)))) (sSeq (sPut (e2 oIx (eVar 0) (eC (.int 1))) (e2 oMod (e2 oIx (eVar 0) (eC (.int 2))) (eF (on1 bLen) (eCons (e2 oIx (eVar 0) (eC (.int 1))) (eNil)))) (e2 oDiv (eVar 2) (eVar 1)))
    (sRet (e2 oMod (eVar 2) (eVar 1)))) (sNil))
    (sSeq (sPut (eVar 0) (eC (.int 0)) (e2 oMod (e2 oAdd (e2 oAdd (e2 oMul (e2 oIx (eVar 0) (eC (.int 0))) (eC (.int 48271))) (e2 oMul (eVar 2) (eC (.int 69621)))) (eC (.int 11))) (eC (.int 2147483647))))
    (sSeq (sPut (eVar 0) (eC (.int 2)) (e2 oAdd (e2 oIx (eVar 0) (eC (.int 2))) (eC (.int 1))))
    (sRet (e2 oMod (e2 oDiv (e2 oIx (eVar 0) (eC (.int 0))) (eC (.int 7))) (eVar 1))))))
/-- _law_world: _law_h, _law_most, _law_weight, _law_weights, _law_left, _law_pairs, _law_other, _law_k, _law_top, _law_rules, _law_one -/
def p_law_world (f_law_next : Fn) : SM :=
  sSeq (sSet (tgN 3) (eF (on1 bTuple) (eCons (eLC (iRng (e2 oAdd (eC (.int 2)) (eF f_law_next (eCons (eVar 0) (eCons (e2 oSub (eVar 1) (eC (.int 1))) (eNil)))))) (tgN 7) (eYes) (eF f_law_next (eCons (eVar 0) (eCons (e2 oAdd (eVar 2) (eC (.int 1))) (eNil)))) [7]) (eNil))))
    (sSeq (sPar 4 5 (eCons (eLst (eNil)) (eCons (eLst (eNil)) (eNil))))
    (sSeq (sFor (iRng (eF (on1 bLen) (eCons (eVar 3) (eNil)))) (tgN 6) (sSet (tgN 4) (e2 oAdd (eVar 4) (eLC (iRng (eVar 6)) (tgN 10) (eYes) (eTup (eCons (eVar 10) (eCons (eVar 6) (eNil)))) [10]))))
    (sSeq (sFor (iRng (eF f_law_next (eCons (eVar 0) (eCons (e2 oAdd (eF (on2 bMin2) (eCons (eC (.int 15)) (eCons (eF (on1 bLen) (eCons (eVar 4) (eNil))) (eNil)))) (eC (.int 1))) (eNil))))) (tgN 7) (sExpr (eM isL mAppend (eVar 5) (eCons (eM isL mPopAt (eVar 4) (eCons (eF f_law_next (eCons (eVar 0) (eCons (eF (on1 bLen) (eCons (eVar 4) (eNil))) (eNil)))) (eNil))) (eNil)))))
    (sSeq (sSet (tgN 8) (e2 oAdd (eC (.int 1)) (eF f_law_next (eCons (eVar 0) (eCons (eC (.int 4)) (eNil))))))
    (sSeq (sSet (tgN 9) (eLst (eCons (eTup (eCons (eC (.str "some")) (eCons (e2 oAdd (eC (.int 1)) (eF f_law_next (eCons (eVar 0) (eCons (e2 oIx (eLst (eCons (eC (.int 3)) (eCons (eC (.int 9)) (eNil)))) (eF f_law_next (eCons (eVar 0) (eCons (eC (.int 2)) (eNil))))) (eNil))))) (eNil)))) (eCons (eTup (eCons (eC (.str "half")) (eNil))) (eCons (eTup (eCons (eC (.str "even")) (eNil))) (eNil))))))
    (sSeq (sExpr (eM isL mAppend (eVar 9) (eCons (eTup (eCons (eC (.str "part")) (eCons (eVar 8) (eCons (e2 oAdd (eVar 8) (eF f_law_next (eCons (eVar 0) (eCons (eC (.int 5)) (eNil))))) (eNil))))) (eNil))))
    (sRet (eTup (eCons (eVar 3) (eCons (eF (on1 bTuple) (eCons (eVar 5) (eNil))) (eCons (e2 oIx (eVar 9) (eF f_law_next (eCons (eVar 0) (eCons (eC (.int 4)) (eNil))))) (eNil))))))))))))
/-- gifts: world, meetings, weights, found, place -/
def p_gifts (f_behind f_gift_told f_need_meetings f_need_world : Fn) : SM :=
  sSeq (sExpr (eF f_need_world (eCons (eVar 0) (eNil))))
    (sSeq (sExpr (eF f_need_meetings (eCons (eVar 0) (eCons (eVar 1) (eCons (eC (.int 200)) (eNil))))))
    (sSeq (sSet (tgN 2) (eF (on1 bTuple) (eCons (e2 oIx (eVar 0) (eC (.int 0))) (eNil))))
    (sSeq (sSet (tgN 3) (eLst (eNil)))
    (sSeq (sFor (iOf (eVar 1)) (tgN 4) (sSeq (sExpr (eM isL mAppend (eVar 3) (eCons (eF f_gift_told (eCons (e2 oIx (eVar 0) (eC (.int 2))) (eCons (eVar 2) (eCons (e2 oIx (e2 oIx (eVar 0) (eC (.int 1))) (eVar 4)) (eNil))))) (eNil))))
    (sSet (tgN 2) (eF f_behind (eCons (e2 oIx (eVar 0) (eC (.int 2))) (eCons (eVar 2) (eCons (e2 oIx (e2 oIx (eVar 0) (eC (.int 1))) (eVar 4)) (eNil))))))))
    (sRet (eVar 3))))))
/-- need_turns: world, turns -/
def p_need_turns (f_need_meetings : Fn) : SM :=
  sSeq (sExpr (eF f_need_meetings (eCons (eVar 0) (eCons (eVar 1) (eCons (eC (.int 200)) (eNil))))))
    (sIf (e2 oEq (eF (on1 bLen) (eCons (eVar 1) (eNil))) (eC (.int 0))) (sNever) (sNil))
/-- walk: world, turns, weights, rows, met_at, place -/
def p_walk (f_behind : Fn) : SM :=
  sSeq (sSet (tgN 2) (eF (on1 bTuple) (eCons (e2 oIx (eVar 0) (eC (.int 0))) (eNil))))
    (sSeq (sPar 3 4 (eCons (eLst (eNil)) (eCons (eD0) (eNil))))
    (sSeq (sWh NW (e2 oNotIn (eTup (eCons (eVar 2) (eCons (e2 oMod (eF (on1 bLen) (eCons (eVar 3) (eNil))) (eF (on1 bLen) (eCons (eVar 1) (eNil)))) (eNil)))) (eVar 4)) (sSeq (sSet (tgN 5) (e2 oMod (eF (on1 bLen) (eCons (eVar 3) (eNil))) (eF (on1 bLen) (eCons (eVar 1) (eNil)))))
    (sSeq (sPut (eVar 4) (eTup (eCons (eVar 2) (eCons (eVar 5) (eNil)))) (eF (on1 bLen) (eCons (eVar 3) (eNil))))
    (sSeq (sExpr (eM isL mAppend (eVar 3) (eCons (eVar 2) (eNil))))
    (sSet (tgN 2) (eF f_behind (eCons (e2 oIx (eVar 0) (eC (.int 2))) (eCons (eVar 2) (eCons (e2 oIx (e2 oIx (eVar 0) (eC (.int 1))) (e2 oIx (eVar 1) (eVar 5))) (eNil))))))))))
    (sRet (eTup (eCons (eVar 3) (eCons (e2 oIx (eVar 4) (eTup (eCons (eVar 2) (eCons (e2 oMod (eF (on1 bLen) (eCons (eVar 3) (eNil))) (eF (on1 bLen) (eCons (eVar 1) (eNil)))) (eNil))))) (eNil)))))))
/-- period: world, turns, rows, first -/
def p_period (f_walk f_need_turns f_need_world : Fn) : SM :=
  sSeq (sExpr (eF f_need_world (eCons (eVar 0) (eNil))))
    (sSeq (sExpr (eF f_need_turns (eCons (eVar 0) (eCons (eVar 1) (eNil)))))
    (sSeq (sSet (tgT (tgCons (tgN 2) (tgCons (tgN 3) (tgNil)))) (eF f_walk (eCons (eVar 0) (eCons (eVar 1) (eNil)))))
    (sRet (eTup (eCons (eVar 3) (eCons (e2 oSub (eF (on1 bLen) (eCons (eVar 2) (eNil))) (eVar 3)) (eNil)))))))
/-- after: world, turns, many, rows, first -/
def p_after (f_walk f_need_turns f_need_world : Fn) : SM :=
  sSeq (sExpr (eF f_need_world (eCons (eVar 0) (eNil))))
    (sSeq (sExpr (eF f_need_turns (eCons (eVar 0) (eCons (eVar 1) (eNil)))))
    (sSeq (sIf (eNot (eCh oLe oLe (eC (.int 0)) (eVar 2) (eC (.int 1000000000000)))) (sNever) (sNil))
    (sSeq (sSet (tgT (tgCons (tgN 3) (tgCons (tgN 4) (tgNil)))) (eF f_walk (eCons (eVar 0) (eCons (eVar 1) (eNil)))))
    (sRet (eIf (e2 oLt (eVar 2) (eF (on1 bLen) (eCons (eVar 3) (eNil)))) (e2 oIx (eVar 3) (eVar 2)) (e2 oIx (eVar 3) (e2 oAdd (eVar 4) (e2 oMod (e2 oSub (eVar 2) (eVar 4)) (e2 oSub (eF (on1 bLen) (eCons (eVar 3) (eNil))) (eVar 4))))))))))
/-- rests: world, turns, rows, first, many, weights -/
def p_rests (f_walk f_need_turns f_need_world : Fn) : SM :=
  sSeq (sExpr (eF f_need_world (eCons (eVar 0) (eNil))))
    (sSeq (sExpr (eF f_need_turns (eCons (eVar 0) (eCons (eVar 1) (eNil)))))
    (sSeq (sSet (tgT (tgCons (tgN 2) (tgCons (tgN 3) (tgNil)))) (eF f_walk (eCons (eVar 0) (eCons (eVar 1) (eNil)))))
    (sSeq (sIf (eF (on1 bAny) (eCons (eLC (iOf (eSl (eVar 2) (pOf (eVar 3)) (pNo))) (tgN 5) (eYes) (e2 oNe (eVar 5) (e2 oIx (eVar 2) (eVar 3))) [5]) (eNil))) (sRet (eC .non)) (sNil))
    (sSeq (sSet (tgN 4) (eVar 3))
    (sSeq (sWh NW (eAnd (e2 oGt (eVar 4) (eC (.int 0))) (e2 oEq (e2 oIx (eVar 2) (e2 oSub (eVar 4) (eC (.int 1)))) (e2 oIx (eVar 2) (eVar 3)))) (sAug 4 oSub (eC (.int 1))))
    (sRet (eTup (eCons (eVar 4) (eCons (e2 oIx (eVar 2) (eVar 3)) (eNil))))))))))
/-- _law_turns: _law_h, _law_world_here, _law_most, _law_k -/
def p_law_turns (f_law_next : Fn) : SM :=
  sRet (eF (on1 bTuple) (eCons (eLC (iRng (e2 oAdd (eC (.int 1)) (eF f_law_next (eCons (eVar 0) (eCons (eVar 2) (eNil)))))) (tgN 3) (eYes) (eF f_law_next (eCons (eVar 0) (eCons (eF (on1 bLen) (eCons (e2 oIx (eVar 1) (eC (.int 1))) (eNil))) (eNil)))) [3]) (eNil)))
/-- law: _law_script, _law_h, _law_turn, _law_world_here, _law_one, _law_other, _law_spot, _law_there, _law_first, _law_size, _law_many, _law_told -/
def p_law_k21 (f_after f_law_next f_rests f_met f_period f_gifts f_law_turns f_law_world f_law_mix : Fn) : SM :=
  sSeq (sSet (tgN 1) (eF f_law_mix (eCons (eVar 0) (eCons (eC (.int 79)) (eNil)))))
    (sSeq (sFor (iRng (eC (.int 4))) (tgN 2) (sSeq (sSet (tgN 3) (eF f_law_world (eCons (eVar 1) (eCons (eC (.int 5)) (eCons (eC (.int 12)) (eNil))))))
    (sIf (e2 oNe (e2 oIx (eVar 3) (eC (.int 1))) (eTup eNil)) (sSeq (sPar 4 5 (eCons (eF f_law_turns (eCons (eVar 1) (eCons (eVar 3) (eCons (eC (.int 9)) (eNil))))) (eCons (eF f_law_turns (eCons (eVar 1) (eCons (eVar 3) (eCons (eC (.int 9)) (eNil))))) (eNil))))
    (sSeq (sSet (tgN 6) (eF f_met (eCons (eVar 3) (eCons (eVar 4) (eNil)))))
    (sSeq (sSet (tgN 7) (e2 oAdd (eTup (eCons (eVar 6) (eNil))) (eSl (eVar 3) (pOf (eC (.int 1))) (pNo))))
    (sSeq (sIf (e2 oLt (eF (on1 bMax) (eCons (eVar 6) (eNil))) (eC (.int 31))) (sSeq (sIf (e2 oNe (eF f_met (eCons (eVar 3) (eCons (e2 oAdd (eVar 4) (eVar 5)) (eNil)))) (eF f_met (eCons (eVar 7) (eCons (eVar 5) (eNil))))) (sRet (eC (.bl false))) (sNil))
    (sIf (e2 oNe (eF f_gifts (eCons (eVar 3) (eCons (e2 oAdd (eVar 4) (eVar 5)) (eNil)))) (e2 oAdd (eF f_gifts (eCons (eVar 3) (eCons (eVar 4) (eNil)))) (eF f_gifts (eCons (eVar 7) (eCons (eVar 5) (eNil)))))) (sRet (eC (.bl false))) (sNil))) (sNil))
    (sSeq (sSet (tgT (tgCons (tgN 8) (tgCons (tgN 9) (tgNil)))) (eF f_period (eCons (eVar 3) (eCons (eVar 4) (eNil)))))
    (sSeq (sSet (tgN 10) (e2 oAdd (eVar 8) (eF f_law_next (eCons (eVar 1) (eCons (eC (.int 50)) (eNil))))))
    (sSeq (sSet (tgN 6) (eF f_after (eCons (eVar 3) (eCons (eVar 4) (eCons (eVar 10) (eNil))))))
    (sSeq (sIf (eOr (e2 oNe (eF f_after (eCons (eVar 3) (eCons (eVar 4) (eCons (e2 oAdd (eVar 10) (eVar 9)) (eNil))))) (eVar 6)) (e2 oNe (eF f_after (eCons (eVar 3) (eCons (e2 oAdd (eVar 4) (eVar 4)) (eCons (eVar 10) (eNil))))) (eVar 6))) (sRet (eC (.bl false))) (sNil))
    (sSeq (sIf (eOr (e2 oNe (e2 oIx (eF f_period (eCons (eVar 3) (eCons (e2 oAdd (eVar 4) (eVar 4)) (eNil)))) (eC (.int 0))) (eVar 8)) (e2 oNe (e2 oMod (e2 oIx (eF f_period (eCons (eVar 3) (eCons (e2 oAdd (eVar 4) (eVar 4)) (eNil)))) (eC (.int 1))) (eVar 9)) (eC (.int 0)))) (sRet (eC (.bl false))) (sNil))
    (sSeq (sIf (eOr (e2 oNe (eF f_rests (eCons (eVar 3) (eCons (eVar 4) (eNil)))) (eF f_rests (eCons (eVar 3) (eCons (e2 oAdd (eVar 4) (eVar 4)) (eNil))))) (e2 oNe (eF f_after (eCons (eVar 3) (eCons (eVar 4) (eCons (eF (on1 bLen) (eCons (eVar 4) (eNil))) (eNil))))) (eF f_met (eCons (eVar 3) (eCons (eVar 4) (eNil)))))) (sRet (eC (.bl false))) (sNil))
    (sSeq (sSet (tgN 11) (eF f_rests (eCons (eVar 3) (eCons (eVar 4) (eNil)))))
    (sIf (e1 oNotN (eVar 11)) (sSeq (sIf (e2 oNe (eF f_after (eCons (eVar 3) (eCons (eVar 4) (eCons (e2 oAdd (e2 oIx (eVar 11) (eC (.int 0))) (eF f_law_next (eCons (eVar 1) (eCons (e2 oPow (eC (.int 10)) (eC (.int 6))) (eNil))))) (eNil))))) (e2 oIx (eVar 11) (eC (.int 1)))) (sRet (eC (.bl false))) (sNil))
    (sIf (eAnd (e2 oGt (e2 oIx (eVar 11) (eC (.int 0))) (eC (.int 0))) (e2 oEq (eF f_after (eCons (eVar 3) (eCons (eVar 4) (eCons (e2 oSub (e2 oIx (eVar 11) (eC (.int 0))) (eC (.int 1))) (eNil))))) (e2 oIx (eVar 11) (eC (.int 1))))) (sRet (eC (.bl false))) (sNil))) (sNil))))))))))))) (sNil))))
    (sRet (eC (.bl true))))
/-- law: _law_script, _law_h, _law_turn, _law_world_here, _law_turns_here, _law_far, _law_more, _law_spot, _law_at, _law_there, _law_turned, _law_one, _law_two, _law_end, _law_later -/
def p_law_k32 (f_after f_rests f_period f_law_next f_law_turns f_law_world f_law_mix : Fn) : SM :=
  sSeq (sSet (tgN 1) (eF f_law_mix (eCons (eVar 0) (eCons (eC (.int 137)) (eNil)))))
    (sSeq (sFor (iRng (eC (.int 5))) (tgN 2) (sSeq (sSet (tgN 3) (eF f_law_world (eCons (eVar 1) (eCons (eC (.int 5)) (eCons (eC (.int 12)) (eNil))))))
    (sIf (e2 oNe (e2 oIx (eVar 3) (eC (.int 1))) (eTup eNil)) (sSeq (sSet (tgN 4) (eF f_law_turns (eCons (eVar 1) (eCons (eVar 3) (eCons (eC (.int 9)) (eNil))))))
    (sSeq (sPar 5 6 (eCons (eF f_law_next (eCons (eVar 1) (eCons (eC (.int 20)) (eNil)))) (eCons (eF f_law_next (eCons (eVar 1) (eCons (e2 oPow (eC (.int 10)) (eC (.int 6))) (eNil)))) (eNil))))
    (sSeq (sSet (tgN 7) (eF f_after (eCons (eVar 3) (eCons (eVar 4) (eCons (eVar 5) (eNil))))))
    (sIf (e2 oLt (eF (on1 bMax) (eCons (eVar 7) (eNil))) (eC (.int 31))) (sSeq (sSet (tgN 8) (e2 oMod (eVar 5) (eF (on1 bLen) (eCons (eVar 4) (eNil)))))
    (sSeq (sSet (tgN 9) (e2 oAdd (eTup (eCons (eVar 7) (eNil))) (eSl (eVar 3) (pOf (eC (.int 1))) (pNo))))
    (sSeq (sSet (tgN 10) (e2 oAdd (eSl (eVar 4) (pOf (eVar 8)) (pNo)) (eSl (eVar 4) (pNo) (pOf (eVar 8)))))
    (sSeq (sIf (e2 oNe (eF f_after (eCons (eVar 9) (eCons (eVar 10) (eCons (eVar 6) (eNil))))) (eF f_after (eCons (eVar 3) (eCons (eVar 4) (eCons (e2 oAdd (eVar 5) (eVar 6)) (eNil)))))) (sRet (eC (.bl false))) (sNil))
    (sSeq (sPar 11 12 (eCons (eF f_period (eCons (eVar 3) (eCons (eVar 4) (eNil)))) (eCons (eF f_period (eCons (eVar 9) (eCons (eVar 10) (eNil)))) (eNil))))
    (sSeq (sIf (eOr (e2 oNe (e2 oIx (eVar 12) (eC (.int 1))) (e2 oIx (eVar 11) (eC (.int 1)))) (e2 oNe (e2 oIx (eVar 12) (eC (.int 0))) (eF (on2 bMax2) (eCons (eC (.int 0)) (eCons (e2 oSub (e2 oIx (eVar 11) (eC (.int 0))) (eVar 5)) (eNil)))))) (sRet (eC (.bl false))) (sNil))
    (sSeq (sPar 13 14 (eCons (eF f_rests (eCons (eVar 3) (eCons (eVar 4) (eNil)))) (eCons (eF f_rests (eCons (eVar 9) (eCons (eVar 10) (eNil)))) (eNil))))
    (sSeq (sIf (e2 oNe (e1 oIsN (eVar 13)) (e1 oIsN (eVar 14))) (sRet (eC (.bl false))) (sNil))
    (sSeq (sIf (eAnd (e1 oNotN (eVar 13)) (e2 oNe (eVar 14) (eTup (eCons (eF (on2 bMax2) (eCons (eC (.int 0)) (eCons (e2 oSub (e2 oIx (eVar 13) (eC (.int 0))) (eVar 5)) (eNil)))) (eCons (e2 oIx (eVar 13) (eC (.int 1))) (eNil)))))) (sRet (eC (.bl false))) (sNil))
    (sIf (e2 oNe (eF f_after (eCons (eVar 3) (eCons (e2 oMul (eVar 4) (eC (.int 2))) (eCons (eVar 6) (eNil))))) (eF f_after (eCons (eVar 3) (eCons (eVar 4) (eCons (eVar 6) (eNil)))))) (sRet (eC (.bl false))) (sNil))))))))))) (sNil))))) (sNil))))
    (sRet (eC (.bl true))))
end Mn
namespace Mn.Lk21
open PySem
def Γ : Orc → Orc := fun C x => match x with
  | 0 => mkFn 1 3 (p_is_rule)
  | 1 => mkFn 1 9 (p_need_world (C 0))
  | 2 => mkFn 3 3 (p_gift_of)
  | 3 => mkFn 3 8 (p_gift_told (C 2))
  | 4 => mkFn 3 8 (p_behind (C 3))
  | 5 => mkFn 3 5 (p_need_meetings)
  | 6 => mkFn 2 4 (p_met (C 4) (C 5) (C 1))
  | 7 => mkFn 2 5 (p_gifts (C 4) (C 3) (C 5) (C 1))
  | 8 => mkFn 2 2 (p_need_turns (C 5))
  | 9 => mkFn 2 6 (p_walk (C 4))
  | 10 => mkFn 2 4 (p_period (C 9) (C 8) (C 1))
  | 11 => mkFn 3 5 (p_after (C 9) (C 8) (C 1))
  | 12 => mkFn 2 6 (p_rests (C 9) (C 8) (C 1))
  | 13 => mkFn 2 4 (p_law_mix)
  | 14 => mkFn 2 3 (p_law_next)
  | 15 => mkFn 3 11 (p_law_world (C 14))
  | 16 => mkFn 3 4 (p_law_turns (C 14))
  | 17 => mkFn 1 12 (p_law_k21 (C 11) (C 14) (C 12) (C 6) (C 10) (C 7) (C 16) (C 15) (C 13))
  | _ => fun _ _ => .bad
def pure_law_stmt : Prop := ∀ ns : List Int, ns.length ≤ 63 → ∃ S, callAt Γ 12 17 [.ro (ns.map .int)] [] = .ok (.bl true) S
end Mn.Lk21
/-! The machine's ends as conditions. -/
namespace Mn
open PySem
/-- it ends well, and so -/
def Ok {α : Type} (r : R α) (Q : α → Store → Prop) : Prop := match r with
  | .ok a S => Q a S
  | _ => False
def OkS (r : RS) (N : Env → Store → Prop) (T : D → Store → Prop) : Prop := match r with
  | .nx σ S => N σ S
  | .rt v S => T v S
  | _ => False
section
variable {α β : Type} {σ : Env} {S : Store}
theorem Ok.mono {r : R α} {Q Q' : α → Store → Prop} (h : Ok r Q) (f : ∀ a S, Q a S → Q' a S) : Ok r Q' := by
  cases r with
  | ok a S => exact f _ _ h
  | exc _ _ => exact h
  | bad => exact h
theorem OkS.mono {r : RS} {N N' : Env → Store → Prop} {T T' : D → Store → Prop} (h : OkS r N T) (f : ∀ σ S, N σ S → N' σ S) (g : ∀ v S, T v S → T' v S) : OkS r N' T' := by
  cases r with
  | nx _ _ => exact f _ _ h
  | rt _ _ => exact g _ _ h
  | exc _ _ _ => exact h
  | bad => exact h
theorem w_ok {a : α} {Q : α → Store → Prop} : Ok (.ok a S) Q = Q a S := rfl
theorem w_bind {r : R α} {f : α → Store → R β} {Q : β → Store → Prop} : Ok (r.bind f) Q = Ok r fun a S => Ok (f a S) Q := by cases r <;> rfl
theorem w_tst {r : R D} {f : Bool → Store → R D} {Q : D → Store → Prop} : Ok (tst r f) Q = Ok r fun d S => ∃ b, d = .bl b ∧ Ok (f b S) Q := by
  cases r with
  | ok a S =>
    cases a <;> simp [tst, Ok]
  | exc _ _ => rfl
  | bad => rfl
theorem w_bindS {r : R α} {f : α → Store → RS} {N : Env → Store → Prop} {T : D → Store → Prop} : OkS (bindS r σ f) N T = Ok r fun a S => OkS (f a S) N T := by cases r <;> rfl
theorem w_var {i : Nat} {Q : D → Store → Prop} : Ok (eVar i σ S) Q = ∃ d, σ[i]? = some (some d) ∧ Q d S := by
  unfold eVar
  split
  · rename_i d e; simp [e, Ok]
  · rename_i h
    simp only [Ok, eq_iff_iff, false_iff]
    rintro ⟨d, e, _⟩
    exact h d e
theorem w_c {d : D} {Q : D → Store → Prop} : Ok (eC d σ S) Q = Q d S := rfl
theorem w_nil {Q : List D → Store → Prop} : Ok (eNil σ S) Q = Q [] S := rfl
theorem w_cons {e : EM} {es : EMs} {Q : List D → Store → Prop} : Ok (eCons e es σ S) Q = Ok (e σ S) fun d S => Ok (es σ S) fun ds S => Q (d :: ds) S := by
  unfold eCons; simp only [w_bind, w_ok]
theorem w_tup {es : EMs} {Q : D → Store → Prop} : Ok (eTup es σ S) Q = Ok (es σ S) fun ds S => Q (.tup ds) S := by
  unfold eTup; simp only [w_bind, w_ok]
theorem w_lst {es : EMs} {Q : D → Store → Prop} : Ok (eLst es σ S) Q = Ok (es σ S) fun ds S => Q (.loc S.length) (S ++ [.lst ds]) := by
  unfold eLst; simp only [w_bind, w_ok]
theorem w_d0 {Q : D → Store → Prop} : Ok (eD0 σ S) Q = Q (.loc S.length) (S ++ [.dt []]) := rfl
theorem w_e1 {f : D → Store → R D} {a : EM} {Q : D → Store → Prop} : Ok (e1 f a σ S) Q = Ok (a σ S) fun x S => Ok (f x S) Q := by
  unfold e1; simp only [w_bind]
theorem w_e2 {f : D → D → Store → R D} {a b : EM} {Q : D → Store → Prop} : Ok (e2 f a b σ S) Q = Ok (a σ S) fun x S => Ok (b σ S) fun y S => Ok (f x y S) Q := by
  unfold e2; simp only [w_bind]
theorem w_eF {f : List D → Store → R D} {es : EMs} {Q : D → Store → Prop} : Ok (eF f es σ S) Q = Ok (es σ S) fun ds S => Ok (f ds S) Q := by
  unfold eF; simp only [w_bind]
theorem w_and {a b : EM} {Q : D → Store → Prop} : Ok (eAnd a b σ S) Q = Ok (a σ S) fun d S => ∃ k, d = .bl k ∧ if k = true then Ok (b σ S) Q else Q (.bl false) S := by
  unfold eAnd; rw [w_tst]; congr; funext d S; congr; funext k; cases k <;> rfl
theorem w_or {a b : EM} {Q : D → Store → Prop} : Ok (eOr a b σ S) Q = Ok (a σ S) fun d S => ∃ k, d = .bl k ∧ if k = true then Q (.bl true) S else Ok (b σ S) Q := by
  unfold eOr; rw [w_tst]; congr; funext d S; congr; funext k; cases k <;> rfl
theorem w_not {a : EM} {Q : D → Store → Prop} : Ok (eNot a σ S) Q = Ok (a σ S) fun d S => ∃ k, d = .bl k ∧ Q (.bl (!k)) S := by
  unfold eNot; rw [w_tst]; rfl
theorem w_if {c a b : EM} {Q : D → Store → Prop} : Ok (eIf c a b σ S) Q = Ok (c σ S) fun d S => ∃ k, d = .bl k ∧ if k = true then Ok (a σ S) Q else Ok (b σ S) Q := by
  unfold eIf; rw [w_tst]; congr; funext d S; congr; funext k; cases k <;> rfl
theorem w_ch {f g : D → D → Store → R D} {a b c : EM} {Q : D → Store → Prop} : Ok (eCh f g a b c σ S) Q = Ok (a σ S) fun x S => Ok (b σ S) fun y S => Ok (f x y S) fun d S => ∃ k, d = .bl k ∧ if k = true then Ok (c σ S) fun z S => Ok (g y z S) Q else Q (.bl false) S := by
  unfold eCh; simp only [w_bind, w_tst]; congr; funext x S; congr; funext y S; congr; funext d S; congr; funext k; cases k <;> simp [w_bind, w_ok]
theorem w_ch3 {f g h : D → D → Store → R D} {a b c d : EM} {Q : D → Store → Prop} : Ok (eCh3 f g h a b c d σ S) Q = Ok (a σ S) fun x S => Ok (b σ S) fun y S => Ok (f x y S) fun v S => ∃ k, v = .bl k ∧ if k = true then Ok (c σ S) fun z S => Ok (g y z S) fun v S => ∃ k, v = .bl k ∧
    (if k = true then Ok (d σ S) fun u S => Ok (h z u S) Q else Q (.bl false) S) else Q (.bl false) S := by
  unfold eCh3; simp only [w_bind, w_tst]; congr; funext x S; congr; funext y S; congr; funext v S; congr; funext k
  cases k with
  | false => simp [w_ok]
  | true =>
    simp only [if_pos rfl, w_bind, w_tst]; congr; funext z S; congr; funext v S; congr; funext k; cases k <;> simp [w_bind, w_ok]
theorem w_sl {a : EM} {lo hi : PM} {Q : D → Store → Prop} : Ok (eSl a lo hi σ S) Q = Ok (a σ S) fun x S => Ok (lo σ S) fun l S => Ok (hi σ S) fun h S => Ok (oSl x l h S) Q := by
  unfold eSl; simp only [w_bind]
theorem w_pNo {Q : Option Int → Store → Prop} : Ok (pNo σ S) Q = Q none S := rfl
theorem w_pOf {e : EM} {Q : Option Int → Store → Prop} : Ok (pOf e σ S) Q = Ok (e σ S) fun x S => ∃ i, x = .int i ∧ Q (some i) S := by
  unfold pOf; rw [w_bind]; congr; funext x S; cases x <;> simp [Ok]
theorem w_eM {chk : D → Store → Bool} {f : List D → Store → R D} {o : EM} {es : EMs} {Q : D → Store → Prop} : Ok (eM chk f o es σ S) Q = Ok (o σ S) fun x S => chk x S = true ∧ Ok (es σ S) fun ds S => Ok (f (x :: ds) S) Q := by
  unfold eM; rw [w_bind]; congr; funext x S
  by_cases h : chk x S = true
  · rw [if_pos h]; simp [h, w_bind]
  · rw [if_neg h]; simp [h, Ok]
/-! statements -/
variable {N : Env → Store → Prop} {T : D → Store → Prop}
theorem w_sNil : OkS (sNil σ S) N T = N σ S := rfl
theorem w_sSeq {a b : SM} : OkS (sSeq a b σ S) N T = OkS (a σ S) (fun σ S => OkS (b σ S) N T) T := by
  unfold sSeq; cases a σ S <;> rfl
theorem w_sNever : OkS (sNever σ S) N T = False := rfl
theorem w_sExpr {e : EM} : OkS (sExpr e σ S) N T = Ok (e σ S) fun _ S => N σ S := by unfold sExpr; rw [w_bindS]; rfl
theorem w_sRet {e : EM} : OkS (sRet e σ S) N T = Ok (e σ S) T := by unfold sRet; rw [w_bindS]; rfl
theorem w_sSet {t : TgM} {e : EM} : OkS (sSet t e σ S) N T = Ok (e σ S) fun v S => ∃ σ1, t v σ = some σ1 ∧ N σ1 S := by
  unfold sSet; rw [w_bindS]; congr; funext v S; cases t v σ <;> simp [OkS]
theorem w_sPar {i j : Nat} {c : EMs} : OkS (sPar i j c σ S) N T = Ok (c σ S) fun ds S => ∃ v w, ds = [v, w] ∧ N ((σ.set i (some v)).set j (some w)) S := by
  unfold sPar; rw [w_bindS]; congr; funext ds S
  match ds with
  | [] => simp [OkS]
  | [_] => simp [OkS]
  | [a, b] => exact propext ⟨fun h => ⟨a, b, rfl, h⟩, fun ⟨_, _, e, h⟩ => by cases e; exact h⟩
  | _ :: _ :: _ :: _ => simp [OkS]
theorem w_sPar3 {i j l : Nat} {c : EMs} : OkS (sPar3 i j l c σ S) N T = Ok (c σ S) fun ds S => ∃ u v w, ds = [u, v, w] ∧ N (((σ.set i (some u)).set j (some v)).set l (some w)) S := by
  unfold sPar3; rw [w_bindS]; congr; funext ds S
  match ds with
  | [] => simp [OkS]
  | [_] => simp [OkS]
  | [_, _] => simp [OkS]
  | [a, b, c] => exact propext ⟨fun h => ⟨a, b, c, rfl, h⟩, fun ⟨_, _, _, e, h⟩ => by cases e; exact h⟩
  | _ :: _ :: _ :: _ :: _ => simp [OkS]
theorem w_sPar2 {i j : Nat} {a b : EM} : OkS (sPar i j (eCons a (eCons b eNil)) σ S) N T = Ok (a σ S) fun v S => Ok (b σ S) fun w S => N ((σ.set i (some v)).set j (some w)) S := by
  unfold sPar; simp only [w_bindS, w_cons, w_nil]; rfl
theorem w_sPar4 {i j l : Nat} {a b c : EM} : OkS (sPar3 i j l (eCons a (eCons b (eCons c eNil))) σ S) N T = Ok (a σ S) fun u S => Ok (b σ S) fun v S => Ok (c σ S) fun w S => N (((σ.set i (some u)).set j (some v)).set l (some w)) S := by
  unfold sPar3; simp only [w_bindS, w_cons, w_nil]; rfl
theorem w_sPut {o i e : EM} : OkS (sPut o i e σ S) N T = Ok (e σ S) fun v S => Ok (o σ S) fun x S => Ok (i σ S) fun y S => ∃ S1, oPut x y v S = some S1 ∧ N σ S1 := by
  unfold sPut; simp only [w_bindS]; congr; funext v S; congr; funext x S; congr; funext y S; cases oPut x y v S <;> simp [OkS]
theorem w_sAug {i : Nat} {f : D → D → Store → R D} {e : EM} : OkS (sAug i f e σ S) N T = ∃ x, σ[i]? = some (some x) ∧ Ok (e σ S) fun y S => Ok (f x y S) fun z S => N (σ.set i (some z)) S := by
  unfold sAug
  split
  · rename_i d e; simp only [w_bindS]; simp [e, OkS]
  · rename_i h
    simp only [OkS, eq_iff_iff, false_iff]
    rintro ⟨d, e, _⟩
    exact h d e
theorem w_sAugS {o i : EM} {f : D → D → Store → R D} {e : EM} : OkS (sAugS o i f e σ S) N T = Ok (o σ S) fun x S => Ok (i σ S) fun y S => Ok (oIx x y S) fun old S => Ok (e σ S) fun v S => Ok (f old v S) fun z S => ∃ S1, oPut x y z S = some S1 ∧ N σ S1 := by
  unfold sAugS; simp only [w_bindS]; congr; funext x S; congr; funext y S; congr; funext old S; congr; funext v S; congr; funext z S; cases oPut x y z S <;> simp [OkS]
theorem w_sIf {c : EM} {a b : SM} : OkS (sIf c a b σ S) N T = Ok (c σ S) fun d S => ∃ k, d = .bl k ∧ if k = true then OkS (a σ S) N T else OkS (b σ S) N T := by
  unfold sIf
  cases c σ S with
  | ok d S => cases d <;> simp [Ok, OkS]; rename_i b; cases b <;> simp
  | exc _ _ => rfl
  | bad => rfl
theorem w_sFor {src : IM} {t : TgM} {b : SM} : OkS (sFor src t b σ S) N T = Ok (src σ S) fun it S => OkS (forL it.g t b it.its σ S) N T := by unfold sFor; rw [w_bindS]
theorem w_fn {n m : Nat} {b : SM} {args : List D} {Q : D → Store → Prop} : Ok (mkFn n m b args S) Q = (args.length = n ∧ OkS (b (args.map some ++ List.replicate (m - n) none) S) (fun _ S => Q .non S) Q) := by
  unfold mkFn
  by_cases h : args.length = n
  · rw [if_pos h]
    simp only [h, true_and]
    cases b (args.map some ++ List.replicate (m - n) none) S <;> rfl
  · rw [if_neg h]
    simp [h, Ok]
/-! what is walked -/
theorem w_iOf {e : EM} {Q : It → Store → Prop} : Ok (iOf e σ S) Q = Ok (e σ S) fun x S => ∃ it, itOf S x = some it ∧ Q it S := by
  unfold iOf; rw [w_bind]; congr; funext x S; cases itOf S x <;> simp [Ok]
theorem w_iEnum {e : EM} {Q : It → Store → Prop} : Ok (iEnum e σ S) Q = Ok (e σ S) fun x S => ∃ it, itOf S (noRo x) = some it ∧ Q ⟨numb 0 it.its, it.g⟩ S := by
  unfold iEnum; rw [w_bind]; congr; funext x S; cases itOf S (noRo x) <;> simp [Ok]
theorem w_iRng {e : EM} {Q : It → Store → Prop} : Ok (iRng e σ S) Q = Ok (e σ S) fun x S => ∃ n, x = .int n ∧ (-(2 ^ 62) ≤ n ∧ n ≤ sizeLine) ∧ Q ⟨upTo 0 n.toNat, []⟩ S := by
  unfold iRng; rw [w_bind]; congr; funext x S
  cases x with
  | int n =>
    by_cases h : -(2 ^ 62) ≤ n ∧ n ≤ sizeLine
    · simp only [if_pos h]; exact propext ⟨fun q => ⟨n, rfl, h, q⟩, fun ⟨_, e, _, q⟩ => by cases e; exact q⟩
    · simp only [if_neg h]; exact propext ⟨fun q => q.elim, fun ⟨_, e, z, q⟩ => by cases e; exact h z⟩
  | _ => simp [Ok]
/-! a loop by its invariant -/
theorem for_ok {g : List (Nat × Ob)} {t : TgM} {b : SM} (I : List D → Env → Store → Prop) : ∀ (ds : List D) (σ : Env) (S : Store), I ds σ S →
    (∀ d ds σ S, I (d :: ds) σ S → It.ok g S ∧ ∃ σ1, t d σ = some σ1 ∧ OkS (b σ1 S) (fun σ S => I ds σ S) T) → (∀ σ S, I [] σ S → It.ok g S ∧ N σ S) → OkS (forL g t b ds σ S) N T
  | [], σ, S, h, _, k => by
    obtain ⟨h1, h2⟩ := k σ S h
    simp only [forL, if_pos h1]
    exact h2
  | d :: ds, σ, S, h, f, k => by
    obtain ⟨h1, σ1, e, h2⟩ := f d ds σ S h
    simp only [forL, if_pos h1, e]
    cases hb : b σ1 S with
    | nx σ2 S2 => rw [hb] at h2; exact for_ok I ds σ2 S2 h2 f k
    | rt v S2 => rw [hb] at h2; exact h2
    | exc _ _ _ => rw [hb] at h2; exact h2.elim
    | bad => rw [hb] at h2; exact h2.elim
theorem wh_ok {c : EM} {b : SM} (I : Nat → Env → Store → Prop)
    (f : ∀ n σ S, I n σ S → Ok (c σ S) fun v S1 => (v = .bl true ∧ OkS (b σ S1) (fun σ S => ∃ m, m < n ∧ I m σ S) T) ∨ (v = .bl false ∧ N σ S1)) :
    ∀ (K n : Nat) (σ : Env) (S : Store), I n σ S → n < K → OkS (whL c b K σ S) N T
  | 0, _, _, _, _, h => absurd h (Nat.not_lt_zero _)
  | K + 1, n, σ, S, h, hn => by
    have q := f n σ S h
    unfold whL
    cases ec : c σ S with
    | ok v S1 =>
      rw [ec] at q
      rcases q with ⟨e, q⟩ | ⟨e, q⟩
      · subst e
        simp only
        cases hb : b σ S1 with
        | nx σ2 S2 =>
          rw [hb] at q
          obtain ⟨m, hm, q⟩ := q
          exact wh_ok I f K m σ2 S2 q (by omega)
        | rt v S2 => rw [hb] at q; exact q
        | exc _ _ _ => rw [hb] at q; exact q.elim
        | bad => rw [hb] at q; exact q.elim
      · subst e
        exact q
    | exc _ _ => rw [ec] at q; exact q.elim
    | bad => rw [ec] at q; exact q.elim
theorem w_sWh {c : EM} {b : SM} {K n : Nat} (I : Nat → Env → Store → Prop) (h : I n σ S) (hn : n < K)
    (f : ∀ n σ S, I n σ S → Ok (c σ S) fun v S1 => (v = .bl true ∧ OkS (b σ S1) (fun σ S => ∃ m, m < n ∧ I m σ S) T) ∨ (v = .bl false ∧ N σ S1)) : OkS (sWh K c b σ S) N T := wh_ok I f K n σ S h hn
/-- a comprehension, by its invariant: what is left, what is made, the store -/
theorem lc_ok {g : List (Nat × Ob)} {t : TgM} {c e : EM} {Q : List D → Store → Prop} (I : List D → List D → Store → Prop) (f : ∀ d ds acc S, I (d :: ds) acc S → It.ok g S ∧ ∃ σ1, t d σ = some σ1 ∧ Ok (c σ1 S) fun v S1 => (v = .bl true ∧ Ok (e σ1 S1) fun y S2 => I ds (acc ++ [y]) S2) ∨ (v = .bl false ∧ I ds acc S1))
    (k : ∀ acc S, I [] acc S → It.ok g S ∧ Q acc S) : ∀ (ds acc : List D) (S : Store), I ds acc S → Ok (lcL g t c e σ ds S) fun ys S => Q (acc ++ ys) S
  | [], acc, S, h => by
    obtain ⟨h1, h2⟩ := k acc S h
    simp only [lcL, if_pos h1]
    show Q (acc ++ []) S
    rw [List.append_nil]; exact h2
  | d :: ds, acc, S, h => by
    obtain ⟨h1, σ1, e1, h2⟩ := f d ds acc S h
    simp only [lcL, if_pos h1, e1]
    cases ec : c σ1 S with
    | ok v S1 =>
      rw [ec] at h2
      rcases h2 with ⟨rfl, h2⟩ | ⟨rfl, h2⟩
      · simp only [w_bind, w_ok]
        refine h2.mono fun y S2 i => ?_
        refine (lc_ok I f k ds (acc ++ [y]) S2 i).mono fun ys S3 q => ?_
        rw [List.append_assoc] at q; exact q
      · exact lc_ok I f k ds acc S1 h2
    | exc _ _ => rw [ec] at h2; exact h2.elim
    | bad => rw [ec] at h2; exact h2.elim
theorem w_lc {src : IM} {t : TgM} {c e : EM} {own : List Nat} {Q : D → Store → Prop} : Ok (eLC src t c e own σ S) Q = Ok (src σ S) fun it S => Ok (lcL it.g t c e (wipeD σ own) it.its S) fun ys S => Q (.loc S.length) (S ++ [.lst ys]) := by
  unfold eLC; rw [w_bind]; congr; funext it S
  cases lcL it.g t c e (wipeD σ own) it.its S <;> rfl
end
theorem lc_inv {σ : Env} {S : Store} {g : List (Nat × Ob)} {t : TgM} {c e : EM} {Q : List D → Store → Prop} {ds : List D} (I : List D → List D → Store → Prop) (h : I ds [] S)
    (f : ∀ d ds acc S, I (d :: ds) acc S → It.ok g S ∧ ∃ σ1, t d σ = some σ1 ∧ Ok (c σ1 S) fun v S1 => (v = .bl true ∧ Ok (e σ1 S1) fun y S2 => I ds (acc ++ [y]) S2) ∨ (v = .bl false ∧ I ds acc S1))
    (k : ∀ acc S, I [] acc S → It.ok g S ∧ Q acc S) : Ok (lcL g t c e σ ds S) Q := by simpa using lc_ok I f k ds [] S h
/-- .. where nothing is stored: a map -/
theorem lc_map {γ : Type} {σ : Env} {S : Store} {g : List (Nat × Ob)} {t : TgM} {c e : EM} {f r : γ → D} (hg : It.ok g S) : ∀ (xs : List γ) (Q : List D → Store → Prop),
    (∀ x, x ∈ xs → ∃ σ1, t (f x) σ = some σ1 ∧ c σ1 S = .ok (.bl true) S ∧ Ok (e σ1 S) fun y S1 => y = r x ∧ S1 = S) → Q (xs.map r) S → Ok (lcL g t c e σ (xs.map f) S) Q
  | [], Q, _, q => by simp only [List.map_nil, lcL, if_pos hg]; exact q
  | x :: xs, Q, h, q => by
    obtain ⟨σ1, e1, e2, e3⟩ := h x List.mem_cons_self
    simp only [List.map_cons, lcL, if_pos hg, e1, e2, w_bind, w_ok]
    refine e3.mono fun y S1 ⟨e4, e5⟩ => ?_
    subst e4 e5
    exact lc_map hg xs (fun ys S => Q (r x :: ys) S) (fun x hx => h x (List.mem_cons_of_mem _ hx)) q
end Mn
/-! The operators by values, as conditions. -/
namespace Mn
open PySem
section
variable {S : Store} {Q : D → Store → Prop}
theorem v_add {i j : Int} : Ok (oAdd (.int i) (.int j) S) Q = Q (.int (i + j)) S := rfl
theorem ok_if {α : Type} {c : Prop} [Decidable c] {r : R α} {Q : α → Store → Prop} : Ok (if c then r else .bad) Q = (c ∧ Ok r Q) := by
  by_cases h : c
  · rw [if_pos h]; simp [h]
  · rw [if_neg h]; simp [h, Ok]
theorem v_addS {a b : Str} : Ok (oAdd (.str a) (.str b) S) Q = (a.length + b.length ≤ sizeLine ∧ Q (.str (a ++ b)) S) := ok_if
theorem v_addT {a b : List D} : Ok (oAdd (.tup a) (.tup b) S) Q = (a.length + b.length ≤ sizeLine ∧ Q (.tup (a ++ b)) S) := ok_if
theorem v_addL {a b : Nat} : Ok (oAdd (.loc a) (.loc b) S) Q = ∃ x, S[a]? = some (.lst x) ∧ ∃ y, S[b]? = some (.lst y) ∧ x.length + y.length ≤ sizeLine ∧ Q (.loc S.length) (S ++ [.lst (x ++ y)]) := by
  simp only [oAdd]
  split
  · rename_i x y e1 e2
    rw [ok_if]
    simp [e1, e2]; exact fun _ => Iff.rfl
  · rename_i h
    refine propext ⟨fun z => z.elim, fun ⟨x, e1, y, e2, _⟩ => (h x y e1 e2).elim⟩
theorem v_iadd {i j : Int} : Ok (iAdd (.int i) (.int j) S) Q = Q (.int (i + j)) S := rfl
theorem v_sub {i j : Int} : Ok (oSub (.int i) (.int j) S) Q = Q (.int (i - j)) S := rfl
theorem v_mul {i j : Int} : Ok (oMul (.int i) (.int j) S) Q = (mulOk i j = true ∧ Q (.int (i * j)) S) := ok_if
theorem v_mulT {a : List D} {k : Int} : Ok (oMul (.tup a) (.int k) S) Q = ((a ≠ [] ∧ 2 ≤ k ∧ k ≤ 1000 ∧ a.length ≤ 1000) ∧ Q (.tup (repL a k)) S) := ok_if
theorem v_div {i j : Int} : Ok (oDiv (.int i) (.int j) S) Q = ((0 < j ∧ j < 1073741824) ∧ Q (.int (i / j)) S) := ok_if
theorem v_mod {i j : Int} : Ok (oMod (.int i) (.int j) S) Q = (0 < j ∧ Q (.int (i % j)) S) := ok_if
theorem v_pow {i j : Int} : Ok (oPow (.int i) (.int j) S) Q = ((0 ≤ j ∧ j ≤ 1000000 ∧ i.natAbs < 2 ^ 64) ∧ Q (.int (i ^ j.toNat)) S) := ok_if
theorem v_neg {i : Int} : Ok (oNeg (.int i) S) Q = Q (.int (-i)) S := rfl
theorem v_cmp {f : Int → Int → Bool} {i j : Int} : Ok (oCmp f (.int i) (.int j) S) Q = Q (.bl (f i j)) S := rfl
theorem v_eq {i j : Int} : Ok (oEq (.int i) (.int j) S) Q = Q (.bl (decide (i = j))) S := rfl
theorem v_eqS {i j : Str} : Ok (oEq (.str i) (.str j) S) Q = Q (.bl (decide (i = j))) S := rfl
theorem v_eqB {i j : Bool} : Ok (oEq (.bl i) (.bl j) S) Q = Q (.bl (decide (i = j))) S := rfl
theorem v_ne {x y : D} : Ok (oNe x y S) Q = Ok (oEq x y S) fun d S => ∃ k, d = .bl k ∧ Q (.bl (!k)) S := by
  unfold oNe notR; rw [w_tst]; rfl
theorem v_notIn {x y : D} : Ok (oNotIn x y S) Q = Ok (oIn x y S) fun d S => ∃ k, d = .bl k ∧ Q (.bl (!k)) S := by
  unfold oNotIn notR; rw [w_tst]; rfl
theorem v_isN {x : D} : Ok (oIsN x S) Q = Q (.bl (decide (x = .non))) S := rfl
theorem v_notN {x : D} : Ok (oNotN x S) Q = Q (.bl (!decide (x = .non))) S := rfl
theorem v_inS {x : Str} {ys : List D} : Ok (oIn (.str x) (.tup ys) S) Q = ∃ b, inFlat (.str x) ys = some b ∧ Q (.bl b) S := by
  simp only [oIn]; cases h : inFlat (.str x) ys <;> simp [Ok]
theorem v_inI {x : Int} {ys : List D} : Ok (oIn (.int x) (.tup ys) S) Q = ∃ b, inFlat (.int x) ys = some b ∧ Q (.bl b) S := by
  simp only [oIn]; cases h : inFlat (.int x) ys <;> simp [Ok]
theorem v_inD {x : List D} {l : Nat} {kvs : List (NestedKey × D)} (h : S[l]? = some (.dt kvs)) : Ok (oIn (.tup x) (.loc l) S) Q = ∃ k, tkey (.tup x) = some k ∧ Q (.bl (kvs.lookup k).isSome) S := by
  simp only [oIn, h, Ob.dict?]
  cases tkey (.tup x) <;> simp [Ok]
theorem v_ix {xs : List D} {i : Int} : Ok (oIx (.tup xs) (.int i) S) Q = ∃ d, L2.atI xs i = some d ∧ Q d S := by
  simp only [oIx]; cases h : L2.atI xs i <;> simp [Ok]
theorem v_ixL {l : Nat} {i : Int} : Ok (oIx (.loc l) (.int i) S) Q = ∃ xs, S[l]? = some (.lst xs) ∧ ∃ d, L2.atI xs i = some d ∧ Q d S := by
  simp only [oIx]
  split
  · rename_i xs e
    simp only [e, Option.some.injEq, Ob.lst.injEq, exists_eq_left']
    cases h : L2.atI xs i <;> simp [Ok]
  · rename_i o ho e
    refine propext ⟨fun z => ?_, fun ⟨xs, e1, _⟩ => ?_⟩
    · simp only [tkey] at z
      cases h : o.dict? <;> (rw [h] at z; exact z.elim)
    · rw [e] at e1; cases e1; exact (ho _ rfl).elim
  · rename_i e
    refine propext ⟨fun z => z.elim, fun ⟨xs, e1, _⟩ => by rw [e] at e1; cases e1⟩
theorem v_ixD {x : List D} {l : Nat} {kvs : List (NestedKey × D)} (h : S[l]? = some (.dt kvs)) : Ok (oIx (.loc l) (.tup x) S) Q = ∃ k, tkey (.tup x) = some k ∧ ∃ d, kvs.lookup k = some d ∧ Q d S := by
  simp only [oIx, h, Ob.dict?]
  cases tkey (.tup x) with
  | none => simp [Ok]
  | some k => cases h2 : kvs.lookup k <;> simp [Ok, h2]
theorem v_sl {xs : List D} {lo hi : Option Int} : Ok (oSl (.tup xs) lo hi S) Q = Q (.tup (cut xs lo hi)) S := rfl
theorem v_slL {l : Nat} {lo hi : Option Int} : Ok (oSl (.loc l) lo hi S) Q = ∃ xs, S[l]? = some (.lst xs) ∧ Q (.loc S.length) (S ++ [.lst (cut xs lo hi)]) := by
  simp only [oSl]
  split
  · rename_i xs e; simp [e, Ok]
  · rename_i h
    refine propext ⟨fun z => z.elim, fun ⟨xs, e, _⟩ => (h xs e).elim⟩
theorem v_on1 {f : D → Store → R D} {d : D} : Ok (on1 f [d] S) Q = Ok (f d S) Q := rfl
theorem v_on2 {f : D → D → Store → R D} {d e : D} : Ok (on2 f [d, e] S) Q = Ok (f d e S) Q := rfl
theorem v_abs {i : Int} : Ok (bAbs (.int i) S) Q = Q (.int (if i < 0 then -i else i)) S := rfl
theorem v_max2 {i j : Int} : Ok (bMax2 (.int i) (.int j) S) Q = Q (.int (if j > i then j else i)) S := rfl
theorem v_min2 {i j : Int} : Ok (bMin2 (.int i) (.int j) S) Q = Q (.int (if j < i then j else i)) S := rfl
theorem v_len {xs : List D} : Ok (bLen (.tup xs) S) Q = Q (.int xs.length) S := rfl
theorem v_lenR {xs : List D} : Ok (bLen (.ro xs) S) Q = Q (.int xs.length) S := rfl
theorem v_lenL {l : Nat} : Ok (bLen (.loc l) S) Q = ∃ xs, S[l]? = some (.lst xs) ∧ Q (.int xs.length) S := by
  simp only [bLen, seqOf]
  split
  · rename_i xs e
    split at e
    · rename_i ys e2; cases e; simp [e2, Ok]
    · cases e
  · rename_i e
    refine propext ⟨fun z => z.elim, fun ⟨xs, e1, _⟩ => ?_⟩
    rw [e1] at e; cases e
theorem v_lenS {z : Str} : Ok (bLen (.str z) S) Q = (z.length ≤ sizeLine ∧ Q (.int z.length) S) := ok_if
theorem v_list {xs : List D} : Ok (bList (.tup xs) S) Q = Q (.loc S.length) (S ++ [.lst xs]) := rfl
theorem v_listR {xs : List D} : Ok (bList (.ro xs) S) Q = Q (.loc S.length) (S ++ [.lst xs]) := rfl
theorem seqL {l : Nat} {P : List D → Prop} {r : List D → R D} (h : ∀ xs, Ok (r xs) Q = P xs) : Ok (match seqOf S (.loc l) with | some xs => r xs | none => .bad) Q = ∃ xs, S[l]? = some (.lst xs) ∧ P xs := by
  simp only [seqOf]
  split
  · rename_i xs e
    split at e
    · rename_i ys e2; cases e; simp [e2, h]
    · cases e
  · rename_i e
    refine propext ⟨fun z => z.elim, fun ⟨xs, e1, _⟩ => ?_⟩
    rw [e1] at e; cases e
theorem v_listL {l : Nat} : Ok (bList (.loc l) S) Q = ∃ xs, S[l]? = some (.lst xs) ∧ Q (.loc S.length) (S ++ [.lst xs]) := seqL fun _ => rfl
theorem v_tuple {xs : List D} : Ok (bTuple (.tup xs) S) Q = Q (.tup xs) S := rfl
theorem v_tupleL {l : Nat} : Ok (bTuple (.loc l) S) Q = ∃ xs, S[l]? = some (.lst xs) ∧ Q (.tup xs) S := seqL fun _ => rfl
theorem ints_of : ∀ ns : List Int, intsOf (ns.map .int) = some ns
  | [] => rfl
  | n :: ns => by simp [intsOf, ints_of ns]
theorem v_onIs {f : List Int → Option Int} {ns : List Int} : Ok (onIs f (.tup (ns.map .int)) S) Q = ∃ n, f ns = some n ∧ Q (.int n) S := by
  simp only [onIs, seqOf, ints_of]
  cases h2 : f ns <;> simp [Ok]
theorem v_onIsL {f : List Int → Option Int} {l : Nat} {ns : List Int} (h : S[l]? = some (.lst (ns.map .int))) : Ok (onIs f (.loc l) S) Q = ∃ n, f ns = some n ∧ Q (.int n) S := by
  simp only [onIs, seqOf, h, ints_of]
  cases h2 : f ns <;> simp [Ok]
theorem bls_of : ∀ ns : List Bool, blsOf (ns.map .bl) = some ns
  | [] => rfl
  | n :: ns => by simp [blsOf, bls_of ns]
theorem v_onBs {f : List Bool → Bool} {l : Nat} {bs : List Bool} (h : S[l]? = some (.lst (bs.map .bl))) : Ok (onBs f (.loc l) S) Q = Q (.bl (f bs)) S := by
  simp only [onBs, h, bls_of]; rfl
theorem v_isL {l : Nat} : (isL (.loc l) S = true) = ∃ xs, S[l]? = some (.lst xs) := by
  simp only [isL]
  split
  · rename_i xs e; simp [e]
  · rename_i h
    refine propext ⟨fun z => (by cases z), fun ⟨xs, e⟩ => (h xs e).elim⟩
theorem v_append {l : Nat} {y : D} : Ok (mAppend [.loc l, y] S) Q = ∃ xs, S[l]? = some (.lst xs) ∧ xs.length < sizeLine ∧ Q .non (S.set l (.lst (xs ++ [y]))) := by
  simp only [mAppend]
  split
  · rename_i xs e; rw [ok_if]; simp [e]; exact fun _ => Iff.rfl
  · rename_i h
    refine propext ⟨fun z => z.elim, fun ⟨xs, e, _⟩ => (h xs e).elim⟩
theorem v_popAt {l : Nat} {i : Int} : Ok (mPopAt [.loc l, .int i] S) Q = ∃ xs, S[l]? = some (.lst xs) ∧ (0 ≤ i ∧ i < xs.length) ∧ ∃ y, xs[i.toNat]? = some y ∧ Q y (S.set l (.lst (xs.eraseIdx i.toNat))) := by
  simp only [mPopAt]
  split
  · rename_i xs e
    rw [ok_if]
    simp only [e, Option.some.injEq, Ob.lst.injEq, exists_eq_left']
    congr 1
    cases h : xs[i.toNat]? <;> simp [Ok]
  · rename_i h
    refine propext ⟨fun z => z.elim, fun ⟨xs, e, _⟩ => (h xs e).elim⟩
theorem v_putL {l : Nat} {k : Int} {v : D} {P : Store → Prop} : (∃ S1, oPut (.loc l) (.int k) v S = some S1 ∧ P S1) = ∃ xs, S[l]? = some (.lst xs) ∧ ∃ j, L2.ixN xs.length k = some j ∧ P (S.set l (.lst (xs.set j v))) := by
  simp only [oPut]
  split
  · rename_i xs e
    cases h : L2.ixN xs.length k <;> simp [e, h]
  · rename_i kvs e
    simp [tkey, e]
  · rename_i h1 h2
    refine propext ⟨fun ⟨_, z, _⟩ => (by cases z), fun ⟨xs, e, _⟩ => (h1 xs e).elim⟩
theorem v_putD {l : Nat} {x : List D} {v : D} {P : Store → Prop} {kvs : List (NestedKey × D)} (h : S[l]? = some (.dt kvs)) : (∃ S1, oPut (.loc l) (.tup x) v S = some S1 ∧ P S1) = ∃ k, tkey (.tup x) = some k ∧ kvs.length < sizeLine ∧ P (S.set l (.dt (kput kvs k v))) := by
  simp only [oPut, h]
  cases tkey (.tup x) with
  | none => simp
  | some k =>
    by_cases h2 : kvs.length < sizeLine
    · simp [h2]
    · simp [h2]
theorem v_it {xs : List D} {P : It → Prop} : (∃ it, itOf S (.tup xs) = some it ∧ P it) = P ⟨xs, []⟩ := by simp [itOf]
theorem v_itR {xs : List D} {P : It → Prop} : (∃ it, itOf S (.ro xs) = some it ∧ P it) = P ⟨xs, []⟩ := by simp [itOf]
theorem v_itL {l : Nat} {P : It → Prop} : (∃ it, itOf S (.loc l) = some it ∧ P it) = ∃ xs, S[l]? = some (.lst xs) ∧ P ⟨xs, [(l, .lst xs)]⟩ := by
  simp only [itOf]
  split
  · rename_i xs e; simp [e]
  · rename_i h
    refine propext ⟨fun ⟨_, z, _⟩ => (by cases z), fun ⟨xs, e, _⟩ => (h xs e).elim⟩
theorem v_noRoT {xs : List D} : noRo (.tup xs) = .tup xs := rfl
theorem v_noRoL {l : Nat} : noRo (.loc l) = .loc l := rfl
theorem v_tgN {i : Nat} {d : D} {σ : Env} {P : Env → Prop} : (∃ σ1, tgN i d σ = some σ1 ∧ P σ1) = P (σ.set i (some d)) := by simp [tgN]
theorem v_tgT {ts : List D → Env → Option Env} {xs : List D} {σ : Env} : tgT ts (.tup xs) σ = ts xs σ := rfl
theorem v_tgCons {t : TgM} {ts : List D → Env → Option Env} {d : D} {r : List D} {σ : Env} {P : Env → Prop} : (∃ σ1, tgCons t ts (d :: r) σ = some σ1 ∧ P σ1) = ∃ σ1, t d σ = some σ1 ∧ ∃ σ2, ts r σ1 = some σ2 ∧ P σ2 := by
  simp only [tgCons]; cases h : t d σ <;> simp
theorem v_tgNil {σ : Env} {P : Env → Prop} : (∃ σ1, tgNil [] σ = some σ1 ∧ P σ1) = P σ := by simp [tgNil]
theorem v_eYes {σ : Env} : Ok (eYes σ S) Q = Q (.bl true) S := rfl
theorem v_okg : It.ok [] S = True := by simp [It.ok]
theorem v_okg1 {l : Nat} {o : Ob} : It.ok [(l, o)] S = (S[l]? = some o) := by simp [It.ok]
end
end Mn
/-! Plain data: None, whole numbers, texts and tuples of such. -/
namespace Mn
open PySem
def pl : Nat → D → Bool
  | _, .non => true
  | _, .int _ => true
  | _, .str x => PyData.strOk x
  | n + 1, .tup xs => xs.all (pl n)
  | _, _ => false
def toP : Nat → D → PyData
  | _, .int i => .int i
  | _, .str x => .str x
  | n + 1, .tup xs => .tuple (xs.map (toP n))
  | _, _ => .none
theorem pd_all {S : Store} {n m : Nat} (ih : ∀ x, pl n x = true → pd m S x = some (toP n x)) : ∀ xs : List D, xs.all (pl n) = true → xs.mapM (pd m S) = some (xs.map (toP n))
  | [], _ => rfl
  | x :: xs, h => by
    simp only [List.all_cons, Bool.and_eq_true] at h
    rw [List.mapM_cons, ih x h.1, pd_all ih xs h.2]; rfl
theorem pd_pl {S : Store} : ∀ (n m : Nat) (x : D), pl n x = true → n < m → pd m S x = some (toP n x)
  | _, 0, _, _, h => absurd h (Nat.not_lt_zero _)
  | _, m + 1, .non, _, _ => by simp [pd, toP]
  | _, m + 1, .int _, _, _ => by simp [pd, toP]
  | _, m + 1, .str _, _, _ => by simp [pd, toP]
  | 0, m + 1, .tup xs, h, _ => by simp [pl] at h
  | n + 1, m + 1, .tup xs, h, hm => by
    simp only [pl] at h
    simp only [pd, toP]
    rw [pd_all (fun x hx => pd_pl n m x hx (by omega)) xs h]; rfl
  | n, m + 1, .bl _, h, _ => by cases n <;> simp [pl] at h
  | n, m + 1, .ro _, h, _ => by cases n <;> simp [pl] at h
  | n, m + 1, .loc _, h, _ => by cases n <;> simp [pl] at h
theorem lay_all {n : Nat} (ih : ∀ x, pl n x = true → (toP n x).canLay0 = true) : ∀ xs : List D, xs.all (pl n) = true → PyData.canLayAll0 (xs.map (toP n)) = true
  | [], _ => rfl
  | x :: xs, h => by
    simp only [List.all_cons, Bool.and_eq_true] at h
    simp [PyData.canLayAll0, ih x h.1, lay_all ih xs h.2]
theorem lay_pl : ∀ (n : Nat) (x : D), pl n x = true → (toP n x).canLay0 = true
  | n, .non, _ => by cases n <;> rfl
  | n, .int _, _ => by cases n <;> rfl
  | n, .str _, h => by cases n <;> exact h
  | 0, .tup xs, h => by simp [pl] at h
  | n + 1, .tup xs, h => by
    simp only [pl] at h
    simp only [toP, PyData.canLay0]
    exact lay_all (fun x hx => lay_pl n x hx) xs h
  | n, .bl _, h => by cases n <;> simp [pl] at h
  | n, .ro _, h => by cases n <;> simp [pl] at h
  | n, .loc _, h => by cases n <;> simp [pl] at h
theorem dep_all {n : Nat} (ih : ∀ x, pl n x = true → (toP n x).depth ≤ n + 1) : ∀ xs : List D, xs.all (pl n) = true → PyData.depthAll (xs.map (toP n)) ≤ n + 1
  | [], _ => by simp [PyData.depthAll]
  | x :: xs, h => by
    simp only [List.all_cons, Bool.and_eq_true] at h
    have := ih x h.1
    have := dep_all ih xs h.2
    simp only [List.map_cons, PyData.depthAll]
    omega
theorem dep_pl : ∀ (n : Nat) (x : D), pl n x = true → (toP n x).depth ≤ n + 1
  | n, .non, _ => by cases n <;> simp [toP, PyData.depth]
  | n, .int _, _ => by cases n <;> simp [toP, PyData.depth]
  | n, .str _, _ => by cases n <;> simp [toP, PyData.depth]
  | 0, .tup xs, h => by simp [pl] at h
  | n + 1, .tup xs, h => by
    simp only [pl] at h
    have := dep_all (fun x hx => dep_pl n x hx) xs h
    simp only [toP, PyData.depth]
    omega
  | n, .bl _, h => by cases n <;> simp [pl] at h
  | n, .ro _, h => by cases n <;> simp [pl] at h
  | n, .loc _, h => by cases n <;> simp [pl] at h
theorem shp_pl {n : Nat} {x : D} (h : pl n x = true) (hn : n ≤ 60) : SeqAt.shaped (toP n x) = true := by
  have := dep_pl n x h
  simp only [SeqAt.shaped, lay_pl n x h, Bool.true_and, decide_eq_true_eq]
  omega
theorem eqv_all {n : Nat} (ih : ∀ x y, pl n x = true → pl n y = true → PyData.eqv (toP n x) (toP n y) = decide (x = y)) : ∀ xs ys : List D, xs.all (pl n) = true → ys.all (pl n) = true → PyData.eqvAll (xs.map (toP n)) (ys.map (toP n)) = decide (xs = ys)
  | [], [], _, _ => rfl
  | [], _ :: _, _, _ => by simp [PyData.eqvAll]
  | _ :: _, [], _, _ => by simp [PyData.eqvAll]
  | x :: xs, y :: ys, h, h' => by
    simp only [List.all_cons, Bool.and_eq_true] at h h'
    simp only [List.map_cons, PyData.eqvAll, ih x y h.1 h'.1, eqv_all ih xs ys h.2 h'.2, List.cons.injEq, Bool.decide_and]
theorem eqv_pl : ∀ (n : Nat) (x y : D), pl n x = true → pl n y = true → PyData.eqv (toP n x) (toP n y) = decide (x = y) := by
  intro n
  induction n with
  | zero => intro x y h h'; cases x <;> cases y <;> simp [pl, toP, PyData.eqv] at h h' ⊢ <;> rfl
  | succ n ih =>
    intro x y h h'
    cases x <;> cases y <;> first | (rename_i xs ys; simp only [toP, PyData.eqv, D.tup.injEq]; exact eqv_all ih xs ys h h') | (simp [pl] at h h' <;> simp [toP, PyData.eqv] <;> rfl)
section
variable {S : Store} {Q : D → Store → Prop}
theorem v_eqP {x y : D} (hx : pl 8 x = true) (hy : pl 8 y = true) : Ok (oEq x y S) Q = Q (.bl (decide (x = y))) S := by
  have e : Ok (match pd 9 S x, pd 9 S y with
    | some d, some e => if SeqAt.shaped d = true ∧ SeqAt.shaped e = true then R.ok (.bl (PyData.eqv d e)) S else .bad
    | _, _ => .bad) Q = Q (.bl (decide (x = y))) S := by
    rw [pd_pl 8 9 x hx (by omega), pd_pl 8 9 y hy (by omega)]
    simp only
    rw [if_pos ⟨shp_pl hx (by omega), shp_pl hy (by omega)⟩, eqv_pl 8 x y hx hy]; rfl
  cases x <;> cases y <;> first | exact e | (simp only [oEq, w_ok, D.int.injEq, D.str.injEq, D.bl.injEq])
theorem v_eqL {l m : Nat} {xs ys : List D} (hl : S[l]? = some (.lst xs)) (hm : S[m]? = some (.lst ys)) (hx : xs.all (pl 7) = true) (hy : ys.all (pl 7) = true) : Ok (oEq (.loc l) (.loc m) S) Q = Q (.bl (decide (xs = ys))) S := by
  simp only [oEq, pd, hl, hm]
  rw [pd_all (n := 7) (m := 8) (fun x h => pd_pl 7 8 x h (by omega)) xs hx, pd_all (n := 7) (m := 8) (fun x h => pd_pl 7 8 x h (by omega)) ys hy]
  have sh : ∀ zs : List D, zs.all (pl 7) = true → SeqAt.shaped (.list (zs.map (toP 7))) = true := fun zs h => by
    have h1 := dep_all (fun x hx => dep_pl 7 x hx) zs h
    have h2 := lay_all (fun x hx => lay_pl 7 x hx) zs h
    simp only [SeqAt.shaped, PyData.canLay0, h2, PyData.depth, Bool.true_and, decide_eq_true_eq]
    exact decide_eq_true (by omega)
  simp only [Option.map_some]
  rw [if_pos ⟨sh xs hx, sh ys hy⟩, w_ok]
  simp only [PyData.eqv, eqv_all (fun x y => eqv_pl 7 x y) xs ys hx hy]
end
end Mn
/-! Worlds, and what the text's defs make of them. -/
namespace Mn
open PySem
/-! ### stores that grow -/
def Gr (S S' : Store) : Prop := ∃ T, S' = S ++ T
theorem Gr.refl {S : Store} : Gr S S := ⟨[], (List.append_nil S).symm⟩
theorem Gr.push {S : Store} {T : Store} : Gr S (S ++ T) := ⟨T, rfl⟩
theorem Gr.trans {S1 S2 S3 : Store} (a : Gr S1 S2) (b : Gr S2 S3) : Gr S1 S3 := by
  obtain ⟨T, rfl⟩ := a
  obtain ⟨U, rfl⟩ := b
  exact ⟨T ++ U, List.append_assoc ..⟩
theorem Gr.more {S S' : Store} {T : Store} (a : Gr S S') : Gr S (S' ++ T) := a.trans .push
theorem Gr.look {S S' : Store} {l : Nat} {o : Ob} (a : Gr S S') (h : S[l]? = some o) : S'[l]? = some o := by
  obtain ⟨T, rfl⟩ := a
  rw [List.getElem?_append_left (List.getElem?_eq_some_iff.mp h).1]
  exact h
theorem Gr.len {S S' : Store} (a : Gr S S') : S.length ≤ S'.length := by
  obtain ⟨T, rfl⟩ := a
  simp
theorem Gr.set {S S' : Store} {l : Nat} {o : Ob} (a : Gr S S') (h : S.length ≤ l) : Gr S (S'.set l o) := by
  obtain ⟨T, rfl⟩ := a
  exact ⟨T.set (l - S.length) o, by rw [List.set_append_right _ _ h]⟩
theorem look_new {S : Store} {o : Ob} {T : Store} : (S ++ o :: T)[S.length]? = some o := by simp
theorem set_new {S : Store} {o u : Ob} {T : Store} : (S ++ o :: T).set S.length u = S ++ u :: T := by simp
theorem look_set {S : Store} {l : Nat} {o u : Ob} (h : S[l]? = some u) : (S.set l o)[l]? = some o := List.getElem?_set_self (List.getElem?_eq_some_iff.mp h).1
theorem szl : sizeLine = 16777216 := rfl
/-! ### words -/
theorem e_ss : (("some" : Str) = "some") = True := by simp
theorem e_hs : (("half" : Str) = "some") = False := eq_false (by decide +kernel)
theorem e_es : (("even" : Str) = "some") = False := eq_false (by decide +kernel)
theorem e_ps : (("part" : Str) = "some") = False := eq_false (by decide +kernel)
theorem e_sh : (("some" : Str) = "half") = False := eq_false (by decide +kernel)
theorem e_eh : (("even" : Str) = "half") = False := eq_false (by decide +kernel)
theorem e_ph : (("part" : Str) = "half") = False := eq_false (by decide +kernel)
theorem e_se : (("some" : Str) = "even") = False := eq_false (by decide +kernel)
theorem e_he : (("half" : Str) = "even") = False := eq_false (by decide +kernel)
theorem e_pe : (("part" : Str) = "even") = False := eq_false (by decide +kernel)
theorem e_sp : (("some" : Str) = "part") = False := eq_false (by decide +kernel)
theorem e_hp : (("half" : Str) = "part") = False := eq_false (by decide +kernel)
theorem e_ep : (("even" : Str) = "part") = False := eq_false (by decide +kernel)
/-! ### places -/
theorem ix_nat {α : Type} (xs : List α) (k : Nat) : L2.atI xs (k : Int) = xs[k]? := by
  unfold L2.atI L2.ixN
  rw [if_pos (Int.natCast_nonneg k)]
  by_cases h : k < xs.length
  · rw [if_pos (by omega)]; rfl
  · rw [if_neg (by omega)]; simp; omega
theorem ix_0 {α : Type} (xs : List α) : L2.atI xs 0 = xs[0]? := ix_nat xs 0
theorem ix_1 {α : Type} (xs : List α) : L2.atI xs 1 = xs[1]? := ix_nat xs 1
theorem ix_2 {α : Type} (xs : List α) : L2.atI xs 2 = xs[2]? := ix_nat xs 2
theorem upTo_map : ∀ (n k : Nat), upTo (k : Int) n = (List.range' k n).map fun i => D.int (i : Nat)
  | 0, _ => rfl
  | n + 1, k => by
    simp only [upTo, List.range'_succ, List.map_cons]
    rw [show (k : Int) + 1 = ((k + 1 : Nat) : Int) from rfl, upTo_map n (k + 1)]
theorem upTo_0 (n : Nat) : upTo 0 n = (List.range n).map fun i => D.int (i : Nat) := by
  rw [show (0 : Int) = ((0 : Nat) : Int) from rfl, upTo_map, List.range_eq_range']
theorem ix30 : L2.ixN 3 0 = some 0 := rfl
theorem ix31 : L2.ixN 3 1 = some 1 := rfl
theorem ix32 : L2.ixN 3 2 = some 2 := rfl
theorem cut_nat {α : Type} (xs : List α) (k : Nat) : cut xs (some (k : Int)) none = xs.drop k := by
  unfold cut
  rw [HT.sIx_nat, HT.sIx_none]
  rw [List.take_of_length_le (by simp)]
  by_cases h : k ≤ xs.length
  · rw [Nat.min_eq_left h]
  · rw [Nat.min_eq_right (by omega), List.drop_of_length_le (Nat.le_refl _), List.drop_of_length_le (by omega)]
theorem cut_1 {α : Type} (xs : List α) : cut xs (some 1) none = xs.drop 1 := cut_nat xs 1
/-! ### worlds -/
inductive Ru where
  | som (k : Int) | half | even | part (a b : Int)
  deriving DecidableEq
def Ru.enc : Ru → D
  | .som k => .tup [.str "some", .int k]
  | .half => .tup [.str "half"]
  | .even => .tup [.str "even"]
  | .part a b => .tup [.str "part", .int a, .int b]
def Ru.ok : Ru → Prop
  | .som k => 1 ≤ k ∧ k ≤ 9
  | .part a b => 1 ≤ a ∧ a ≤ b ∧ b ≤ 9
  | _ => True
theorem is_rule_ok {r : Ru} (h : r.ok) {S : Store} : Ok (mkFn 1 3 p_is_rule [r.enc] S) fun v S' => v = .bl true ∧ S' = S := by
  cases r <;> simp only [Ru.enc, Ru.ok] at h ⊢ <;> simp only [p_is_rule, w_fn, w_ok, w_sSeq, w_sIf, w_sRet, w_sPar2, w_sPar4, w_sNil, w_sNever, w_sExpr, w_sSet, w_sPut, w_sAug, w_sAugS, w_sFor, w_e1, w_e2, w_eF, w_eM, w_cons, w_nil, w_var, w_c, w_tup, w_lst, w_d0, w_and, w_or, w_not, w_if, w_ch, w_ch3, w_sl, w_pOf, w_pNo, w_iOf, w_iEnum, w_iRng, w_lc, v_add, v_iadd, v_addS, v_addT, v_addL, v_sub, v_mul, v_mulT, v_div, v_mod, v_pow, v_neg, v_cmp, v_eq, v_eqS, v_eqB, v_ne, v_notIn, v_isN, v_notN, v_inS, v_inI, v_ix, v_ixL, v_sl, v_slL, v_on1, v_on2, v_abs, v_max2, v_min2, v_len, v_lenR, v_lenL, v_list, v_listR, v_listL, v_tuple, v_tupleL, v_onIs, v_isL, v_append, v_popAt, v_putL, v_it, v_itR, v_itL, v_noRoT, v_noRoL, v_tgN, v_tgT, v_tgCons, v_tgNil, v_eYes, v_okg, v_okg1, List.length_cons, List.length_nil, List.map_cons, List.map_nil, List.replicate, List.cons_append, List.nil_append, List.getElem?_cons_zero, List.getElem?_cons_succ, Option.some.injEq, exists_eq_left', exists_eq_left, List.set_cons_zero, List.set_cons_succ, D.bl.injEq, D.int.injEq, D.str.injEq, D.tup.injEq, D.loc.injEq, decide_eq_true_eq, Bool.not_eq_true', decide_eq_false_iff_not, true_and, and_true, Ob.lst.injEq, Nat.reduceAdd, Nat.reduceSub, ix_0, ix_1, ix_2, upTo_0, ix30, ix31, ix32, List.set_set, cut_1, look_new, set_new, wipeD, List.drop_succ_cons, List.drop_zero, inFlat, List.all_cons, List.all_nil, Bool.and_self, Bool.and_true, reduceIte, List.mem_cons, List.not_mem_nil, or_false, false_or, or_true, true_or, reduceCtorEq, Int.reduceEq, Int.reduceLE, Int.reduceLT, Int.cast_ofNat_Int, Int.natCast_zero, Int.natCast_one, Int.natCast_add, not_true_eq_false, not_false_eq_true, decide_true, decide_false, Bool.false_eq_true, if_true, if_false, Bool.not_true, Bool.not_false, Int.reduceNeg, Int.reduceSub, Int.reduceAdd, e_ss, e_hs, e_es, e_ps, e_sh, e_eh, e_ph, e_se, e_he, e_pe, e_sp, e_hp, e_ep]
  · simp [h]
  · simp [h]
/-! ### what a world is -/
def nums (xs : List Int) : D := .tup (xs.map .int)
abbrev Pr := Nat × Nat
def pr (p : Pr) : D := .tup [.int p.1, .int p.2]
def prs (ps : List Pr) : D := .tup (ps.map pr)
structure Wo where
  ws : List Int
  ps : List Pr
  ru : Ru
def Wo.enc (w : Wo) : D := .tup [nums w.ws, prs w.ps, w.ru.enc]
structure Wo.ok (w : Wo) : Prop where
  n2 : 2 ≤ w.ws.length
  n6 : w.ws.length ≤ 6
  lo : ∀ x ∈ w.ws, 0 ≤ x ∧ x ≤ 30
  m : w.ps.length ≤ 15
  nd : w.ps.Nodup
  pr : ∀ p ∈ w.ps, p.1 < p.2 ∧ p.2 < w.ws.length
  ru : w.ru.ok
theorem numb_map {α : Type} (f : α → D) : ∀ (xs : List α) (k : Nat), numb k (xs.map f) = (xs.zipIdx k).map fun p => .tup [.int p.2, f p.1]
  | [], _ => rfl
  | x :: xs, k => by
    simp only [List.map_cons, numb, List.zipIdx_cons]
    rw [show (k : Int) + 1 = ((k + 1 : Nat) : Int) from rfl, numb_map f xs (k + 1)]
/-- a walk over numbered items -/
theorem for_numb {g : List (Nat × Ob)} {t : TgM} {b : SM} {N : Env → Store → Prop} {T : D → Store → Prop} {α : Type} {f : α → D} {xs : List α} (I : Nat → Env → Store → Prop) {σ : Env} {S : Store} (h0 : I 0 σ S)
    (step : ∀ i x σ S, xs[i]? = some x → I i σ S → It.ok g S ∧ ∃ σ1, t (.tup [.int (i : Nat), f x]) σ = some σ1 ∧ OkS (b σ1 S) (fun σ S => I (i + 1) σ S) T)
    (fin : ∀ σ S, I xs.length σ S → It.ok g S ∧ N σ S) : OkS (forL g t b (numb 0 (xs.map f)) σ S) N T := by
  rw [show (0 : Int) = ((0 : Nat) : Int) from rfl, numb_map]
  refine for_ok (fun ds σ S => ∃ k, ds = ((xs.drop k).zipIdx k).map (fun p => .tup [.int p.2, f p.1]) ∧ k ≤ xs.length ∧ I k σ S) _ σ S ⟨0, by simp, Nat.zero_le _, h0⟩ ?_ ?_
  · rintro d ds σ S ⟨k, e, hk, i⟩
    cases hd : xs.drop k with
    | nil => rw [hd] at e; cases e
    | cons y ys =>
      have hy : xs[k]? = some y := by
        have := congrArg (·[0]?) hd
        simpa using this
      have hlt := (List.getElem?_eq_some_iff.mp hy).1
      rw [hd] at e
      simp only [List.zipIdx_cons, List.map_cons, List.cons.injEq] at e
      obtain ⟨e1, e2⟩ := e
      obtain ⟨o, σ1, et, q⟩ := step k y σ S hy i
      refine ⟨o, σ1, by rw [e1]; exact et, q.mono (fun σ S i => ⟨k + 1, ?_, hlt, i⟩) fun _ _ z => z⟩
      have : xs.drop (k + 1) = ys := by rw [← List.drop_drop, hd]; rfl
      rw [e2, this]
  · rintro σ S ⟨k, e, hk, i⟩
    have hl := congrArg List.length e
    simp at hl
    have : k = xs.length := by omega
    subst this
    exact fin σ S i
theorem for_ix {g : List (Nat × Ob)} {t : TgM} {b : SM} {N : Env → Store → Prop} {T : D → Store → Prop} {α : Type} {f : α → D} {xs : List α} (I : Nat → Env → Store → Prop) {σ : Env} {S : Store} (h0 : I 0 σ S)
    (step : ∀ i x σ S, xs[i]? = some x → I i σ S → It.ok g S ∧ ∃ σ1, t (f x) σ = some σ1 ∧ OkS (b σ1 S) (fun σ S => I (i + 1) σ S) T)
    (fin : ∀ σ S, I xs.length σ S → It.ok g S ∧ N σ S) : OkS (forL g t b (xs.map f) σ S) N T := by
  refine for_ok (fun ds σ S => ∃ k, ds = (xs.drop k).map f ∧ k ≤ xs.length ∧ I k σ S) _ σ S ⟨0, by simp, Nat.zero_le _, h0⟩ ?_ ?_
  · rintro d ds σ S ⟨k, e, hk, i⟩
    cases hd : xs.drop k with
    | nil => rw [hd] at e; cases e
    | cons y ys =>
      have hy : xs[k]? = some y := by
        have := congrArg (·[0]?) hd
        simpa using this
      have hlt := (List.getElem?_eq_some_iff.mp hy).1
      rw [hd] at e
      simp only [List.map_cons, List.cons.injEq] at e
      obtain ⟨e1, e2⟩ := e
      obtain ⟨o, σ1, et, q⟩ := step k y σ S hy i
      refine ⟨o, σ1, by rw [e1]; exact et, q.mono (fun σ S i => ⟨k + 1, ?_, hlt, i⟩) fun _ _ z => z⟩
      have : xs.drop (k + 1) = ys := by rw [← List.drop_drop, hd]; rfl
      rw [e2, this]
  · rintro σ S ⟨k, e, hk, i⟩
    have hl := congrArg List.length e
    simp at hl
    have : k = xs.length := by omega
    subst this
    exact fin σ S i
theorem lc_ix {g : List (Nat × Ob)} {t : TgM} {c e : EM} {Q : List D → Store → Prop} {α : Type} {f : α → D} {xs : List α} (I : Nat → List D → Store → Prop) {σ : Env} {S : Store} (h0 : I 0 [] S)
    (step : ∀ i x acc S, xs[i]? = some x → I i acc S → It.ok g S ∧ ∃ σ1, t (f x) σ = some σ1 ∧ Ok (c σ1 S) fun v S1 => (v = .bl true ∧ Ok (e σ1 S1) fun y S2 => I (i + 1) (acc ++ [y]) S2) ∨ (v = .bl false ∧ I (i + 1) acc S1))
    (fin : ∀ acc S, I xs.length acc S → It.ok g S ∧ Q acc S) : Ok (lcL g t c e σ (xs.map f) S) Q := by
  refine lc_inv (fun ds acc S => ∃ k, ds = (xs.drop k).map f ∧ k ≤ xs.length ∧ I k acc S) ⟨0, by simp, Nat.zero_le _, h0⟩ ?_ ?_
  · rintro d ds acc S ⟨k, e, hk, i⟩
    cases hd : xs.drop k with
    | nil => rw [hd] at e; cases e
    | cons y ys =>
      have hy : xs[k]? = some y := by
        have := congrArg (·[0]?) hd
        simpa using this
      have hlt := (List.getElem?_eq_some_iff.mp hy).1
      rw [hd] at e
      simp only [List.map_cons, List.cons.injEq] at e
      obtain ⟨e1, e2⟩ := e
      have e3 : ds = (xs.drop (k + 1)).map f := by
        have : xs.drop (k + 1) = ys := by rw [← List.drop_drop, hd]; rfl
        rw [e2, this]
      obtain ⟨o, σ1, et, q⟩ := step k y acc S hy i
      refine ⟨o, σ1, by rw [e1]; exact et, q.mono fun v S1 z => ?_⟩
      rcases z with ⟨z1, z2⟩ | ⟨z1, z2⟩
      · exact .inl ⟨z1, z2.mono fun y S i => ⟨k + 1, e3, hlt, i⟩⟩
      · exact .inr ⟨z1, k + 1, e3, hlt, z2⟩
  · rintro acc S ⟨k, e, hk, i⟩
    have hl := congrArg List.length e
    simp at hl
    have : k = xs.length := by omega
    subst this
    exact fin acc S i
theorem tk2 (a b : Int) : tkey (.tup [.int a, .int b]) = some (.tup [.num a, .num b]) := by
  simp only [tkey, nkey, nkeys]
  rfl
theorem kput_new {kvs : List (NestedKey × D)} {k : NestedKey} {v : D} (h : kvs.lookup k = none) : kput kvs k v = kvs ++ [(k, v)] := by
  unfold kput
  rw [if_neg]
  intro z
  obtain ⟨p, hp, e⟩ := List.any_eq_true.mp z
  rw [decide_eq_true_eq] at e
  subst e
  have : kvs.lookup p.1 ≠ none := by
    intro z
    rw [List.lookup_eq_none_iff] at z
    have := z p hp
    simp at this
  exact this h
theorem lookup_snoc {kvs : List (NestedKey × D)} {k k' : NestedKey} {v : D} : (kvs ++ [(k, v)]).lookup k' = match kvs.lookup k' with | some d => some d | none => if k' = k then some v else none := by
  rw [List.lookup_append]
  cases kvs.lookup k' with
  | some d => rfl
  | none =>
    simp only [List.lookup_cons, List.lookup_nil]
    by_cases e : k' = k
    · subst e; simp
    · rw [if_neg e, show (k' == k) = false from beq_eq_false_iff_ne.mpr e]; rfl
theorem need_world_ok {w : Wo} (h : w.ok) {f : Fn} (hf : ∀ S, Ok (f [w.ru.enc] S) fun v S' => v = .bl true ∧ S' = S) {S : Store} : Ok (mkFn 1 9 (p_need_world f) [w.enc] S) fun v S' => v = .non ∧ Gr S S' := by
  simp only [p_need_world, w_fn, w_ok, w_sSeq, w_sIf, w_sRet, w_sPar2, w_sPar4, w_sNil, w_sNever, w_sExpr, w_sSet, w_sPut, w_sAug, w_sAugS, w_sFor, w_e1, w_e2, w_eF, w_eM, w_cons, w_nil, w_var, w_c, w_tup, w_lst, w_d0, w_and, w_or, w_not, w_if, w_ch, w_ch3, w_sl, w_pOf, w_pNo, w_iOf, w_iEnum, w_iRng, w_lc, v_add, v_iadd, v_addS, v_addT, v_addL, v_sub, v_mul, v_mulT, v_div, v_mod, v_pow, v_neg, v_cmp, v_eq, v_eqS, v_eqB, v_ne, v_notIn, v_isN, v_notN, v_inS, v_inI, v_ix, v_ixL, v_sl, v_slL, v_on1, v_on2, v_abs, v_max2, v_min2, v_len, v_lenR, v_lenL, v_list, v_listR, v_listL, v_tuple, v_tupleL, v_onIs, v_isL, v_append, v_popAt, v_putL, v_it, v_itR, v_itL, v_noRoT, v_noRoL, v_tgN, v_tgT, v_tgCons, v_tgNil, v_eYes, v_okg, v_okg1, List.length_cons, List.length_nil, List.map_cons, List.map_nil, List.replicate, List.cons_append, List.nil_append, List.getElem?_cons_zero, List.getElem?_cons_succ, Option.some.injEq, exists_eq_left', exists_eq_left, List.set_cons_zero, List.set_cons_succ, D.bl.injEq, D.int.injEq, D.str.injEq, D.tup.injEq, D.loc.injEq, decide_eq_true_eq, Bool.not_eq_true', decide_eq_false_iff_not, true_and, and_true, Ob.lst.injEq, Nat.reduceAdd, Nat.reduceSub, ix_0, ix_1, ix_2, upTo_0, ix30, ix31, ix32, List.set_set, cut_1, look_new, set_new, wipeD, List.drop_succ_cons, List.drop_zero, inFlat, List.all_cons, List.all_nil, Bool.and_self, Bool.and_true, reduceIte, List.mem_cons, List.not_mem_nil, or_false, false_or, or_true, true_or, reduceCtorEq, Int.reduceEq, Int.reduceLE, Int.reduceLT, Int.cast_ofNat_Int, Int.natCast_zero, Int.natCast_one, Int.natCast_add, not_true_eq_false, not_false_eq_true, decide_true, decide_false, Bool.false_eq_true, if_true, if_false, Bool.not_true, Bool.not_false, Int.reduceNeg, Int.reduceSub, Int.reduceAdd, Wo.enc, nums, prs]
  refine for_numb (fun i σ S' => S' = S ∧ ∃ x4 x5 x6 x7 x8, σ = [some w.enc, some (nums w.ws), some (prs w.ps), some w.ru.enc, x4, x5, x6, x7, x8]) ⟨rfl, _, _, _, _, _, rfl⟩ ?_ ?_
  · rintro i x σ S' hx ⟨rfl, x4, x5, x6, x7, x8, rfl⟩
    have hi := (List.getElem?_eq_some_iff.mp hx).1
    have hlo := h.lo x (List.mem_of_getElem? hx)
    have := h.n6
    simp only [w_fn, w_ok, w_sSeq, w_sIf, w_sRet, w_sPar2, w_sPar4, w_sNil, w_sNever, w_sExpr, w_sSet, w_sPut, w_sAug, w_sAugS, w_sFor, w_e1, w_e2, w_eF, w_eM, w_cons, w_nil, w_var, w_c, w_tup, w_lst, w_d0, w_and, w_or, w_not, w_if, w_ch, w_ch3, w_sl, w_pOf, w_pNo, w_iOf, w_iEnum, w_iRng, w_lc, v_add, v_iadd, v_addS, v_addT, v_addL, v_sub, v_mul, v_mulT, v_div, v_mod, v_pow, v_neg, v_cmp, v_eq, v_eqS, v_eqB, v_ne, v_notIn, v_isN, v_notN, v_inS, v_inI, v_ix, v_ixL, v_sl, v_slL, v_on1, v_on2, v_abs, v_max2, v_min2, v_len, v_lenR, v_lenL, v_list, v_listR, v_listL, v_tuple, v_tupleL, v_onIs, v_isL, v_append, v_popAt, v_putL, v_it, v_itR, v_itL, v_noRoT, v_noRoL, v_tgN, v_tgT, v_tgCons, v_tgNil, v_eYes, v_okg, v_okg1, List.length_cons, List.length_nil, List.map_cons, List.map_nil, List.replicate, List.cons_append, List.nil_append, List.getElem?_cons_zero, List.getElem?_cons_succ, Option.some.injEq, exists_eq_left', exists_eq_left, List.set_cons_zero, List.set_cons_succ, D.bl.injEq, D.int.injEq, D.str.injEq, D.tup.injEq, D.loc.injEq, decide_eq_true_eq, Bool.not_eq_true', decide_eq_false_iff_not, true_and, and_true, Ob.lst.injEq, Nat.reduceAdd, Nat.reduceSub, ix_0, ix_1, ix_2, upTo_0, ix30, ix31, ix32, List.set_set, cut_1, look_new, set_new, wipeD, List.drop_succ_cons, List.drop_zero, inFlat, List.all_cons, List.all_nil, Bool.and_self, Bool.and_true, reduceIte, List.mem_cons, List.not_mem_nil, or_false, false_or, or_true, true_or, reduceCtorEq, Int.reduceEq, Int.reduceLE, Int.reduceLT, Int.cast_ofNat_Int, Int.natCast_zero, Int.natCast_one, Int.natCast_add, not_true_eq_false, not_false_eq_true, decide_true, decide_false, Bool.false_eq_true, if_true, if_false, Bool.not_true, Bool.not_false, Int.reduceNeg, Int.reduceSub, Int.reduceAdd]
    rw [if_neg (show ¬ (i : Int) = 6 by omega), if_pos hlo.1, if_neg (by simpa using hlo.2)]
    exact ⟨_, _, _, _, _, rfl⟩
  · rintro σ S ⟨rfl, x4, x5, x6, x7, x8, rfl⟩
    have := h.n2
    simp only [w_fn, w_ok, w_sSeq, w_sIf, w_sRet, w_sPar2, w_sPar4, w_sNil, w_sNever, w_sExpr, w_sSet, w_sPut, w_sAug, w_sAugS, w_sFor, w_e1, w_e2, w_eF, w_eM, w_cons, w_nil, w_var, w_c, w_tup, w_lst, w_d0, w_and, w_or, w_not, w_if, w_ch, w_ch3, w_sl, w_pOf, w_pNo, w_iOf, w_iEnum, w_iRng, w_lc, v_add, v_iadd, v_addS, v_addT, v_addL, v_sub, v_mul, v_mulT, v_div, v_mod, v_pow, v_neg, v_cmp, v_eq, v_eqS, v_eqB, v_ne, v_notIn, v_isN, v_notN, v_inS, v_inI, v_ix, v_ixL, v_sl, v_slL, v_on1, v_on2, v_abs, v_max2, v_min2, v_len, v_lenR, v_lenL, v_list, v_listR, v_listL, v_tuple, v_tupleL, v_onIs, v_isL, v_append, v_popAt, v_putL, v_it, v_itR, v_itL, v_noRoT, v_noRoL, v_tgN, v_tgT, v_tgCons, v_tgNil, v_eYes, v_okg, v_okg1, List.length_cons, List.length_nil, List.map_cons, List.map_nil, List.replicate, List.cons_append, List.nil_append, List.getElem?_cons_zero, List.getElem?_cons_succ, Option.some.injEq, exists_eq_left', exists_eq_left, List.set_cons_zero, List.set_cons_succ, D.bl.injEq, D.int.injEq, D.str.injEq, D.tup.injEq, D.loc.injEq, decide_eq_true_eq, Bool.not_eq_true', decide_eq_false_iff_not, true_and, and_true, Ob.lst.injEq, Nat.reduceAdd, Nat.reduceSub, ix_0, ix_1, ix_2, upTo_0, ix30, ix31, ix32, List.set_set, cut_1, look_new, set_new, wipeD, List.drop_succ_cons, List.drop_zero, inFlat, List.all_cons, List.all_nil, Bool.and_self, Bool.and_true, reduceIte, List.mem_cons, List.not_mem_nil, or_false, false_or, or_true, true_or, reduceCtorEq, Int.reduceEq, Int.reduceLE, Int.reduceLT, Int.cast_ofNat_Int, Int.natCast_zero, Int.natCast_one, Int.natCast_add, not_true_eq_false, not_false_eq_true, decide_true, decide_false, Bool.false_eq_true, if_true, if_false, Bool.not_true, Bool.not_false, Int.reduceNeg, Int.reduceSub, Int.reduceAdd, nums, List.length_map]
    rw [if_neg (show ¬ (w.ws.length : Int) < 2 by omega)]
    simp only [w_fn, w_ok, w_sSeq, w_sIf, w_sRet, w_sPar2, w_sPar4, w_sNil, w_sNever, w_sExpr, w_sSet, w_sPut, w_sAug, w_sAugS, w_sFor, w_e1, w_e2, w_eF, w_eM, w_cons, w_nil, w_var, w_c, w_tup, w_lst, w_d0, w_and, w_or, w_not, w_if, w_ch, w_ch3, w_sl, w_pOf, w_pNo, w_iOf, w_iEnum, w_iRng, w_lc, v_add, v_iadd, v_addS, v_addT, v_addL, v_sub, v_mul, v_mulT, v_div, v_mod, v_pow, v_neg, v_cmp, v_eq, v_eqS, v_eqB, v_ne, v_notIn, v_isN, v_notN, v_inS, v_inI, v_ix, v_ixL, v_sl, v_slL, v_on1, v_on2, v_abs, v_max2, v_min2, v_len, v_lenR, v_lenL, v_list, v_listR, v_listL, v_tuple, v_tupleL, v_onIs, v_isL, v_append, v_popAt, v_putL, v_it, v_itR, v_itL, v_noRoT, v_noRoL, v_tgN, v_tgT, v_tgCons, v_tgNil, v_eYes, v_okg, v_okg1, List.length_cons, List.length_nil, List.map_cons, List.map_nil, List.replicate, List.cons_append, List.nil_append, List.getElem?_cons_zero, List.getElem?_cons_succ, Option.some.injEq, exists_eq_left', exists_eq_left, List.set_cons_zero, List.set_cons_succ, D.bl.injEq, D.int.injEq, D.str.injEq, D.tup.injEq, D.loc.injEq, decide_eq_true_eq, Bool.not_eq_true', decide_eq_false_iff_not, true_and, and_true, Ob.lst.injEq, Nat.reduceAdd, Nat.reduceSub, ix_0, ix_1, ix_2, upTo_0, ix30, ix31, ix32, List.set_set, cut_1, look_new, set_new, wipeD, List.drop_succ_cons, List.drop_zero, inFlat, List.all_cons, List.all_nil, Bool.and_self, Bool.and_true, reduceIte, List.mem_cons, List.not_mem_nil, or_false, false_or, or_true, true_or, reduceCtorEq, Int.reduceEq, Int.reduceLE, Int.reduceLT, Int.cast_ofNat_Int, Int.natCast_zero, Int.natCast_one, Int.natCast_add, not_true_eq_false, not_false_eq_true, decide_true, decide_false, Bool.false_eq_true, if_true, if_false, Bool.not_true, Bool.not_false, Int.reduceNeg, Int.reduceSub, Int.reduceAdd, prs]
    refine for_numb (fun i σ S' => ∃ x4 x5 x7 x8 kvs, σ = [some w.enc, some (nums w.ws), some (prs w.ps), some w.ru.enc, x4, x5, some (.loc S.length), x7, x8] ∧ S' = S ++ [.dt kvs] ∧ kvs.length = i ∧ (∀ p : Pr, (∀ j, j < i → w.ps[j]? ≠ some p) → kvs.lookup (.tup [.num p.1, .num p.2]) = none)) ⟨_, _, _, _, [], rfl, rfl, rfl, fun _ _ => rfl⟩ ?_ ?_
    · rintro i x σ S' hx ⟨x4, x5, x7, x8, kvs, rfl, rfl, hk, hl⟩
      have hi := (List.getElem?_eq_some_iff.mp hx).1
      have hp := h.pr x (List.mem_of_getElem? hx)
      have := h.m
      have hd : (S ++ [Ob.dt kvs])[S.length]? = some (.dt kvs) := look_new
      have hne : ∀ j, j < i → w.ps[j]? ≠ some x := fun j hj e => by
        have := (List.getElem?_inj (by omega) h.nd).mp (e.trans hx.symm)
        omega
      have hlx := hl x hne
      simp only [w_fn, w_ok, w_sSeq, w_sIf, w_sRet, w_sPar2, w_sPar4, w_sNil, w_sNever, w_sExpr, w_sSet, w_sPut, w_sAug, w_sAugS, w_sFor, w_e1, w_e2, w_eF, w_eM, w_cons, w_nil, w_var, w_c, w_tup, w_lst, w_d0, w_and, w_or, w_not, w_if, w_ch, w_ch3, w_sl, w_pOf, w_pNo, w_iOf, w_iEnum, w_iRng, w_lc, v_add, v_iadd, v_addS, v_addT, v_addL, v_sub, v_mul, v_mulT, v_div, v_mod, v_pow, v_neg, v_cmp, v_eq, v_eqS, v_eqB, v_ne, v_notIn, v_isN, v_notN, v_inS, v_inI, v_ix, v_ixL, v_sl, v_slL, v_on1, v_on2, v_abs, v_max2, v_min2, v_len, v_lenR, v_lenL, v_list, v_listR, v_listL, v_tuple, v_tupleL, v_onIs, v_isL, v_append, v_popAt, v_putL, v_it, v_itR, v_itL, v_noRoT, v_noRoL, v_tgN, v_tgT, v_tgCons, v_tgNil, v_eYes, v_okg, v_okg1, List.length_cons, List.length_nil, List.map_cons, List.map_nil, List.replicate, List.cons_append, List.nil_append, List.getElem?_cons_zero, List.getElem?_cons_succ, Option.some.injEq, exists_eq_left', exists_eq_left, List.set_cons_zero, List.set_cons_succ, D.bl.injEq, D.int.injEq, D.str.injEq, D.tup.injEq, D.loc.injEq, decide_eq_true_eq, Bool.not_eq_true', decide_eq_false_iff_not, true_and, and_true, Ob.lst.injEq, Nat.reduceAdd, Nat.reduceSub, ix_0, ix_1, ix_2, upTo_0, ix30, ix31, ix32, List.set_set, cut_1, look_new, set_new, wipeD, List.drop_succ_cons, List.drop_zero, inFlat, List.all_cons, List.all_nil, Bool.and_self, Bool.and_true, reduceIte, List.mem_cons, List.not_mem_nil, or_false, false_or, or_true, true_or, reduceCtorEq, Int.reduceEq, Int.reduceLE, Int.reduceLT, Int.cast_ofNat_Int, Int.natCast_zero, Int.natCast_one, Int.natCast_add, not_true_eq_false, not_false_eq_true, decide_true, decide_false, Bool.false_eq_true, if_true, if_false, Bool.not_true, Bool.not_false, Int.reduceNeg, Int.reduceSub, Int.reduceAdd, pr, nums, List.length_map, v_inD hd, v_putD hd, tk2, hlx, Option.isSome_none]
      rw [if_neg (show ¬ (i : Int) = 15 by omega), if_pos (show (0 : Int) ≤ x.1 by omega), if_pos (show (x.1 : Int) < x.2 by omega), if_neg (show ¬ ¬ (x.2 : Int) < w.ws.length by omega)]
      have := szl
      refine ⟨by omega, _, _, _, _, kvs ++ [(.tup [.num x.1, .num x.2], .bl true)], rfl, by simp [kput_new hlx], by simp [hk], fun p hp' => ?_⟩
      rw [lookup_snoc, hl p fun j hj => hp' j (by omega)]
      simp only
      rw [if_neg]
      intro z
      simp only [NestedKey.tup.injEq, List.cons.injEq, NestedKey.num.injEq] at z
      exact hp' i (by omega) (by rw [hx]; obtain ⟨a, b⟩ := x; obtain ⟨c, d⟩ := p; simp at z ⊢; omega)
    · rintro σ S' ⟨x4, x5, x7, x8, kvs, rfl, rfl, hk, hl⟩
      simp only [w_fn, w_ok, w_sSeq, w_sIf, w_sRet, w_sPar2, w_sPar4, w_sNil, w_sNever, w_sExpr, w_sSet, w_sPut, w_sAug, w_sAugS, w_sFor, w_e1, w_e2, w_eF, w_eM, w_cons, w_nil, w_var, w_c, w_tup, w_lst, w_d0, w_and, w_or, w_not, w_if, w_ch, w_ch3, w_sl, w_pOf, w_pNo, w_iOf, w_iEnum, w_iRng, w_lc, v_add, v_iadd, v_addS, v_addT, v_addL, v_sub, v_mul, v_mulT, v_div, v_mod, v_pow, v_neg, v_cmp, v_eq, v_eqS, v_eqB, v_ne, v_notIn, v_isN, v_notN, v_inS, v_inI, v_ix, v_ixL, v_sl, v_slL, v_on1, v_on2, v_abs, v_max2, v_min2, v_len, v_lenR, v_lenL, v_list, v_listR, v_listL, v_tuple, v_tupleL, v_onIs, v_isL, v_append, v_popAt, v_putL, v_it, v_itR, v_itL, v_noRoT, v_noRoL, v_tgN, v_tgT, v_tgCons, v_tgNil, v_eYes, v_okg, v_okg1, List.length_cons, List.length_nil, List.map_cons, List.map_nil, List.replicate, List.cons_append, List.nil_append, List.getElem?_cons_zero, List.getElem?_cons_succ, Option.some.injEq, exists_eq_left', exists_eq_left, List.set_cons_zero, List.set_cons_succ, D.bl.injEq, D.int.injEq, D.str.injEq, D.tup.injEq, D.loc.injEq, decide_eq_true_eq, Bool.not_eq_true', decide_eq_false_iff_not, true_and, and_true, Ob.lst.injEq, Nat.reduceAdd, Nat.reduceSub, ix_0, ix_1, ix_2, upTo_0, ix30, ix31, ix32, List.set_set, cut_1, look_new, set_new, wipeD, List.drop_succ_cons, List.drop_zero, inFlat, List.all_cons, List.all_nil, Bool.and_self, Bool.and_true, reduceIte, List.mem_cons, List.not_mem_nil, or_false, false_or, or_true, true_or, reduceCtorEq, Int.reduceEq, Int.reduceLE, Int.reduceLT, Int.cast_ofNat_Int, Int.natCast_zero, Int.natCast_one, Int.natCast_add, not_true_eq_false, not_false_eq_true, decide_true, decide_false, Bool.false_eq_true, if_true, if_false, Bool.not_true, Bool.not_false, Int.reduceNeg, Int.reduceSub, Int.reduceAdd]
      exact (hf _).mono fun v S' ⟨e1, e2⟩ => ⟨true, e1, by subst e2; simp; exact .push⟩
end Mn
/-! What the text's defs make of worlds: gifts, one meeting, many. -/
namespace Mn
open PySem
def wt (ws : List Int) (i : Nat) : Int := ws.getD i 0
theorem wt_get {ws : List Int} {i : Nat} (h : i < ws.length) : ws[i]? = some (wt ws i) := by
  unfold wt
  rw [List.getD_eq_getElem?_getD, List.getElem?_eq_getElem h]; rfl
theorem wt_at {ws : List Int} {i : Nat} (h : i < ws.length) : L2.atI (ws.map D.int) (i : Int) = some (.int (wt ws i)) := by
  rw [ix_nat, List.getElem?_map, wt_get h]; rfl
/-- how much is given -/
def gift : Ru → Int → Int → Int
  | .som k, hv, _ => if hv < k then hv else k
  | .half, hv, lt => (hv - lt) / 2
  | .even, hv, lt => (hv - lt + 1) / 2
  | .part a b, hv, _ => hv * a / b
theorem gift_of_ok {r : Ru} (h : r.ok) {hv lt : Int} {S : Store} : Ok (mkFn 3 3 p_gift_of [r.enc, .int hv, .int lt] S) fun v S' => v = .int (gift r hv lt) ∧ S' = S := by
  cases r <;> simp only [Ru.enc, Ru.ok] at h ⊢ <;> simp only [p_gift_of, w_fn, w_ok, w_sSeq, w_sIf, w_sRet, w_sPar2, w_sPar4, w_sNil, w_sNever, w_sExpr, w_sSet, w_sPut, w_sAug, w_sAugS, w_sFor, w_e1, w_e2, w_eF, w_eM, w_cons, w_nil, w_var, w_c, w_tup, w_lst, w_d0, w_and, w_or, w_not, w_if, w_ch, w_ch3, w_sl, w_pOf, w_pNo, w_iOf, w_iEnum, w_iRng, w_lc, v_add, v_iadd, v_addS, v_addT, v_addL, v_sub, v_mul, v_mulT, v_div, v_mod, v_pow, v_neg, v_cmp, v_eq, v_eqS, v_eqB, v_ne, v_notIn, v_isN, v_notN, v_inS, v_inI, v_ix, v_ixL, v_sl, v_slL, v_on1, v_on2, v_abs, v_max2, v_min2, v_len, v_lenR, v_lenL, v_list, v_listR, v_listL, v_tuple, v_tupleL, v_onIs, v_isL, v_append, v_popAt, v_putL, v_it, v_itR, v_itL, v_noRoT, v_noRoL, v_tgN, v_tgT, v_tgCons, v_tgNil, v_eYes, v_okg, v_okg1, List.length_cons, List.length_nil, List.map_cons, List.map_nil, List.replicate, List.cons_append, List.nil_append, List.getElem?_cons_zero, List.getElem?_cons_succ, Option.some.injEq, exists_eq_left', exists_eq_left, List.set_cons_zero, List.set_cons_succ, D.bl.injEq, D.int.injEq, D.str.injEq, D.tup.injEq, D.loc.injEq, decide_eq_true_eq, Bool.not_eq_true', decide_eq_false_iff_not, true_and, and_true, Ob.lst.injEq, Nat.reduceAdd, Nat.reduceSub, ix_0, ix_1, ix_2, upTo_0, ix30, ix31, ix32, List.set_set, cut_1, look_new, set_new, wipeD, List.drop_succ_cons, List.drop_zero, inFlat, List.all_cons, List.all_nil, Bool.and_self, Bool.and_true, reduceIte, List.mem_cons, List.not_mem_nil, or_false, false_or, or_true, true_or, reduceCtorEq, Int.reduceEq, Int.reduceLE, Int.reduceLT, Int.cast_ofNat_Int, Int.natCast_zero, Int.natCast_one, Int.natCast_add, not_true_eq_false, not_false_eq_true, decide_true, decide_false, Bool.false_eq_true, if_true, if_false, Bool.not_true, Bool.not_false, Int.reduceNeg, Int.reduceSub, Int.reduceAdd, e_ss, e_hs, e_es, e_ps, e_sh, e_eh, e_ph, e_se, e_he, e_pe, e_sp, e_hp, e_ep, gift]
  rename_i a b
  refine ⟨?_, by omega⟩
  simp only [mulOk, decide_eq_true_eq]
  omega
/-- who gives, who takes, how much -/
def told (r : Ru) (ws : List Int) (p : Pr) : Option (Nat × Nat × Int) :=
  if wt ws p.1 = wt ws p.2 then none
  else if wt ws p.1 > wt ws p.2 then (if gift r (wt ws p.1) (wt ws p.2) > 0 then some (p.1, p.2, gift r (wt ws p.1) (wt ws p.2)) else none)
  else (if gift r (wt ws p.2) (wt ws p.1) > 0 then some (p.2, p.1, gift r (wt ws p.2) (wt ws p.1)) else none)
def told' : Option (Nat × Nat × Int) → D
  | none => .non
  | some (g, t, m) => .tup [.int g, .int t, .int m]
theorem gift_told_ok {r : Ru} (h : r.ok) {f : Fn} (hf : ∀ hv lt S, Ok (f [r.enc, .int hv, .int lt] S) fun v S' => v = .int (gift r hv lt) ∧ S' = S) {ws : List Int} {p : Pr} (h1 : p.1 < ws.length) (h2 : p.2 < ws.length) {S : Store} :
    Ok (mkFn 3 8 (p_gift_told f) [r.enc, nums ws, pr p] S) fun v S' => v = told' (told r ws p) ∧ S' = S := by
  simp only [p_gift_told, w_fn, w_ok, w_sSeq, w_sIf, w_sRet, w_sPar2, w_sPar4, w_sNil, w_sNever, w_sExpr, w_sSet, w_sPut, w_sAug, w_sAugS, w_sFor, w_e1, w_e2, w_eF, w_eM, w_cons, w_nil, w_var, w_c, w_tup, w_lst, w_d0, w_and, w_or, w_not, w_if, w_ch, w_ch3, w_sl, w_pOf, w_pNo, w_iOf, w_iEnum, w_iRng, w_lc, v_add, v_iadd, v_addS, v_addT, v_addL, v_sub, v_mul, v_mulT, v_div, v_mod, v_pow, v_neg, v_cmp, v_eq, v_eqS, v_eqB, v_ne, v_notIn, v_isN, v_notN, v_inS, v_inI, v_ix, v_ixL, v_sl, v_slL, v_on1, v_on2, v_abs, v_max2, v_min2, v_len, v_lenR, v_lenL, v_list, v_listR, v_listL, v_tuple, v_tupleL, v_onIs, v_isL, v_append, v_popAt, v_putL, v_it, v_itR, v_itL, v_noRoT, v_noRoL, v_tgN, v_tgT, v_tgCons, v_tgNil, v_eYes, v_okg, v_okg1, List.length_cons, List.length_nil, List.map_cons, List.map_nil, List.replicate, List.cons_append, List.nil_append, List.getElem?_cons_zero, List.getElem?_cons_succ, Option.some.injEq, exists_eq_left', exists_eq_left, List.set_cons_zero, List.set_cons_succ, D.bl.injEq, D.int.injEq, D.str.injEq, D.tup.injEq, D.loc.injEq, decide_eq_true_eq, Bool.not_eq_true', decide_eq_false_iff_not, true_and, and_true, Ob.lst.injEq, Nat.reduceAdd, Nat.reduceSub, ix_0, ix_1, ix_2, upTo_0, ix30, ix31, ix32, List.set_set, cut_1, look_new, set_new, wipeD, List.drop_succ_cons, List.drop_zero, inFlat, List.all_cons, List.all_nil, Bool.and_self, Bool.and_true, reduceIte, List.mem_cons, List.not_mem_nil, or_false, false_or, or_true, true_or, reduceCtorEq, Int.reduceEq, Int.reduceLE, Int.reduceLT, Int.cast_ofNat_Int, Int.natCast_zero, Int.natCast_one, Int.natCast_add, not_true_eq_false, not_false_eq_true, decide_true, decide_false, Bool.false_eq_true, if_true, if_false, Bool.not_true, Bool.not_false, Int.reduceNeg, Int.reduceSub, Int.reduceAdd, nums, pr, wt_at h1, wt_at h2]
  by_cases e : wt ws p.1 = wt ws p.2
  · rw [if_pos e]
    unfold told
    rw [if_pos e]; rfl
  · rw [if_neg e]
    unfold told
    rw [if_neg e]
    by_cases g : wt ws p.2 < wt ws p.1
    · rw [if_pos g, if_pos (show wt ws p.1 > wt ws p.2 from g)]
      refine (hf _ _ _).mono fun v S1 ⟨e1, e2⟩ => ?_
      subst e1 e2
      simp only [w_fn, w_ok, w_sSeq, w_sIf, w_sRet, w_sPar2, w_sPar4, w_sNil, w_sNever, w_sExpr, w_sSet, w_sPut, w_sAug, w_sAugS, w_sFor, w_e1, w_e2, w_eF, w_eM, w_cons, w_nil, w_var, w_c, w_tup, w_lst, w_d0, w_and, w_or, w_not, w_if, w_ch, w_ch3, w_sl, w_pOf, w_pNo, w_iOf, w_iEnum, w_iRng, w_lc, v_add, v_iadd, v_addS, v_addT, v_addL, v_sub, v_mul, v_mulT, v_div, v_mod, v_pow, v_neg, v_cmp, v_eq, v_eqS, v_eqB, v_ne, v_notIn, v_isN, v_notN, v_inS, v_inI, v_ix, v_ixL, v_sl, v_slL, v_on1, v_on2, v_abs, v_max2, v_min2, v_len, v_lenR, v_lenL, v_list, v_listR, v_listL, v_tuple, v_tupleL, v_onIs, v_isL, v_append, v_popAt, v_putL, v_it, v_itR, v_itL, v_noRoT, v_noRoL, v_tgN, v_tgT, v_tgCons, v_tgNil, v_eYes, v_okg, v_okg1, List.length_cons, List.length_nil, List.map_cons, List.map_nil, List.replicate, List.cons_append, List.nil_append, List.getElem?_cons_zero, List.getElem?_cons_succ, Option.some.injEq, exists_eq_left', exists_eq_left, List.set_cons_zero, List.set_cons_succ, D.bl.injEq, D.int.injEq, D.str.injEq, D.tup.injEq, D.loc.injEq, decide_eq_true_eq, Bool.not_eq_true', decide_eq_false_iff_not, true_and, and_true, Ob.lst.injEq, Nat.reduceAdd, Nat.reduceSub, ix_0, ix_1, ix_2, upTo_0, ix30, ix31, ix32, List.set_set, cut_1, look_new, set_new, wipeD, List.drop_succ_cons, List.drop_zero, inFlat, List.all_cons, List.all_nil, Bool.and_self, Bool.and_true, reduceIte, List.mem_cons, List.not_mem_nil, or_false, false_or, or_true, true_or, reduceCtorEq, Int.reduceEq, Int.reduceLE, Int.reduceLT, Int.cast_ofNat_Int, Int.natCast_zero, Int.natCast_one, Int.natCast_add, not_true_eq_false, not_false_eq_true, decide_true, decide_false, Bool.false_eq_true, if_true, if_false, Bool.not_true, Bool.not_false, Int.reduceNeg, Int.reduceSub, Int.reduceAdd]
      split <;> rfl
    · rw [if_neg g, if_neg g]
      refine (hf _ _ _).mono fun v S1 ⟨e1, e2⟩ => ?_
      subst e1 e2
      simp only [w_fn, w_ok, w_sSeq, w_sIf, w_sRet, w_sPar2, w_sPar4, w_sNil, w_sNever, w_sExpr, w_sSet, w_sPut, w_sAug, w_sAugS, w_sFor, w_e1, w_e2, w_eF, w_eM, w_cons, w_nil, w_var, w_c, w_tup, w_lst, w_d0, w_and, w_or, w_not, w_if, w_ch, w_ch3, w_sl, w_pOf, w_pNo, w_iOf, w_iEnum, w_iRng, w_lc, v_add, v_iadd, v_addS, v_addT, v_addL, v_sub, v_mul, v_mulT, v_div, v_mod, v_pow, v_neg, v_cmp, v_eq, v_eqS, v_eqB, v_ne, v_notIn, v_isN, v_notN, v_inS, v_inI, v_ix, v_ixL, v_sl, v_slL, v_on1, v_on2, v_abs, v_max2, v_min2, v_len, v_lenR, v_lenL, v_list, v_listR, v_listL, v_tuple, v_tupleL, v_onIs, v_isL, v_append, v_popAt, v_putL, v_it, v_itR, v_itL, v_noRoT, v_noRoL, v_tgN, v_tgT, v_tgCons, v_tgNil, v_eYes, v_okg, v_okg1, List.length_cons, List.length_nil, List.map_cons, List.map_nil, List.replicate, List.cons_append, List.nil_append, List.getElem?_cons_zero, List.getElem?_cons_succ, Option.some.injEq, exists_eq_left', exists_eq_left, List.set_cons_zero, List.set_cons_succ, D.bl.injEq, D.int.injEq, D.str.injEq, D.tup.injEq, D.loc.injEq, decide_eq_true_eq, Bool.not_eq_true', decide_eq_false_iff_not, true_and, and_true, Ob.lst.injEq, Nat.reduceAdd, Nat.reduceSub, ix_0, ix_1, ix_2, upTo_0, ix30, ix31, ix32, List.set_set, cut_1, look_new, set_new, wipeD, List.drop_succ_cons, List.drop_zero, inFlat, List.all_cons, List.all_nil, Bool.and_self, Bool.and_true, reduceIte, List.mem_cons, List.not_mem_nil, or_false, false_or, or_true, true_or, reduceCtorEq, Int.reduceEq, Int.reduceLE, Int.reduceLT, Int.cast_ofNat_Int, Int.natCast_zero, Int.natCast_one, Int.natCast_add, not_true_eq_false, not_false_eq_true, decide_true, decide_false, Bool.false_eq_true, if_true, if_false, Bool.not_true, Bool.not_false, Int.reduceNeg, Int.reduceSub, Int.reduceAdd]
      split <;> rfl
def behind (r : Ru) (ws : List Int) (p : Pr) : List Int := match told r ws p with
  | none => ws
  | some (g, t, m) => (ws.set g (wt ws g - m)).set t (wt ws t + m)
theorem told_in {r : Ru} {ws : List Int} {p : Pr} {g t : Nat} {m : Int} (e : told r ws p = some (g, t, m)) : ((g = p.1 ∧ t = p.2) ∨ (g = p.2 ∧ t = p.1)) ∧ wt ws g > wt ws t ∧ 0 < m ∧ m = gift r (wt ws g) (wt ws t) := by
  unfold told at e
  split at e
  · cases e
  · split at e
    · split at e
      · cases e; rename_i a b c; exact ⟨.inl ⟨rfl, rfl⟩, b, c, rfl⟩
      · cases e
    · split at e
      · cases e; rename_i a b c; exact ⟨.inr ⟨rfl, rfl⟩, by omega, c, rfl⟩
      · cases e
theorem ixN_nat {n k : Nat} (h : k < n) : L2.ixN n (k : Int) = some k := by
  unfold L2.ixN
  rw [if_pos (Int.natCast_nonneg k), if_pos (by omega), Int.toNat_natCast]
theorem mset {ws : List Int} {i : Nat} {x : Int} : (ws.map D.int).set i (.int x) = (ws.set i x).map D.int := by rw [List.map_set]
theorem behind_ok {r : Ru} {f : Fn} {ws : List Int} {p : Pr} (hf : ∀ S, Ok (f [r.enc, nums ws, pr p] S) fun v S' => v = told' (told r ws p) ∧ S' = S) (h1 : p.1 < ws.length) (h2 : p.2 < ws.length) {S : Store} :
    Ok (mkFn 3 8 (p_behind f) [r.enc, nums ws, pr p] S) fun v S' => v = nums (behind r ws p) ∧ Gr S S' := by
  simp only [p_behind, w_fn, w_ok, w_sSeq, w_sIf, w_sRet, w_sPar2, w_sPar4, w_sNil, w_sNever, w_sExpr, w_sSet, w_sPut, w_sAug, w_sAugS, w_sFor, w_e1, w_e2, w_eF, w_eM, w_cons, w_nil, w_var, w_c, w_tup, w_lst, w_d0, w_and, w_or, w_not, w_if, w_ch, w_ch3, w_sl, w_pOf, w_pNo, w_iOf, w_iEnum, w_iRng, w_lc, v_add, v_iadd, v_addS, v_addT, v_addL, v_sub, v_mul, v_mulT, v_div, v_mod, v_pow, v_neg, v_cmp, v_eq, v_eqS, v_eqB, v_ne, v_notIn, v_isN, v_notN, v_inS, v_inI, v_ix, v_ixL, v_sl, v_slL, v_on1, v_on2, v_abs, v_max2, v_min2, v_len, v_lenR, v_lenL, v_list, v_listR, v_listL, v_tuple, v_tupleL, v_onIs, v_isL, v_append, v_popAt, v_putL, v_it, v_itR, v_itL, v_noRoT, v_noRoL, v_tgN, v_tgT, v_tgCons, v_tgNil, v_eYes, v_okg, v_okg1, List.length_cons, List.length_nil, List.map_cons, List.map_nil, List.replicate, List.cons_append, List.nil_append, List.getElem?_cons_zero, List.getElem?_cons_succ, Option.some.injEq, exists_eq_left', exists_eq_left, List.set_cons_zero, List.set_cons_succ, D.bl.injEq, D.int.injEq, D.str.injEq, D.tup.injEq, D.loc.injEq, decide_eq_true_eq, Bool.not_eq_true', decide_eq_false_iff_not, true_and, and_true, Ob.lst.injEq, Nat.reduceAdd, Nat.reduceSub, ix_0, ix_1, ix_2, upTo_0, ix30, ix31, ix32, List.set_set, cut_1, look_new, set_new, wipeD, List.drop_succ_cons, List.drop_zero, inFlat, List.all_cons, List.all_nil, Bool.and_self, Bool.and_true, reduceIte, List.mem_cons, List.not_mem_nil, or_false, false_or, or_true, true_or, reduceCtorEq, Int.reduceEq, Int.reduceLE, Int.reduceLT, Int.cast_ofNat_Int, Int.natCast_zero, Int.natCast_one, Int.natCast_add, not_true_eq_false, not_false_eq_true, decide_true, decide_false, Bool.false_eq_true, if_true, if_false, Bool.not_true, Bool.not_false, Int.reduceNeg, Int.reduceSub, Int.reduceAdd]
  refine (hf _).mono fun v S1 ⟨e1, e2⟩ => ?_
  subst e1 e2
  simp only [behind]
  cases e : told r ws p with
  | none =>
    simp only [told', w_fn, w_ok, w_sSeq, w_sIf, w_sRet, w_sPar2, w_sPar4, w_sNil, w_sNever, w_sExpr, w_sSet, w_sPut, w_sAug, w_sAugS, w_sFor, w_e1, w_e2, w_eF, w_eM, w_cons, w_nil, w_var, w_c, w_tup, w_lst, w_d0, w_and, w_or, w_not, w_if, w_ch, w_ch3, w_sl, w_pOf, w_pNo, w_iOf, w_iEnum, w_iRng, w_lc, v_add, v_iadd, v_addS, v_addT, v_addL, v_sub, v_mul, v_mulT, v_div, v_mod, v_pow, v_neg, v_cmp, v_eq, v_eqS, v_eqB, v_ne, v_notIn, v_isN, v_notN, v_inS, v_inI, v_ix, v_ixL, v_sl, v_slL, v_on1, v_on2, v_abs, v_max2, v_min2, v_len, v_lenR, v_lenL, v_list, v_listR, v_listL, v_tuple, v_tupleL, v_onIs, v_isL, v_append, v_popAt, v_putL, v_it, v_itR, v_itL, v_noRoT, v_noRoL, v_tgN, v_tgT, v_tgCons, v_tgNil, v_eYes, v_okg, v_okg1, List.length_cons, List.length_nil, List.map_cons, List.map_nil, List.replicate, List.cons_append, List.nil_append, List.getElem?_cons_zero, List.getElem?_cons_succ, Option.some.injEq, exists_eq_left', exists_eq_left, List.set_cons_zero, List.set_cons_succ, D.bl.injEq, D.int.injEq, D.str.injEq, D.tup.injEq, D.loc.injEq, decide_eq_true_eq, Bool.not_eq_true', decide_eq_false_iff_not, true_and, and_true, Ob.lst.injEq, Nat.reduceAdd, Nat.reduceSub, ix_0, ix_1, ix_2, upTo_0, ix30, ix31, ix32, List.set_set, cut_1, look_new, set_new, wipeD, List.drop_succ_cons, List.drop_zero, inFlat, List.all_cons, List.all_nil, Bool.and_self, Bool.and_true, reduceIte, List.mem_cons, List.not_mem_nil, or_false, false_or, or_true, true_or, reduceCtorEq, Int.reduceEq, Int.reduceLE, Int.reduceLT, Int.cast_ofNat_Int, Int.natCast_zero, Int.natCast_one, Int.natCast_add, not_true_eq_false, not_false_eq_true, decide_true, decide_false, Bool.false_eq_true, if_true, if_false, Bool.not_true, Bool.not_false, Int.reduceNeg, Int.reduceSub, Int.reduceAdd]
    exact .refl
  | some q =>
    obtain ⟨g, t, m⟩ := q
    obtain ⟨hgt, hw, hm, _⟩ := told_in e
    have hg : g < ws.length := by omega
    have ht : t < ws.length := by omega
    have hne : g ≠ t := fun z => by subst z; omega
    have e3 : wt (ws.set g (wt ws g - m)) t = wt ws t := by unfold wt; rw [List.getD_eq_getElem?_getD, List.getElem?_set_ne hne, ← List.getD_eq_getElem?_getD]
    have ht' : t < (ws.set g (wt ws g - m)).length := by rw [List.length_set]; exact ht
    simp only [told', w_fn, w_ok, w_sSeq, w_sIf, w_sRet, w_sPar2, w_sPar4, w_sNil, w_sNever, w_sExpr, w_sSet, w_sPut, w_sAug, w_sAugS, w_sFor, w_e1, w_e2, w_eF, w_eM, w_cons, w_nil, w_var, w_c, w_tup, w_lst, w_d0, w_and, w_or, w_not, w_if, w_ch, w_ch3, w_sl, w_pOf, w_pNo, w_iOf, w_iEnum, w_iRng, w_lc, v_add, v_iadd, v_addS, v_addT, v_addL, v_sub, v_mul, v_mulT, v_div, v_mod, v_pow, v_neg, v_cmp, v_eq, v_eqS, v_eqB, v_ne, v_notIn, v_isN, v_notN, v_inS, v_inI, v_ix, v_ixL, v_sl, v_slL, v_on1, v_on2, v_abs, v_max2, v_min2, v_len, v_lenR, v_lenL, v_list, v_listR, v_listL, v_tuple, v_tupleL, v_onIs, v_isL, v_append, v_popAt, v_putL, v_it, v_itR, v_itL, v_noRoT, v_noRoL, v_tgN, v_tgT, v_tgCons, v_tgNil, v_eYes, v_okg, v_okg1, List.length_cons, List.length_nil, List.map_cons, List.map_nil, List.replicate, List.cons_append, List.nil_append, List.getElem?_cons_zero, List.getElem?_cons_succ, Option.some.injEq, exists_eq_left', exists_eq_left, List.set_cons_zero, List.set_cons_succ, D.bl.injEq, D.int.injEq, D.str.injEq, D.tup.injEq, D.loc.injEq, decide_eq_true_eq, Bool.not_eq_true', decide_eq_false_iff_not, true_and, and_true, Ob.lst.injEq, Nat.reduceAdd, Nat.reduceSub, ix_0, ix_1, ix_2, upTo_0, ix30, ix31, ix32, List.set_set, cut_1, look_new, set_new, wipeD, List.drop_succ_cons, List.drop_zero, inFlat, List.all_cons, List.all_nil, Bool.and_self, Bool.and_true, reduceIte, List.mem_cons, List.not_mem_nil, or_false, false_or, or_true, true_or, reduceCtorEq, Int.reduceEq, Int.reduceLE, Int.reduceLT, Int.cast_ofNat_Int, Int.natCast_zero, Int.natCast_one, Int.natCast_add, not_true_eq_false, not_false_eq_true, decide_true, decide_false, Bool.false_eq_true, if_true, if_false, Bool.not_true, Bool.not_false, Int.reduceNeg, Int.reduceSub, Int.reduceAdd, nums, wt_at hg, ixN_nat, List.length_map, hg, mset, wt_at ht', ht', e3]
    exact .push
theorem behind_len {r : Ru} {ws : List Int} {p : Pr} : (behind r ws p).length = ws.length := by
  unfold behind
  split <;> simp
theorem gift_le {r : Ru} (h : r.ok) {x y : Int} (hy : 0 ≤ y) (hxy : y < x) : gift r x y ≤ x := by
  cases r with
  | som k => simp only [gift]; split <;> omega
  | half => simp only [gift]; omega
  | even => simp only [gift]; omega
  | part a b =>
    simp only [gift, Ru.ok] at h ⊢
    have hb : 0 < b := by omega
    refine Int.le_trans (Int.ediv_le_ediv hb (Int.mul_le_mul_of_nonneg_left (show a ≤ b by omega) (by omega))) ?_
    rw [Int.mul_ediv_cancel _ (by omega)]
    omega
theorem wt_set {ws : List Int} {i j : Nat} {x : Int} (hi : i < ws.length) : wt (ws.set i x) j = if j = i then x else wt ws j := by
  unfold wt
  rw [List.getD_eq_getElem?_getD, List.getD_eq_getElem?_getD, List.getElem?_set]
  by_cases e : i = j
  · subst e; simp [hi]
  · rw [if_neg e, if_neg (Ne.symm e)]
theorem behind_pos {r : Ru} (h : r.ok) {ws : List Int} {p : Pr} (h1 : p.1 < ws.length) (h2 : p.2 < ws.length) (hw : ∀ x ∈ ws, 0 ≤ x) : ∀ x ∈ behind r ws p, 0 ≤ x := by
  unfold behind
  cases e : told r ws p with
  | none => exact hw
  | some q =>
    obtain ⟨g, t, m⟩ := q
    obtain ⟨hgt, hlt, hm, em⟩ := told_in e
    have hg : g < ws.length := by omega
    have ht : t < ws.length := by omega
    have p1 : 0 ≤ wt ws g := hw _ (List.mem_of_getElem? (wt_get hg))
    have p2 : 0 ≤ wt ws t := hw _ (List.mem_of_getElem? (wt_get ht))
    have := gift_le h p2 hlt
    intro x hx
    rcases List.mem_or_eq_of_mem_set hx with hx | hx
    · rcases List.mem_or_eq_of_mem_set hx with hx | hx
      · exact hw x hx
      · omega
    · omega
theorem sum_set : ∀ {ws : List Int} {i : Nat} {x : Int}, i < ws.length → (ws.set i x).sum = ws.sum - wt ws i + x
  | [], _, _, h => by simp at h
  | w :: ws, 0, x, _ => by simp [wt]; omega
  | w :: ws, i + 1, x, h => by
    have := sum_set (ws := ws) (i := i) (x := x) (by simpa using h)
    have e : wt (w :: ws) (i + 1) = wt ws i := by simp [wt]
    simp only [List.set_cons_succ, List.sum_cons, this, e]
    omega
theorem behind_sum {r : Ru} {ws : List Int} {p : Pr} (h1 : p.1 < ws.length) (h2 : p.2 < ws.length) : (behind r ws p).sum = ws.sum := by
  unfold behind
  cases e : told r ws p with
  | none => rfl
  | some q =>
    obtain ⟨g, t, m⟩ := q
    obtain ⟨hgt, hlt, hm, em⟩ := told_in e
    have hg : g < ws.length := by omega
    have ht : t < ws.length := by omega
    have hne : ¬ t = g := fun z => by subst z; omega
    simp only
    rw [sum_set (by simpa using ht), sum_set hg, wt_set hg, if_neg hne]
    omega
end Mn
/-! Many meetings; turns round and round. -/
namespace Mn
open PySem
def nats (ms : List Nat) : D := .tup (ms.map fun n => .int (n : Nat))
theorem need_meetings_ok {w : Wo} {ms : List Nat} {most : Int} (h : ∀ m ∈ ms, m < w.ps.length) (hl : (ms.length : Int) ≤ most) {S : Store} : Ok (mkFn 3 5 p_need_meetings [w.enc, nats ms, .int most] S) fun v S' => v = .non ∧ S' = S := by
  simp only [p_need_meetings, w_fn, w_ok, w_sSeq, w_sIf, w_sRet, w_sPar2, w_sPar4, w_sNil, w_sNever, w_sExpr, w_sSet, w_sPut, w_sAug, w_sAugS, w_sFor, w_e1, w_e2, w_eF, w_eM, w_cons, w_nil, w_var, w_c, w_tup, w_lst, w_d0, w_and, w_or, w_not, w_if, w_ch, w_ch3, w_sl, w_pOf, w_pNo, w_iOf, w_iEnum, w_iRng, w_lc, v_add, v_iadd, v_addS, v_addT, v_addL, v_sub, v_mul, v_mulT, v_div, v_mod, v_pow, v_neg, v_cmp, v_eq, v_eqS, v_eqB, v_ne, v_notIn, v_isN, v_notN, v_inS, v_inI, v_ix, v_ixL, v_sl, v_slL, v_on1, v_on2, v_abs, v_max2, v_min2, v_len, v_lenR, v_lenL, v_list, v_listR, v_listL, v_tuple, v_tupleL, v_onIs, v_isL, v_append, v_popAt, v_putL, v_it, v_itR, v_itL, v_noRoT, v_noRoL, v_tgN, v_tgT, v_tgCons, v_tgNil, v_eYes, v_okg, v_okg1, List.length_cons, List.length_nil, List.map_cons, List.map_nil, List.replicate, List.cons_append, List.nil_append, List.getElem?_cons_zero, List.getElem?_cons_succ, Option.some.injEq, exists_eq_left', exists_eq_left, List.set_cons_zero, List.set_cons_succ, D.bl.injEq, D.int.injEq, D.str.injEq, D.tup.injEq, D.loc.injEq, decide_eq_true_eq, Bool.not_eq_true', decide_eq_false_iff_not, true_and, and_true, Ob.lst.injEq, Nat.reduceAdd, Nat.reduceSub, ix_0, ix_1, ix_2, upTo_0, ix30, ix31, ix32, List.set_set, cut_1, look_new, set_new, wipeD, List.drop_succ_cons, List.drop_zero, inFlat, List.all_cons, List.all_nil, Bool.and_self, Bool.and_true, reduceIte, List.mem_cons, List.not_mem_nil, or_false, false_or, or_true, true_or, reduceCtorEq, Int.reduceEq, Int.reduceLE, Int.reduceLT, Int.cast_ofNat_Int, Int.natCast_zero, Int.natCast_one, Int.natCast_add, not_true_eq_false, not_false_eq_true, decide_true, decide_false, Bool.false_eq_true, if_true, if_false, Bool.not_true, Bool.not_false, Int.reduceNeg, Int.reduceSub, Int.reduceAdd, nats, Wo.enc]
  refine for_numb (f := fun n : Nat => D.int n) (fun i σ S' => S' = S ∧ ∃ x3 x4, σ = [some w.enc, some (nats ms), some (.int most), x3, x4]) ⟨rfl, _, _, rfl⟩ ?_ ?_
  · rintro i x σ S' hx ⟨rfl, x3, x4, rfl⟩
    have hi := (List.getElem?_eq_some_iff.mp hx).1
    have hm := h x (List.mem_of_getElem? hx)
    simp only [w_fn, w_ok, w_sSeq, w_sIf, w_sRet, w_sPar2, w_sPar4, w_sNil, w_sNever, w_sExpr, w_sSet, w_sPut, w_sAug, w_sAugS, w_sFor, w_e1, w_e2, w_eF, w_eM, w_cons, w_nil, w_var, w_c, w_tup, w_lst, w_d0, w_and, w_or, w_not, w_if, w_ch, w_ch3, w_sl, w_pOf, w_pNo, w_iOf, w_iEnum, w_iRng, w_lc, v_add, v_iadd, v_addS, v_addT, v_addL, v_sub, v_mul, v_mulT, v_div, v_mod, v_pow, v_neg, v_cmp, v_eq, v_eqS, v_eqB, v_ne, v_notIn, v_isN, v_notN, v_inS, v_inI, v_ix, v_ixL, v_sl, v_slL, v_on1, v_on2, v_abs, v_max2, v_min2, v_len, v_lenR, v_lenL, v_list, v_listR, v_listL, v_tuple, v_tupleL, v_onIs, v_isL, v_append, v_popAt, v_putL, v_it, v_itR, v_itL, v_noRoT, v_noRoL, v_tgN, v_tgT, v_tgCons, v_tgNil, v_eYes, v_okg, v_okg1, List.length_cons, List.length_nil, List.map_cons, List.map_nil, List.replicate, List.cons_append, List.nil_append, List.getElem?_cons_zero, List.getElem?_cons_succ, Option.some.injEq, exists_eq_left', exists_eq_left, List.set_cons_zero, List.set_cons_succ, D.bl.injEq, D.int.injEq, D.str.injEq, D.tup.injEq, D.loc.injEq, decide_eq_true_eq, Bool.not_eq_true', decide_eq_false_iff_not, true_and, and_true, Ob.lst.injEq, Nat.reduceAdd, Nat.reduceSub, ix_0, ix_1, ix_2, upTo_0, ix30, ix31, ix32, List.set_set, cut_1, look_new, set_new, wipeD, List.drop_succ_cons, List.drop_zero, inFlat, List.all_cons, List.all_nil, Bool.and_self, Bool.and_true, reduceIte, List.mem_cons, List.not_mem_nil, or_false, false_or, or_true, true_or, reduceCtorEq, Int.reduceEq, Int.reduceLE, Int.reduceLT, Int.cast_ofNat_Int, Int.natCast_zero, Int.natCast_one, Int.natCast_add, not_true_eq_false, not_false_eq_true, decide_true, decide_false, Bool.false_eq_true, if_true, if_false, Bool.not_true, Bool.not_false, Int.reduceNeg, Int.reduceSub, Int.reduceAdd, Wo.enc, prs, List.length_map]
    rw [if_neg (show ¬ (i : Int) = most by omega), if_pos (show (0 : Int) ≤ x by omega), if_neg (show ¬ ¬ (x : Int) < w.ps.length by omega)]
    exact ⟨_, _, rfl⟩
  · rintro σ S' ⟨rfl, x3, x4, rfl⟩
    simp only [w_fn, w_ok, w_sSeq, w_sIf, w_sRet, w_sPar2, w_sPar4, w_sNil, w_sNever, w_sExpr, w_sSet, w_sPut, w_sAug, w_sAugS, w_sFor, w_e1, w_e2, w_eF, w_eM, w_cons, w_nil, w_var, w_c, w_tup, w_lst, w_d0, w_and, w_or, w_not, w_if, w_ch, w_ch3, w_sl, w_pOf, w_pNo, w_iOf, w_iEnum, w_iRng, w_lc, v_add, v_iadd, v_addS, v_addT, v_addL, v_sub, v_mul, v_mulT, v_div, v_mod, v_pow, v_neg, v_cmp, v_eq, v_eqS, v_eqB, v_ne, v_notIn, v_isN, v_notN, v_inS, v_inI, v_ix, v_ixL, v_sl, v_slL, v_on1, v_on2, v_abs, v_max2, v_min2, v_len, v_lenR, v_lenL, v_list, v_listR, v_listL, v_tuple, v_tupleL, v_onIs, v_isL, v_append, v_popAt, v_putL, v_it, v_itR, v_itL, v_noRoT, v_noRoL, v_tgN, v_tgT, v_tgCons, v_tgNil, v_eYes, v_okg, v_okg1, List.length_cons, List.length_nil, List.map_cons, List.map_nil, List.replicate, List.cons_append, List.nil_append, List.getElem?_cons_zero, List.getElem?_cons_succ, Option.some.injEq, exists_eq_left', exists_eq_left, List.set_cons_zero, List.set_cons_succ, D.bl.injEq, D.int.injEq, D.str.injEq, D.tup.injEq, D.loc.injEq, decide_eq_true_eq, Bool.not_eq_true', decide_eq_false_iff_not, true_and, and_true, Ob.lst.injEq, Nat.reduceAdd, Nat.reduceSub, ix_0, ix_1, ix_2, upTo_0, ix30, ix31, ix32, List.set_set, cut_1, look_new, set_new, wipeD, List.drop_succ_cons, List.drop_zero, inFlat, List.all_cons, List.all_nil, Bool.and_self, Bool.and_true, reduceIte, List.mem_cons, List.not_mem_nil, or_false, false_or, or_true, true_or, reduceCtorEq, Int.reduceEq, Int.reduceLE, Int.reduceLT, Int.cast_ofNat_Int, Int.natCast_zero, Int.natCast_one, Int.natCast_add, not_true_eq_false, not_false_eq_true, decide_true, decide_false, Bool.false_eq_true, if_true, if_false, Bool.not_true, Bool.not_false, Int.reduceNeg, Int.reduceSub, Int.reduceAdd]
/-- the worlds one behind another, met at the places that tn tells -/
def go (r : Ru) (ps : List Pr) (tn : Nat → Nat) (ws : List Int) : Nat → List Int
  | 0 => ws
  | i + 1 => behind r (go r ps tn ws i) (ps.getD (tn i) (0, 0))
theorem go_len {r : Ru} {ps : List Pr} {tn : Nat → Nat} {ws : List Int} : ∀ i, (go r ps tn ws i).length = ws.length
  | 0 => rfl
  | i + 1 => by rw [go, behind_len, go_len i]
theorem pr_at {ps : List Pr} {i : Nat} (h : i < ps.length) : L2.atI (ps.map pr) (i : Int) = some (pr (ps.getD i (0, 0))) := by
  rw [ix_nat, List.getElem?_map, List.getD_eq_getElem?_getD, List.getElem?_eq_getElem h]; rfl
theorem pr_ok {w : Wo} (h : w.ok) {i : Nat} (hi : i < w.ps.length) : (w.ps.getD i (0, 0)).1 < w.ws.length ∧ (w.ps.getD i (0, 0)).2 < w.ws.length := by
  have hm : w.ps.getD i (0, 0) ∈ w.ps := by
    rw [List.getD_eq_getElem?_getD, List.getElem?_eq_getElem hi]; exact List.getElem_mem hi
  have := h.pr _ hm
  omega
/-- what one meeting does, as the text's def says it -/
def BehindOk (f : Fn) (r : Ru) (n : Nat) : Prop := ∀ (ws : List Int) (p : Pr) (S : Store), ws.length = n → p.1 < n → p.2 < n → Ok (f [r.enc, nums ws, pr p] S) fun v S' => v = nums (behind r ws p) ∧ Gr S S'
theorem nums_inj {a b : List Int} (h : nums a = nums b) : a = b := by
  simp only [nums, D.tup.injEq] at h
  exact (List.map_inj_right (fun x y e => by cases e; rfl)).mp h
def kx (ws : List Int) (k : Nat) : NestedKey := .tup [.tup (ws.map .num), .num k]
theorem kx_inj {a b : List Int} {i j : Nat} (h : kx a i = kx b j) : a = b ∧ i = j := by
  simp only [kx, NestedKey.tup.injEq, List.cons.injEq, NestedKey.num.injEq] at h
  exact ⟨(List.map_inj_right (fun x y e => by cases e; rfl)).mp h.1, by omega⟩
theorem nk_ints : ∀ ws : List Int, nkeys (ws.map .int) = some (ws.map .num)
  | [] => rfl
  | w :: ws => by simp [nkeys, nkey, nk_ints ws]
theorem dp_nums : ∀ ws : List Int, NestedKey.depthAll (ws.map .num) = 0
  | [] => rfl
  | w :: ws => by simp [NestedKey.depthAll, NestedKey.depth, dp_nums ws]
theorem tk_x {ws : List Int} {k : Nat} : tkey (.tup [nums ws, .int k]) = some (kx ws k) := by
  simp only [tkey, nkey, nkeys, nums, nk_ints]
  simp [NestedKey.depth, NestedKey.depthAll, dp_nums, kx]
/-! ### turns -/
structure Tn (w : Wo) (ts : List Nat) : Prop where
  ne : ts ≠ []
  lt : ∀ t ∈ ts, t < w.ps.length
def turn (ts : List Nat) (i : Nat) : Nat := ts.getD (i % ts.length) 0
def Wn (w : Wo) (ts : List Nat) (i : Nat) : List Int := go w.ru w.ps (turn ts) w.ws i
def Xn (w : Wo) (ts : List Nat) (i : Nat) : List Int × Nat := (Wn w ts i, i % ts.length)
theorem Tn.pos {w : Wo} {ts : List Nat} (h : Tn w ts) : 0 < ts.length := List.length_pos_iff.mpr h.ne
theorem turn_get {w : Wo} {ts : List Nat} (h : Tn w ts) (i : Nat) : ts[i % ts.length]? = some (turn ts i) := by
  have := Nat.mod_lt i h.pos
  unfold turn
  rw [List.getD_eq_getElem?_getD, List.getElem?_eq_getElem this]; rfl
theorem turn_lt {w : Wo} {ts : List Nat} (h : Tn w ts) (i : Nat) : turn ts i < w.ps.length := h.lt _ (List.mem_of_getElem? (turn_get h i))
/-- f: where the round is entered; L: where it is closed -/
structure Lasso (w : Wo) (ts : List Nat) (f L : Nat) : Prop where
  lt : f < L
  eq : Xn w ts L = Xn w ts f
  dis : ∀ i j, i < j → j < L → Xn w ts i ≠ Xn w ts j
def rowsOf (w : Wo) (ts : List Nat) (L : Nat) : List D := (List.range L).map fun i => nums (Wn w ts i)
theorem walk_ok {w : Wo} (h : w.ok) {ts : List Nat} (ht : Tn w ts) {f : Fn} (hf : BehindOk f w.ru w.ws.length) {B : Nat} (hB : ∀ L, (∀ i j, i < j → j < L → Xn w ts i ≠ Xn w ts j) → L ≤ B) (hB2 : B < sizeLine) {S : Store} :
    Ok (mkFn 2 6 (p_walk f) [w.enc, nats ts] S) fun v S' => ∃ l k L, v = .tup [.loc l, .int (k : Nat)] ∧ Lasso w ts k L ∧ S'[l]? = some (.lst (rowsOf w ts L)) ∧ Gr S S' := by
  have hp := ht.pos
  have hsz := szl
  simp only [p_walk, w_fn, w_ok, w_sSeq, w_sIf, w_sRet, w_sPar2, w_sPar4, w_sNil, w_sNever, w_sExpr, w_sSet, w_sPut, w_sAug, w_sAugS, w_sFor, w_e1, w_e2, w_eF, w_eM, w_cons, w_nil, w_var, w_c, w_tup, w_lst, w_d0, w_and, w_or, w_not, w_if, w_ch, w_ch3, w_sl, w_pOf, w_pNo, w_iOf, w_iEnum, w_iRng, w_lc, v_add, v_iadd, v_addS, v_addT, v_addL, v_sub, v_mul, v_mulT, v_div, v_mod, v_pow, v_neg, v_cmp, v_eq, v_eqS, v_eqB, v_ne, v_notIn, v_isN, v_notN, v_inS, v_inI, v_ix, v_ixL, v_sl, v_slL, v_on1, v_on2, v_abs, v_max2, v_min2, v_len, v_lenR, v_lenL, v_list, v_listR, v_listL, v_tuple, v_tupleL, v_onIs, v_isL, v_append, v_popAt, v_putL, v_it, v_itR, v_itL, v_noRoT, v_noRoL, v_tgN, v_tgT, v_tgCons, v_tgNil, v_eYes, v_okg, v_okg1, List.length_cons, List.length_nil, List.map_cons, List.map_nil, List.replicate, List.cons_append, List.nil_append, List.getElem?_cons_zero, List.getElem?_cons_succ, Option.some.injEq, exists_eq_left', exists_eq_left, List.set_cons_zero, List.set_cons_succ, D.bl.injEq, D.int.injEq, D.str.injEq, D.tup.injEq, D.loc.injEq, decide_eq_true_eq, Bool.not_eq_true', decide_eq_false_iff_not, true_and, and_true, Ob.lst.injEq, Nat.reduceAdd, Nat.reduceSub, ix_0, ix_1, ix_2, upTo_0, ix30, ix31, ix32, List.set_set, cut_1, look_new, set_new, wipeD, List.drop_succ_cons, List.drop_zero, inFlat, List.all_cons, List.all_nil, Bool.and_self, Bool.and_true, reduceIte, List.mem_cons, List.not_mem_nil, or_false, false_or, or_true, true_or, reduceCtorEq, Int.reduceEq, Int.reduceLE, Int.reduceLT, Int.cast_ofNat_Int, Int.natCast_zero, Int.natCast_one, Int.natCast_add, not_true_eq_false, not_false_eq_true, decide_true, decide_false, Bool.false_eq_true, if_true, if_false, Bool.not_true, Bool.not_false, Int.reduceNeg, Int.reduceSub, Int.reduceAdd, Wo.enc]
  refine w_sWh (n := B + 1) (fun m σ S' => ∃ n x5 kvs, m = B + 1 - n ∧ (∀ i j, i < j → j < n → Xn w ts i ≠ Xn w ts j) ∧ σ = [some w.enc, some (nats ts), some (nums (Wn w ts n)), some (.loc S.length), some (.loc (S.length + 1)), x5] ∧ Gr S S' ∧
    S'[S.length]? = some (.lst (rowsOf w ts n)) ∧ S'[S.length + 1]? = some (.dt kvs) ∧ kvs.length = n ∧ (∀ i, i < n → kvs.lookup (kx (Wn w ts i) (i % ts.length)) = some (.int (i : Nat))) ∧
    (∀ (a : List Int) (k : Nat), (∀ i, i < n → Xn w ts i ≠ (a, k)) → kvs.lookup (kx a k) = none)) ?_ ?_ ?_
  · refine ⟨0, none, [], rfl, fun i j _ z => absurd z (Nat.not_lt_zero _), by simp [Wo.enc, Wn, go, nums], ?_, ?_, ?_, rfl, fun i z => absurd z (Nat.not_lt_zero _), fun _ _ _ => rfl⟩
    · exact Gr.push.more
    · simp [rowsOf]
    · simp
  · unfold NW; omega
  · rintro m σ S' ⟨n, x5, kvs, rfl, hdis, rfl, hg, h1, h2, hk, hin, hout⟩
    have hnB := hB n hdis
    have hlen : (rowsOf w ts n).length = n := by simp [rowsOf]
    have hmod : ((n : Int) % (ts.length : Int)) = ((n % ts.length : Nat) : Int) := by simp
    simp only [w_fn, w_ok, w_sSeq, w_sIf, w_sRet, w_sPar2, w_sPar4, w_sNil, w_sNever, w_sExpr, w_sSet, w_sPut, w_sAug, w_sAugS, w_sFor, w_e1, w_e2, w_eF, w_eM, w_cons, w_nil, w_var, w_c, w_tup, w_lst, w_d0, w_and, w_or, w_not, w_if, w_ch, w_ch3, w_sl, w_pOf, w_pNo, w_iOf, w_iEnum, w_iRng, w_lc, v_add, v_iadd, v_addS, v_addT, v_addL, v_sub, v_mul, v_mulT, v_div, v_mod, v_pow, v_neg, v_cmp, v_eq, v_eqS, v_eqB, v_ne, v_notIn, v_isN, v_notN, v_inS, v_inI, v_ix, v_ixL, v_sl, v_slL, v_on1, v_on2, v_abs, v_max2, v_min2, v_len, v_lenR, v_lenL, v_list, v_listR, v_listL, v_tuple, v_tupleL, v_onIs, v_isL, v_append, v_popAt, v_putL, v_it, v_itR, v_itL, v_noRoT, v_noRoL, v_tgN, v_tgT, v_tgCons, v_tgNil, v_eYes, v_okg, v_okg1, List.length_cons, List.length_nil, List.map_cons, List.map_nil, List.replicate, List.cons_append, List.nil_append, List.getElem?_cons_zero, List.getElem?_cons_succ, Option.some.injEq, exists_eq_left', exists_eq_left, List.set_cons_zero, List.set_cons_succ, D.bl.injEq, D.int.injEq, D.str.injEq, D.tup.injEq, D.loc.injEq, decide_eq_true_eq, Bool.not_eq_true', decide_eq_false_iff_not, true_and, and_true, Ob.lst.injEq, Nat.reduceAdd, Nat.reduceSub, ix_0, ix_1, ix_2, upTo_0, ix30, ix31, ix32, List.set_set, cut_1, look_new, set_new, wipeD, List.drop_succ_cons, List.drop_zero, inFlat, List.all_cons, List.all_nil, Bool.and_self, Bool.and_true, reduceIte, List.mem_cons, List.not_mem_nil, or_false, false_or, or_true, true_or, reduceCtorEq, Int.reduceEq, Int.reduceLE, Int.reduceLT, Int.cast_ofNat_Int, Int.natCast_zero, Int.natCast_one, Int.natCast_add, not_true_eq_false, not_false_eq_true, decide_true, decide_false, Bool.false_eq_true, if_true, if_false, Bool.not_true, Bool.not_false, Int.reduceNeg, Int.reduceSub, Int.reduceAdd, h1, nats, List.length_map, hlen, hmod]
    refine ⟨by omega, ?_⟩
    simp only [v_inD h2, tk_x, Option.some.injEq, exists_eq_left']
    by_cases hx : ∃ i, i < n ∧ Xn w ts i = Xn w ts n
    · obtain ⟨i, hi, e⟩ := hx
      have e1 := hin i hi
      simp only [Xn, Prod.mk.injEq] at e
      rw [e.1, e.2] at e1
      simp only [w_fn, w_ok, w_sSeq, w_sIf, w_sRet, w_sPar2, w_sPar4, w_sNil, w_sNever, w_sExpr, w_sSet, w_sPut, w_sAug, w_sAugS, w_sFor, w_e1, w_e2, w_eF, w_eM, w_cons, w_nil, w_var, w_c, w_tup, w_lst, w_d0, w_and, w_or, w_not, w_if, w_ch, w_ch3, w_sl, w_pOf, w_pNo, w_iOf, w_iEnum, w_iRng, w_lc, v_add, v_iadd, v_addS, v_addT, v_addL, v_sub, v_mul, v_mulT, v_div, v_mod, v_pow, v_neg, v_cmp, v_eq, v_eqS, v_eqB, v_ne, v_notIn, v_isN, v_notN, v_inS, v_inI, v_ix, v_ixL, v_sl, v_slL, v_on1, v_on2, v_abs, v_max2, v_min2, v_len, v_lenR, v_lenL, v_list, v_listR, v_listL, v_tuple, v_tupleL, v_onIs, v_isL, v_append, v_popAt, v_putL, v_it, v_itR, v_itL, v_noRoT, v_noRoL, v_tgN, v_tgT, v_tgCons, v_tgNil, v_eYes, v_okg, v_okg1, List.length_cons, List.length_nil, List.map_cons, List.map_nil, List.replicate, List.cons_append, List.nil_append, List.getElem?_cons_zero, List.getElem?_cons_succ, Option.some.injEq, exists_eq_left', exists_eq_left, List.set_cons_zero, List.set_cons_succ, D.bl.injEq, D.int.injEq, D.str.injEq, D.tup.injEq, D.loc.injEq, decide_eq_true_eq, Bool.not_eq_true', decide_eq_false_iff_not, true_and, and_true, Ob.lst.injEq, Nat.reduceAdd, Nat.reduceSub, ix_0, ix_1, ix_2, upTo_0, ix30, ix31, ix32, List.set_set, cut_1, look_new, set_new, wipeD, List.drop_succ_cons, List.drop_zero, inFlat, List.all_cons, List.all_nil, Bool.and_self, Bool.and_true, reduceIte, List.mem_cons, List.not_mem_nil, or_false, false_or, or_true, true_or, reduceCtorEq, Int.reduceEq, Int.reduceLE, Int.reduceLT, Int.cast_ofNat_Int, Int.natCast_zero, Int.natCast_one, Int.natCast_add, not_true_eq_false, not_false_eq_true, decide_true, decide_false, Bool.false_eq_true, if_true, if_false, Bool.not_true, Bool.not_false, Int.reduceNeg, Int.reduceSub, Int.reduceAdd, e1, Option.isSome_some, h1, hlen, hmod, v_ixD h2, tk_x]
      exact .inr ⟨by omega, S.length, i, n, rfl, ⟨hi, by simp [Xn, e], hdis⟩, h1, hg⟩
    · have e1 := hout (Wn w ts n) (n % ts.length) fun i hi e => hx ⟨i, hi, e⟩
      simp only [w_fn, w_ok, w_sSeq, w_sIf, w_sRet, w_sPar2, w_sPar4, w_sNil, w_sNever, w_sExpr, w_sSet, w_sPut, w_sAug, w_sAugS, w_sFor, w_e1, w_e2, w_eF, w_eM, w_cons, w_nil, w_var, w_c, w_tup, w_lst, w_d0, w_and, w_or, w_not, w_if, w_ch, w_ch3, w_sl, w_pOf, w_pNo, w_iOf, w_iEnum, w_iRng, w_lc, v_add, v_iadd, v_addS, v_addT, v_addL, v_sub, v_mul, v_mulT, v_div, v_mod, v_pow, v_neg, v_cmp, v_eq, v_eqS, v_eqB, v_ne, v_notIn, v_isN, v_notN, v_inS, v_inI, v_ix, v_ixL, v_sl, v_slL, v_on1, v_on2, v_abs, v_max2, v_min2, v_len, v_lenR, v_lenL, v_list, v_listR, v_listL, v_tuple, v_tupleL, v_onIs, v_isL, v_append, v_popAt, v_putL, v_it, v_itR, v_itL, v_noRoT, v_noRoL, v_tgN, v_tgT, v_tgCons, v_tgNil, v_eYes, v_okg, v_okg1, List.length_cons, List.length_nil, List.map_cons, List.map_nil, List.replicate, List.cons_append, List.nil_append, List.getElem?_cons_zero, List.getElem?_cons_succ, Option.some.injEq, exists_eq_left', exists_eq_left, List.set_cons_zero, List.set_cons_succ, D.bl.injEq, D.int.injEq, D.str.injEq, D.tup.injEq, D.loc.injEq, decide_eq_true_eq, Bool.not_eq_true', decide_eq_false_iff_not, true_and, and_true, Ob.lst.injEq, Nat.reduceAdd, Nat.reduceSub, ix_0, ix_1, ix_2, upTo_0, ix30, ix31, ix32, List.set_set, cut_1, look_new, set_new, wipeD, List.drop_succ_cons, List.drop_zero, inFlat, List.all_cons, List.all_nil, Bool.and_self, Bool.and_true, reduceIte, List.mem_cons, List.not_mem_nil, or_false, false_or, or_true, true_or, reduceCtorEq, Int.reduceEq, Int.reduceLE, Int.reduceLT, Int.cast_ofNat_Int, Int.natCast_zero, Int.natCast_one, Int.natCast_add, not_true_eq_false, not_false_eq_true, decide_true, decide_false, Bool.false_eq_true, if_true, if_false, Bool.not_true, Bool.not_false, Int.reduceNeg, Int.reduceSub, Int.reduceAdd, e1, Option.isSome_none, h1, hlen, hmod, v_putD h2, tk_x]
      have hdis' : ∀ i j, i < j → j < n + 1 → Xn w ts i ≠ Xn w ts j := fun i j hij hj => by
        by_cases hj2 : j < n
        · exact hdis i j hij hj2
        · have : j = n := by omega
          subst this
          exact fun e => hx ⟨i, hij, e⟩
      have hnB' := hB _ hdis'
      have g1 : (S'.set (S.length + 1) (Ob.dt (kput kvs (kx (Wn w ts n) (n % ts.length)) (.int (n : Nat)))))[S.length]? = some (.lst (rowsOf w ts n)) := by
        rw [List.getElem?_set_ne (by omega)]; exact h1
      have g2 : (S'.set (S.length + 1) (Ob.dt (kput kvs (kx (Wn w ts n) (n % ts.length)) (.int (n : Nat)))))[S.length + 1]? = some (.dt (kput kvs (kx (Wn w ts n) (n % ts.length)) (.int (n : Nat)))) := look_set h2
      refine .inl ⟨by omega, by omega, ⟨_, g1⟩, _, g1, by omega, ?_⟩
      have ht2 : L2.atI (ts.map fun n => D.int (n : Nat)) ((n % ts.length : Nat) : Int) = some (.int (turn ts n : Nat)) := by
        rw [ix_nat, List.getElem?_map, turn_get ht]; rfl
      have hpr := pr_ok h (turn_lt ht n)
      simp only [w_fn, w_ok, w_sSeq, w_sIf, w_sRet, w_sPar2, w_sPar4, w_sNil, w_sNever, w_sExpr, w_sSet, w_sPut, w_sAug, w_sAugS, w_sFor, w_e1, w_e2, w_eF, w_eM, w_cons, w_nil, w_var, w_c, w_tup, w_lst, w_d0, w_and, w_or, w_not, w_if, w_ch, w_ch3, w_sl, w_pOf, w_pNo, w_iOf, w_iEnum, w_iRng, w_lc, v_add, v_iadd, v_addS, v_addT, v_addL, v_sub, v_mul, v_mulT, v_div, v_mod, v_pow, v_neg, v_cmp, v_eq, v_eqS, v_eqB, v_ne, v_notIn, v_isN, v_notN, v_inS, v_inI, v_ix, v_ixL, v_sl, v_slL, v_on1, v_on2, v_abs, v_max2, v_min2, v_len, v_lenR, v_lenL, v_list, v_listR, v_listL, v_tuple, v_tupleL, v_onIs, v_isL, v_append, v_popAt, v_putL, v_it, v_itR, v_itL, v_noRoT, v_noRoL, v_tgN, v_tgT, v_tgCons, v_tgNil, v_eYes, v_okg, v_okg1, List.length_cons, List.length_nil, List.map_cons, List.map_nil, List.replicate, List.cons_append, List.nil_append, List.getElem?_cons_zero, List.getElem?_cons_succ, Option.some.injEq, exists_eq_left', exists_eq_left, List.set_cons_zero, List.set_cons_succ, D.bl.injEq, D.int.injEq, D.str.injEq, D.tup.injEq, D.loc.injEq, decide_eq_true_eq, Bool.not_eq_true', decide_eq_false_iff_not, true_and, and_true, Ob.lst.injEq, Nat.reduceAdd, Nat.reduceSub, ix_0, ix_1, ix_2, upTo_0, ix30, ix31, ix32, List.set_set, cut_1, look_new, set_new, wipeD, List.drop_succ_cons, List.drop_zero, inFlat, List.all_cons, List.all_nil, Bool.and_self, Bool.and_true, reduceIte, List.mem_cons, List.not_mem_nil, or_false, false_or, or_true, true_or, reduceCtorEq, Int.reduceEq, Int.reduceLE, Int.reduceLT, Int.cast_ofNat_Int, Int.natCast_zero, Int.natCast_one, Int.natCast_add, not_true_eq_false, not_false_eq_true, decide_true, decide_false, Bool.false_eq_true, if_true, if_false, Bool.not_true, Bool.not_false, Int.reduceNeg, Int.reduceSub, Int.reduceAdd, Wo.enc, prs, ht2, pr_at (turn_lt ht n)]
      refine (hf _ _ _ (go_len n) hpr.1 hpr.2).mono fun v S4 ⟨e, g⟩ => ?_
      subst e
      refine ⟨B + 1 - (n + 1), by omega, n + 1, _, kvs ++ [(kx (Wn w ts n) (n % ts.length), .int (n : Nat))], rfl, hdis', rfl, ?_, ?_, ?_, by simp [hk], ?_, ?_⟩
      · exact ((hg.set (by omega)).set (Nat.le_refl _)).trans g
      · refine g.look ?_
        rw [look_set g1]
        simp [rowsOf, List.range_succ]
      · refine g.look ?_
        rw [List.getElem?_set_ne (by omega), g2, kput_new e1]
      · intro i hi
        rw [lookup_snoc]
        by_cases hi2 : i < n
        · rw [hin i hi2]
        · have : i = n := by omega
          subst this
          rw [e1]; simp
      · intro a k hak
        rw [lookup_snoc, hout a k fun i hi => hak i (by omega)]
        simp only
        rw [if_neg]
        intro z
        obtain ⟨z1, z2⟩ := kx_inj z
        exact hak n (by omega) (by simp [Xn, z1, z2])
end Mn
/-! Turns: the round, after so many, where they come to rest. -/
namespace Mn
open PySem
theorem Xn_next {w : Wo} {ts : List Nat} {i j : Nat} (h : Xn w ts i = Xn w ts j) : Xn w ts (i + 1) = Xn w ts (j + 1) := by
  simp only [Xn, Prod.mk.injEq] at h ⊢
  refine ⟨?_, by rw [Nat.add_mod, h.2, ← Nat.add_mod]⟩
  have e1 : Wn w ts i = Wn w ts j := h.1
  show behind w.ru (Wn w ts i) _ = behind w.ru (Wn w ts j) _
  rw [e1, turn, turn, h.2]
theorem Xn_add {w : Wo} {ts : List Nat} {i j : Nat} (h : Xn w ts i = Xn w ts j) : ∀ k, Xn w ts (i + k) = Xn w ts (j + k)
  | 0 => h
  | k + 1 => Xn_next (Xn_add h k)
theorem Lasso.add {w : Wo} {ts : List Nat} {f L : Nat} (l : Lasso w ts f L) {i : Nat} (hi : f ≤ i) : Xn w ts (i + (L - f)) = Xn w ts i := by
  have := Xn_add l.eq (i - f)
  have := l.lt
  rw [show L + (i - f) = i + (L - f) by omega, show f + (i - f) = i by omega] at *
  assumption
theorem Lasso.mul {w : Wo} {ts : List Nat} {f L : Nat} (l : Lasso w ts f L) {i : Nat} (hi : f ≤ i) : ∀ k, Xn w ts (i + k * (L - f)) = Xn w ts i
  | 0 => by simp
  | k + 1 => by
    rw [Nat.succ_mul, ← Nat.add_assoc, l.add (by omega), l.mul hi k]
theorem Lasso.far {w : Wo} {ts : List Nat} {f L : Nat} (l : Lasso w ts f L) {m : Nat} (hm : f ≤ m) : Xn w ts (f + (m - f) % (L - f)) = Xn w ts m := by
  have := l.mul (i := f + (m - f) % (L - f)) (by omega) ((m - f) / (L - f))
  rw [← this]
  congr 1
  have := Nat.mod_add_div (m - f) (L - f)
  rw [Nat.mul_comm] at this
  omega
theorem Lasso.uniq {w : Wo} {ts : List Nat} {f L f' L' : Nat} (l : Lasso w ts f L) (l' : Lasso w ts f' L') : f = f' ∧ L = L' := by
  have e : L = L' := by
    rcases Nat.lt_trichotomy L L' with h | h | h
    · exact absurd l.eq.symm (l'.dis f L l.lt h)
    · exact h
    · exact absurd l'.eq.symm (l.dis f' L' l'.lt h)
  subst e
  refine ⟨?_, rfl⟩
  rcases Nat.lt_trichotomy f f' with h | h | h
  · exact absurd (l.eq.symm.trans l'.eq) (l.dis f f' h l'.lt)
  · exact h
  · exact absurd (l'.eq.symm.trans l.eq) (l.dis f' f h l.lt)
/-- what walk tells -/
def WalkOk (f : Fn) (w : Wo) (ts : List Nat) : Prop := ∀ S, Ok (f [w.enc, nats ts] S) fun v S' => ∃ l k L, v = .tup [.loc l, .int (k : Nat)] ∧ Lasso w ts k L ∧ S'[l]? = some (.lst (rowsOf w ts L)) ∧ Gr S S'
def NeedW (f : Fn) (w : Wo) : Prop := ∀ S, Ok (f [w.enc] S) fun v S' => v = .non ∧ Gr S S'
def NeedT (f : Fn) (w : Wo) (ts : List Nat) : Prop := ∀ S, Ok (f [w.enc, nats ts] S) fun v S' => v = .non ∧ S' = S
def NeedM (f : Fn) (w : Wo) (ts : List Nat) : Prop := ∀ S, Ok (f [w.enc, nats ts, .int 200] S) fun v S' => v = .non ∧ S' = S
theorem need_turns_ok {w : Wo} {ts : List Nat} (ht : Tn w ts) {f : Fn} (hf : NeedM f w ts) : NeedT (mkFn 2 2 (p_need_turns f)) w ts := by
  intro S
  have := ht.pos
  simp only [p_need_turns, w_fn, w_ok, w_sSeq, w_sIf, w_sRet, w_sPar2, w_sPar4, w_sNil, w_sNever, w_sExpr, w_sSet, w_sPut, w_sAug, w_sAugS, w_sFor, w_e1, w_e2, w_eF, w_eM, w_cons, w_nil, w_var, w_c, w_tup, w_lst, w_d0, w_and, w_or, w_not, w_if, w_ch, w_ch3, w_sl, w_pOf, w_pNo, w_iOf, w_iEnum, w_iRng, w_lc, v_add, v_iadd, v_addS, v_addT, v_addL, v_sub, v_mul, v_mulT, v_div, v_mod, v_pow, v_neg, v_cmp, v_eq, v_eqS, v_eqB, v_ne, v_notIn, v_isN, v_notN, v_inS, v_inI, v_ix, v_ixL, v_sl, v_slL, v_on1, v_on2, v_abs, v_max2, v_min2, v_len, v_lenR, v_lenL, v_list, v_listR, v_listL, v_tuple, v_tupleL, v_onIs, v_isL, v_append, v_popAt, v_putL, v_it, v_itR, v_itL, v_noRoT, v_noRoL, v_tgN, v_tgT, v_tgCons, v_tgNil, v_eYes, v_okg, v_okg1, List.length_cons, List.length_nil, List.map_cons, List.map_nil, List.replicate, List.cons_append, List.nil_append, List.getElem?_cons_zero, List.getElem?_cons_succ, Option.some.injEq, exists_eq_left', exists_eq_left, List.set_cons_zero, List.set_cons_succ, D.bl.injEq, D.int.injEq, D.str.injEq, D.tup.injEq, D.loc.injEq, decide_eq_true_eq, Bool.not_eq_true', decide_eq_false_iff_not, true_and, and_true, Ob.lst.injEq, Nat.reduceAdd, Nat.reduceSub, ix_0, ix_1, ix_2, upTo_0, ix30, ix31, ix32, List.set_set, cut_1, look_new, set_new, wipeD, List.drop_succ_cons, List.drop_zero, inFlat, List.all_cons, List.all_nil, Bool.and_self, Bool.and_true, reduceIte, List.mem_cons, List.not_mem_nil, or_false, false_or, or_true, true_or, reduceCtorEq, Int.reduceEq, Int.reduceLE, Int.reduceLT, Int.cast_ofNat_Int, Int.natCast_zero, Int.natCast_one, Int.natCast_add, not_true_eq_false, not_false_eq_true, decide_true, decide_false, Bool.false_eq_true, if_true, if_false, Bool.not_true, Bool.not_false, Int.reduceNeg, Int.reduceSub, Int.reduceAdd]
  refine (hf S).mono fun v S1 ⟨e1, e2⟩ => ?_
  subst e1 e2
  simp only [w_fn, w_ok, w_sSeq, w_sIf, w_sRet, w_sPar2, w_sPar4, w_sNil, w_sNever, w_sExpr, w_sSet, w_sPut, w_sAug, w_sAugS, w_sFor, w_e1, w_e2, w_eF, w_eM, w_cons, w_nil, w_var, w_c, w_tup, w_lst, w_d0, w_and, w_or, w_not, w_if, w_ch, w_ch3, w_sl, w_pOf, w_pNo, w_iOf, w_iEnum, w_iRng, w_lc, v_add, v_iadd, v_addS, v_addT, v_addL, v_sub, v_mul, v_mulT, v_div, v_mod, v_pow, v_neg, v_cmp, v_eq, v_eqS, v_eqB, v_ne, v_notIn, v_isN, v_notN, v_inS, v_inI, v_ix, v_ixL, v_sl, v_slL, v_on1, v_on2, v_abs, v_max2, v_min2, v_len, v_lenR, v_lenL, v_list, v_listR, v_listL, v_tuple, v_tupleL, v_onIs, v_isL, v_append, v_popAt, v_putL, v_it, v_itR, v_itL, v_noRoT, v_noRoL, v_tgN, v_tgT, v_tgCons, v_tgNil, v_eYes, v_okg, v_okg1, List.length_cons, List.length_nil, List.map_cons, List.map_nil, List.replicate, List.cons_append, List.nil_append, List.getElem?_cons_zero, List.getElem?_cons_succ, Option.some.injEq, exists_eq_left', exists_eq_left, List.set_cons_zero, List.set_cons_succ, D.bl.injEq, D.int.injEq, D.str.injEq, D.tup.injEq, D.loc.injEq, decide_eq_true_eq, Bool.not_eq_true', decide_eq_false_iff_not, true_and, and_true, Ob.lst.injEq, Nat.reduceAdd, Nat.reduceSub, ix_0, ix_1, ix_2, upTo_0, ix30, ix31, ix32, List.set_set, cut_1, look_new, set_new, wipeD, List.drop_succ_cons, List.drop_zero, inFlat, List.all_cons, List.all_nil, Bool.and_self, Bool.and_true, reduceIte, List.mem_cons, List.not_mem_nil, or_false, false_or, or_true, true_or, reduceCtorEq, Int.reduceEq, Int.reduceLE, Int.reduceLT, Int.cast_ofNat_Int, Int.natCast_zero, Int.natCast_one, Int.natCast_add, not_true_eq_false, not_false_eq_true, decide_true, decide_false, Bool.false_eq_true, if_true, if_false, Bool.not_true, Bool.not_false, Int.reduceNeg, Int.reduceSub, Int.reduceAdd, nats, List.length_map]
  rw [if_neg (by omega)]
  trivial
theorem period_ok {w : Wo} {ts : List Nat} {fw ft fn : Fn} (hw : WalkOk fw w ts) (ht : NeedT ft w ts) (hn : NeedW fn w) {S : Store} :
    Ok (mkFn 2 4 (p_period fw ft fn) [w.enc, nats ts] S) fun v S' => ∃ k L, Lasso w ts k L ∧ v = .tup [.int (k : Nat), .int ((L - k : Nat) : Int)] ∧ Gr S S' := by
  simp only [p_period, w_fn, w_ok, w_sSeq, w_sIf, w_sRet, w_sPar2, w_sPar4, w_sNil, w_sNever, w_sExpr, w_sSet, w_sPut, w_sAug, w_sAugS, w_sFor, w_e1, w_e2, w_eF, w_eM, w_cons, w_nil, w_var, w_c, w_tup, w_lst, w_d0, w_and, w_or, w_not, w_if, w_ch, w_ch3, w_sl, w_pOf, w_pNo, w_iOf, w_iEnum, w_iRng, w_lc, v_add, v_iadd, v_addS, v_addT, v_addL, v_sub, v_mul, v_mulT, v_div, v_mod, v_pow, v_neg, v_cmp, v_eq, v_eqS, v_eqB, v_ne, v_notIn, v_isN, v_notN, v_inS, v_inI, v_ix, v_ixL, v_sl, v_slL, v_on1, v_on2, v_abs, v_max2, v_min2, v_len, v_lenR, v_lenL, v_list, v_listR, v_listL, v_tuple, v_tupleL, v_onIs, v_isL, v_append, v_popAt, v_putL, v_it, v_itR, v_itL, v_noRoT, v_noRoL, v_tgN, v_tgT, v_tgCons, v_tgNil, v_eYes, v_okg, v_okg1, List.length_cons, List.length_nil, List.map_cons, List.map_nil, List.replicate, List.cons_append, List.nil_append, List.getElem?_cons_zero, List.getElem?_cons_succ, Option.some.injEq, exists_eq_left', exists_eq_left, List.set_cons_zero, List.set_cons_succ, D.bl.injEq, D.int.injEq, D.str.injEq, D.tup.injEq, D.loc.injEq, decide_eq_true_eq, Bool.not_eq_true', decide_eq_false_iff_not, true_and, and_true, Ob.lst.injEq, Nat.reduceAdd, Nat.reduceSub, ix_0, ix_1, ix_2, upTo_0, ix30, ix31, ix32, List.set_set, cut_1, look_new, set_new, wipeD, List.drop_succ_cons, List.drop_zero, inFlat, List.all_cons, List.all_nil, Bool.and_self, Bool.and_true, reduceIte, List.mem_cons, List.not_mem_nil, or_false, false_or, or_true, true_or, reduceCtorEq, Int.reduceEq, Int.reduceLE, Int.reduceLT, Int.cast_ofNat_Int, Int.natCast_zero, Int.natCast_one, Int.natCast_add, not_true_eq_false, not_false_eq_true, decide_true, decide_false, Bool.false_eq_true, if_true, if_false, Bool.not_true, Bool.not_false, Int.reduceNeg, Int.reduceSub, Int.reduceAdd]
  refine (hn S).mono fun v S1 ⟨e1, g1⟩ => ?_
  subst e1
  refine (ht S1).mono fun v S2 ⟨e1, e2⟩ => ?_
  subst e1 e2
  refine (hw S2).mono fun v S3 ⟨l, k, L, e1, la, hl, g3⟩ => ?_
  subst e1
  simp only [w_fn, w_ok, w_sSeq, w_sIf, w_sRet, w_sPar2, w_sPar4, w_sNil, w_sNever, w_sExpr, w_sSet, w_sPut, w_sAug, w_sAugS, w_sFor, w_e1, w_e2, w_eF, w_eM, w_cons, w_nil, w_var, w_c, w_tup, w_lst, w_d0, w_and, w_or, w_not, w_if, w_ch, w_ch3, w_sl, w_pOf, w_pNo, w_iOf, w_iEnum, w_iRng, w_lc, v_add, v_iadd, v_addS, v_addT, v_addL, v_sub, v_mul, v_mulT, v_div, v_mod, v_pow, v_neg, v_cmp, v_eq, v_eqS, v_eqB, v_ne, v_notIn, v_isN, v_notN, v_inS, v_inI, v_ix, v_ixL, v_sl, v_slL, v_on1, v_on2, v_abs, v_max2, v_min2, v_len, v_lenR, v_lenL, v_list, v_listR, v_listL, v_tuple, v_tupleL, v_onIs, v_isL, v_append, v_popAt, v_putL, v_it, v_itR, v_itL, v_noRoT, v_noRoL, v_tgN, v_tgT, v_tgCons, v_tgNil, v_eYes, v_okg, v_okg1, List.length_cons, List.length_nil, List.map_cons, List.map_nil, List.replicate, List.cons_append, List.nil_append, List.getElem?_cons_zero, List.getElem?_cons_succ, Option.some.injEq, exists_eq_left', exists_eq_left, List.set_cons_zero, List.set_cons_succ, D.bl.injEq, D.int.injEq, D.str.injEq, D.tup.injEq, D.loc.injEq, decide_eq_true_eq, Bool.not_eq_true', decide_eq_false_iff_not, true_and, and_true, Ob.lst.injEq, Nat.reduceAdd, Nat.reduceSub, ix_0, ix_1, ix_2, upTo_0, ix30, ix31, ix32, List.set_set, cut_1, look_new, set_new, wipeD, List.drop_succ_cons, List.drop_zero, inFlat, List.all_cons, List.all_nil, Bool.and_self, Bool.and_true, reduceIte, List.mem_cons, List.not_mem_nil, or_false, false_or, or_true, true_or, reduceCtorEq, Int.reduceEq, Int.reduceLE, Int.reduceLT, Int.cast_ofNat_Int, Int.natCast_zero, Int.natCast_one, Int.natCast_add, not_true_eq_false, not_false_eq_true, decide_true, decide_false, Bool.false_eq_true, if_true, if_false, Bool.not_true, Bool.not_false, Int.reduceNeg, Int.reduceSub, Int.reduceAdd, hl]
  refine ⟨k, L, la, ?_, g1.trans g3⟩
  have := la.lt
  have e : (((rowsOf w ts L).length : Nat) : Int) - k = ((L - k : Nat) : Int) := by simp [rowsOf]; omega
  rw [e]
theorem rows_at {w : Wo} {ts : List Nat} {L i : Nat} (h : i < L) : L2.atI (rowsOf w ts L) (i : Int) = some (nums (Wn w ts i)) := by
  rw [ix_nat, rowsOf, List.getElem?_map, List.getElem?_range h]; rfl
theorem after_ok {w : Wo} {ts : List Nat} {fw ft fn : Fn} (hw : WalkOk fw w ts) (ht : NeedT ft w ts) (hn : NeedW fn w) {m : Nat} (hm : m ≤ 1000000000000) {S : Store} :
    Ok (mkFn 3 5 (p_after fw ft fn) [w.enc, nats ts, .int m] S) fun v S' => v = nums (Wn w ts m) ∧ Gr S S' := by
  simp only [p_after, w_fn, w_ok, w_sSeq, w_sIf, w_sRet, w_sPar2, w_sPar4, w_sNil, w_sNever, w_sExpr, w_sSet, w_sPut, w_sAug, w_sAugS, w_sFor, w_e1, w_e2, w_eF, w_eM, w_cons, w_nil, w_var, w_c, w_tup, w_lst, w_d0, w_and, w_or, w_not, w_if, w_ch, w_ch3, w_sl, w_pOf, w_pNo, w_iOf, w_iEnum, w_iRng, w_lc, v_add, v_iadd, v_addS, v_addT, v_addL, v_sub, v_mul, v_mulT, v_div, v_mod, v_pow, v_neg, v_cmp, v_eq, v_eqS, v_eqB, v_ne, v_notIn, v_isN, v_notN, v_inS, v_inI, v_ix, v_ixL, v_sl, v_slL, v_on1, v_on2, v_abs, v_max2, v_min2, v_len, v_lenR, v_lenL, v_list, v_listR, v_listL, v_tuple, v_tupleL, v_onIs, v_isL, v_append, v_popAt, v_putL, v_it, v_itR, v_itL, v_noRoT, v_noRoL, v_tgN, v_tgT, v_tgCons, v_tgNil, v_eYes, v_okg, v_okg1, List.length_cons, List.length_nil, List.map_cons, List.map_nil, List.replicate, List.cons_append, List.nil_append, List.getElem?_cons_zero, List.getElem?_cons_succ, Option.some.injEq, exists_eq_left', exists_eq_left, List.set_cons_zero, List.set_cons_succ, D.bl.injEq, D.int.injEq, D.str.injEq, D.tup.injEq, D.loc.injEq, decide_eq_true_eq, Bool.not_eq_true', decide_eq_false_iff_not, true_and, and_true, Ob.lst.injEq, Nat.reduceAdd, Nat.reduceSub, ix_0, ix_1, ix_2, upTo_0, ix30, ix31, ix32, List.set_set, cut_1, look_new, set_new, wipeD, List.drop_succ_cons, List.drop_zero, inFlat, List.all_cons, List.all_nil, Bool.and_self, Bool.and_true, reduceIte, List.mem_cons, List.not_mem_nil, or_false, false_or, or_true, true_or, reduceCtorEq, Int.reduceEq, Int.reduceLE, Int.reduceLT, Int.cast_ofNat_Int, Int.natCast_zero, Int.natCast_one, Int.natCast_add, not_true_eq_false, not_false_eq_true, decide_true, decide_false, Bool.false_eq_true, if_true, if_false, Bool.not_true, Bool.not_false, Int.reduceNeg, Int.reduceSub, Int.reduceAdd]
  refine (hn S).mono fun v S1 ⟨e1, g1⟩ => ?_
  subst e1
  refine (ht S1).mono fun v S2 ⟨e1, e2⟩ => ?_
  subst e1 e2
  rw [if_pos (by omega), if_neg (by omega)]
  refine (hw S2).mono fun v S3 ⟨l, k, L, e1, la, hl, g3⟩ => ?_
  subst e1
  have hlt := la.lt
  have hlen : (rowsOf w ts L).length = L := by simp [rowsOf]
  simp only [w_fn, w_ok, w_sSeq, w_sIf, w_sRet, w_sPar2, w_sPar4, w_sNil, w_sNever, w_sExpr, w_sSet, w_sPut, w_sAug, w_sAugS, w_sFor, w_e1, w_e2, w_eF, w_eM, w_cons, w_nil, w_var, w_c, w_tup, w_lst, w_d0, w_and, w_or, w_not, w_if, w_ch, w_ch3, w_sl, w_pOf, w_pNo, w_iOf, w_iEnum, w_iRng, w_lc, v_add, v_iadd, v_addS, v_addT, v_addL, v_sub, v_mul, v_mulT, v_div, v_mod, v_pow, v_neg, v_cmp, v_eq, v_eqS, v_eqB, v_ne, v_notIn, v_isN, v_notN, v_inS, v_inI, v_ix, v_ixL, v_sl, v_slL, v_on1, v_on2, v_abs, v_max2, v_min2, v_len, v_lenR, v_lenL, v_list, v_listR, v_listL, v_tuple, v_tupleL, v_onIs, v_isL, v_append, v_popAt, v_putL, v_it, v_itR, v_itL, v_noRoT, v_noRoL, v_tgN, v_tgT, v_tgCons, v_tgNil, v_eYes, v_okg, v_okg1, List.length_cons, List.length_nil, List.map_cons, List.map_nil, List.replicate, List.cons_append, List.nil_append, List.getElem?_cons_zero, List.getElem?_cons_succ, Option.some.injEq, exists_eq_left', exists_eq_left, List.set_cons_zero, List.set_cons_succ, D.bl.injEq, D.int.injEq, D.str.injEq, D.tup.injEq, D.loc.injEq, decide_eq_true_eq, Bool.not_eq_true', decide_eq_false_iff_not, true_and, and_true, Ob.lst.injEq, Nat.reduceAdd, Nat.reduceSub, ix_0, ix_1, ix_2, upTo_0, ix30, ix31, ix32, List.set_set, cut_1, look_new, set_new, wipeD, List.drop_succ_cons, List.drop_zero, inFlat, List.all_cons, List.all_nil, Bool.and_self, Bool.and_true, reduceIte, List.mem_cons, List.not_mem_nil, or_false, false_or, or_true, true_or, reduceCtorEq, Int.reduceEq, Int.reduceLE, Int.reduceLT, Int.cast_ofNat_Int, Int.natCast_zero, Int.natCast_one, Int.natCast_add, not_true_eq_false, not_false_eq_true, decide_true, decide_false, Bool.false_eq_true, if_true, if_false, Bool.not_true, Bool.not_false, Int.reduceNeg, Int.reduceSub, Int.reduceAdd, hl, hlen]
  by_cases h : m < L
  · rw [if_pos (by omega), rows_at h]
    exact ⟨_, rfl, rfl, g1.trans g3⟩
  · rw [if_neg (by omega)]
    have e : (k : Int) + ((m : Int) - k) % ((L : Int) - k) = ((k + (m - k) % (L - k) : Nat) : Int) := by
      rw [show (m : Int) - k = ((m - k : Nat) : Int) by omega, show (L : Int) - k = ((L - k : Nat) : Int) by omega]
      simp
    have hb : k + (m - k) % (L - k) < L := by
      have := Nat.mod_lt (m - k) (show 0 < L - k by omega)
      omega
    refine ⟨by omega, _, by rw [e]; exact rows_at hb, ?_, g1.trans g3⟩
    have := la.far (m := m) (by omega)
    simp only [Xn, Prod.mk.injEq] at this
    rw [this.1]
/-! ### where they come to rest -/
/-- from k on nothing changes -/
def Con (w : Wo) (ts : List Nat) (k : Nat) : Prop := ∀ i, k ≤ i → Wn w ts i = Wn w ts k
def RestD (w : Wo) (ts : List Nat) (v : D) : Prop := (v = .non ∧ ∀ k, ¬ Con w ts k) ∨ ∃ k, v = .tup [.int (k : Nat), nums (Wn w ts k)] ∧ Con w ts k ∧ ∀ j, j < k → ¬ Con w ts j
theorem Lasso.con {w : Wo} {ts : List Nat} {f L : Nat} (l : Lasso w ts f L) : (∀ i, f ≤ i → i < L → Wn w ts i = Wn w ts f) ↔ Con w ts f := by
  refine ⟨fun h i hi => ?_, fun h i hi _ => h i hi⟩
  have := l.far hi
  have hlt := l.lt
  simp only [Xn, Prod.mk.injEq] at this
  rw [← this.1]
  exact h _ (by omega) (by have := Nat.mod_lt (i - f) (show 0 < L - f by omega); omega)
theorem Lasso.none {w : Wo} {ts : List Nat} {f L : Nat} (l : Lasso w ts f L) (h : ¬ Con w ts f) (k : Nat) : ¬ Con w ts k := by
  intro c
  refine h fun i hi => ?_
  have hlt := l.lt
  have a1 := l.mul hi k
  have a2 := l.mul (Nat.le_refl f) k
  simp only [Xn, Prod.mk.injEq] at a1 a2
  have hk : k ≤ k * (L - f) := Nat.le_mul_of_pos_right k (by omega)
  rw [← a1.1, ← a2.1, c _ (by omega), c (f + k * (L - f)) (by omega)]
theorem pl_nums {a : List Int} : pl 8 (nums a) = true := by
  simp [pl, nums]
theorem v_eqN {a b : List Int} {S : Store} {Q : D → Store → Prop} : Ok (oEq (nums a) (nums b) S) Q = Q (.bl (decide (a = b))) S := by
  rw [v_eqP pl_nums pl_nums]
  have : (nums a = nums b) = (a = b) := propext ⟨nums_inj, fun h => by rw [h]⟩
  simp only [this]
theorem rests_ok {w : Wo} {ts : List Nat} {fw ft fn : Fn} (hw : WalkOk fw w ts) (ht : NeedT ft w ts) (hn : NeedW fn w) (hL : ∀ k L, Lasso w ts k L → L < NW) {S : Store} :
    Ok (mkFn 2 6 (p_rests fw ft fn) [w.enc, nats ts] S) fun v S' => RestD w ts v ∧ Gr S S' := by
  simp only [p_rests, w_fn, w_ok, w_sSeq, w_sIf, w_sRet, w_sPar2, w_sPar4, w_sNil, w_sNever, w_sExpr, w_sSet, w_sPut, w_sAug, w_sAugS, w_sFor, w_e1, w_e2, w_eF, w_eM, w_cons, w_nil, w_var, w_c, w_tup, w_lst, w_d0, w_and, w_or, w_not, w_if, w_ch, w_ch3, w_sl, w_pOf, w_pNo, w_iOf, w_iEnum, w_iRng, w_lc, v_add, v_iadd, v_addS, v_addT, v_addL, v_sub, v_mul, v_mulT, v_div, v_mod, v_pow, v_neg, v_cmp, v_eq, v_eqS, v_eqB, v_ne, v_notIn, v_isN, v_notN, v_inS, v_inI, v_ix, v_ixL, v_sl, v_slL, v_on1, v_on2, v_abs, v_max2, v_min2, v_len, v_lenR, v_lenL, v_list, v_listR, v_listL, v_tuple, v_tupleL, v_onIs, v_isL, v_append, v_popAt, v_putL, v_it, v_itR, v_itL, v_noRoT, v_noRoL, v_tgN, v_tgT, v_tgCons, v_tgNil, v_eYes, v_okg, v_okg1, List.length_cons, List.length_nil, List.map_cons, List.map_nil, List.replicate, List.cons_append, List.nil_append, List.getElem?_cons_zero, List.getElem?_cons_succ, Option.some.injEq, exists_eq_left', exists_eq_left, List.set_cons_zero, List.set_cons_succ, D.bl.injEq, D.int.injEq, D.str.injEq, D.tup.injEq, D.loc.injEq, decide_eq_true_eq, Bool.not_eq_true', decide_eq_false_iff_not, true_and, and_true, Ob.lst.injEq, Nat.reduceAdd, Nat.reduceSub, ix_0, ix_1, ix_2, upTo_0, ix30, ix31, ix32, List.set_set, cut_1, look_new, set_new, wipeD, List.drop_succ_cons, List.drop_zero, inFlat, List.all_cons, List.all_nil, Bool.and_self, Bool.and_true, reduceIte, List.mem_cons, List.not_mem_nil, or_false, false_or, or_true, true_or, reduceCtorEq, Int.reduceEq, Int.reduceLE, Int.reduceLT, Int.cast_ofNat_Int, Int.natCast_zero, Int.natCast_one, Int.natCast_add, not_true_eq_false, not_false_eq_true, decide_true, decide_false, Bool.false_eq_true, if_true, if_false, Bool.not_true, Bool.not_false, Int.reduceNeg, Int.reduceSub, Int.reduceAdd]
  refine (hn S).mono fun v S1 ⟨e1, g1⟩ => ?_
  subst e1
  refine (ht S1).mono fun v S2 ⟨e1, e2⟩ => ?_
  subst e1 e2
  refine (hw S2).mono fun v S3 ⟨l, k, L, e1, la, hl, g3⟩ => ?_
  subst e1
  have hlt := la.lt
  have hNW := hL k L la
  have hlL : l < S3.length := (List.getElem?_eq_some_iff.mp hl).1
  simp only [w_fn, w_ok, w_sSeq, w_sIf, w_sRet, w_sPar2, w_sPar4, w_sNil, w_sNever, w_sExpr, w_sSet, w_sPut, w_sAug, w_sAugS, w_sFor, w_e1, w_e2, w_eF, w_eM, w_cons, w_nil, w_var, w_c, w_tup, w_lst, w_d0, w_and, w_or, w_not, w_if, w_ch, w_ch3, w_sl, w_pOf, w_pNo, w_iOf, w_iEnum, w_iRng, w_lc, v_add, v_iadd, v_addS, v_addT, v_addL, v_sub, v_mul, v_mulT, v_div, v_mod, v_pow, v_neg, v_cmp, v_eq, v_eqS, v_eqB, v_ne, v_notIn, v_isN, v_notN, v_inS, v_inI, v_ix, v_ixL, v_sl, v_slL, v_on1, v_on2, v_abs, v_max2, v_min2, v_len, v_lenR, v_lenL, v_list, v_listR, v_listL, v_tuple, v_tupleL, v_onIs, v_isL, v_append, v_popAt, v_putL, v_it, v_itR, v_itL, v_noRoT, v_noRoL, v_tgN, v_tgT, v_tgCons, v_tgNil, v_eYes, v_okg, v_okg1, List.length_cons, List.length_nil, List.map_cons, List.map_nil, List.replicate, List.cons_append, List.nil_append, List.getElem?_cons_zero, List.getElem?_cons_succ, Option.some.injEq, exists_eq_left', exists_eq_left, List.set_cons_zero, List.set_cons_succ, D.bl.injEq, D.int.injEq, D.str.injEq, D.tup.injEq, D.loc.injEq, decide_eq_true_eq, Bool.not_eq_true', decide_eq_false_iff_not, true_and, and_true, Ob.lst.injEq, Nat.reduceAdd, Nat.reduceSub, ix_0, ix_1, ix_2, upTo_0, ix30, ix31, ix32, List.set_set, cut_1, look_new, set_new, wipeD, List.drop_succ_cons, List.drop_zero, inFlat, List.all_cons, List.all_nil, Bool.and_self, Bool.and_true, reduceIte, List.mem_cons, List.not_mem_nil, or_false, false_or, or_true, true_or, reduceCtorEq, Int.reduceEq, Int.reduceLE, Int.reduceLT, Int.cast_ofNat_Int, Int.natCast_zero, Int.natCast_one, Int.natCast_add, not_true_eq_false, not_false_eq_true, decide_true, decide_false, Bool.false_eq_true, if_true, if_false, Bool.not_true, Bool.not_false, Int.reduceNeg, Int.reduceSub, Int.reduceAdd, hl, cut_nat]
  have hd : (rowsOf w ts L).drop k = (List.range' k (L - k)).map fun i => nums (Wn w ts i) := by
    rw [rowsOf, ← List.map_drop, List.range_eq_range', List.drop_range']
    simp
  rw [hd]
  refine lc_map (f := fun i => nums (Wn w ts i)) (r := fun i => .bl (!decide (Wn w ts i = Wn w ts k))) ?_ _ _ (fun i hi => ?_) ?_
  · rw [v_okg1]; exact look_new
  · rw [List.mem_range'_1] at hi
    have hl' : ∀ o, (S3 ++ [o])[l]? = some (.lst (rowsOf w ts L)) := fun o => (Gr.push).look hl
    refine ⟨_, rfl, rfl, ?_⟩
    simp only [w_fn, w_ok, w_sSeq, w_sIf, w_sRet, w_sPar2, w_sPar4, w_sNil, w_sNever, w_sExpr, w_sSet, w_sPut, w_sAug, w_sAugS, w_sFor, w_e1, w_e2, w_eF, w_eM, w_cons, w_nil, w_var, w_c, w_tup, w_lst, w_d0, w_and, w_or, w_not, w_if, w_ch, w_ch3, w_sl, w_pOf, w_pNo, w_iOf, w_iEnum, w_iRng, w_lc, v_add, v_iadd, v_addS, v_addT, v_addL, v_sub, v_mul, v_mulT, v_div, v_mod, v_pow, v_neg, v_cmp, v_eq, v_eqS, v_eqB, v_ne, v_notIn, v_isN, v_notN, v_inS, v_inI, v_ix, v_ixL, v_sl, v_slL, v_on1, v_on2, v_abs, v_max2, v_min2, v_len, v_lenR, v_lenL, v_list, v_listR, v_listL, v_tuple, v_tupleL, v_onIs, v_isL, v_append, v_popAt, v_putL, v_it, v_itR, v_itL, v_noRoT, v_noRoL, v_tgN, v_tgT, v_tgCons, v_tgNil, v_eYes, v_okg, v_okg1, List.length_cons, List.length_nil, List.map_cons, List.map_nil, List.replicate, List.cons_append, List.nil_append, List.getElem?_cons_zero, List.getElem?_cons_succ, Option.some.injEq, exists_eq_left', exists_eq_left, List.set_cons_zero, List.set_cons_succ, D.bl.injEq, D.int.injEq, D.str.injEq, D.tup.injEq, D.loc.injEq, decide_eq_true_eq, Bool.not_eq_true', decide_eq_false_iff_not, true_and, and_true, Ob.lst.injEq, Nat.reduceAdd, Nat.reduceSub, ix_0, ix_1, ix_2, upTo_0, ix30, ix31, ix32, List.set_set, cut_1, look_new, set_new, wipeD, List.drop_succ_cons, List.drop_zero, inFlat, List.all_cons, List.all_nil, Bool.and_self, Bool.and_true, reduceIte, List.mem_cons, List.not_mem_nil, or_false, false_or, or_true, true_or, reduceCtorEq, Int.reduceEq, Int.reduceLE, Int.reduceLT, Int.cast_ofNat_Int, Int.natCast_zero, Int.natCast_one, Int.natCast_add, not_true_eq_false, not_false_eq_true, decide_true, decide_false, Bool.false_eq_true, if_true, if_false, Bool.not_true, Bool.not_false, Int.reduceNeg, Int.reduceSub, Int.reduceAdd, hl', rows_at hlt, v_eqN]
  · have hm : (List.range' k (L - k)).map (fun i => D.bl (!decide (Wn w ts i = Wn w ts k))) = ((List.range' k (L - k)).map fun i => !decide (Wn w ts i = Wn w ts k)).map .bl := by simp
    have hl2 : ∀ T, (S3 ++ T)[l]? = some (.lst (rowsOf w ts L)) := fun T => (Gr.push).look hl
    rw [hm, v_onBs look_new]
    refine ⟨_, rfl, ?_⟩
    by_cases hc : Con w ts k
    · rw [if_neg]
      · refine w_sWh (n := k) (fun m σ S' => S3 ++ [Ob.lst (List.map (fun i => nums (Wn w ts i)) (List.range' k (L - k)))] ++ [Ob.lst (((List.range' k (L - k)).map fun i => !decide (Wn w ts i = Wn w ts k)).map .bl)] = S' ∧ m ≤ k ∧ (∀ j, m ≤ j → j ≤ k → Wn w ts j = Wn w ts k) ∧ σ = [some w.enc, some (nats ts), some (.loc l), some (.int (k : Nat)), some (.int (m : Nat)), none])
          ⟨rfl, Nat.le_refl _, fun j h1 h2 => by rw [show j = k by omega], rfl⟩ (by omega) ?_
        rintro m σ S' ⟨rfl, hmk, hall, rfl⟩
        have hg : Gr S (S3 ++ [Ob.lst (List.map (fun i => nums (Wn w ts i)) (List.range' k (L - k)))] ++ [Ob.lst (((List.range' k (L - k)).map fun i => !decide (Wn w ts i = Wn w ts k)).map .bl)]) := (g1.trans g3).more.more
        have hl3 := (Gr.push (T := [Ob.lst (((List.range' k (L - k)).map fun i => !decide (Wn w ts i = Wn w ts k)).map .bl)])).look (hl2 [Ob.lst (List.map (fun i => nums (Wn w ts i)) (List.range' k (L - k)))])
        simp only [w_fn, w_ok, w_sSeq, w_sIf, w_sRet, w_sPar2, w_sPar4, w_sNil, w_sNever, w_sExpr, w_sSet, w_sPut, w_sAug, w_sAugS, w_sFor, w_e1, w_e2, w_eF, w_eM, w_cons, w_nil, w_var, w_c, w_tup, w_lst, w_d0, w_and, w_or, w_not, w_if, w_ch, w_ch3, w_sl, w_pOf, w_pNo, w_iOf, w_iEnum, w_iRng, w_lc, v_add, v_iadd, v_addS, v_addT, v_addL, v_sub, v_mul, v_mulT, v_div, v_mod, v_pow, v_neg, v_cmp, v_eq, v_eqS, v_eqB, v_ne, v_notIn, v_isN, v_notN, v_inS, v_inI, v_ix, v_ixL, v_sl, v_slL, v_on1, v_on2, v_abs, v_max2, v_min2, v_len, v_lenR, v_lenL, v_list, v_listR, v_listL, v_tuple, v_tupleL, v_onIs, v_isL, v_append, v_popAt, v_putL, v_it, v_itR, v_itL, v_noRoT, v_noRoL, v_tgN, v_tgT, v_tgCons, v_tgNil, v_eYes, v_okg, v_okg1, List.length_cons, List.length_nil, List.map_cons, List.map_nil, List.replicate, List.cons_append, List.nil_append, List.getElem?_cons_zero, List.getElem?_cons_succ, Option.some.injEq, exists_eq_left', exists_eq_left, List.set_cons_zero, List.set_cons_succ, D.bl.injEq, D.int.injEq, D.str.injEq, D.tup.injEq, D.loc.injEq, decide_eq_true_eq, Bool.not_eq_true', decide_eq_false_iff_not, true_and, and_true, Ob.lst.injEq, Nat.reduceAdd, Nat.reduceSub, ix_0, ix_1, ix_2, upTo_0, ix30, ix31, ix32, List.set_set, cut_1, look_new, set_new, wipeD, List.drop_succ_cons, List.drop_zero, inFlat, List.all_cons, List.all_nil, Bool.and_self, Bool.and_true, reduceIte, List.mem_cons, List.not_mem_nil, or_false, false_or, or_true, true_or, reduceCtorEq, Int.reduceEq, Int.reduceLE, Int.reduceLT, Int.cast_ofNat_Int, Int.natCast_zero, Int.natCast_one, Int.natCast_add, not_true_eq_false, not_false_eq_true, decide_true, decide_false, Bool.false_eq_true, if_true, if_false, Bool.not_true, Bool.not_false, Int.reduceNeg, Int.reduceSub, Int.reduceAdd, hl3, rows_at hlt]
        have fin : ∀ hq : m = 0 ∨ Wn w ts (m - 1) ≠ Wn w ts k, RestD w ts (.tup [.int (m : Nat), nums (Wn w ts k)]) := fun hq => by
          have e := hall m (Nat.le_refl _) hmk
          refine .inr ⟨m, by rw [e], fun i hi => ?_, fun j hj c => ?_⟩
          · rw [e]
            by_cases h : i ≤ k
            · exact hall i hi h
            · exact hc i (by omega)
          · rcases hq with hq | hq
            · omega
            · exact hq ((c (m - 1) (by omega)).trans (c k (by omega)).symm)
        by_cases h0 : m = 0
        · subst h0
          rw [if_neg (by omega)]
          exact .inr ⟨fin (.inl rfl), hg⟩
        · rw [if_pos (by omega), show (m : Int) - 1 = ((m - 1 : Nat) : Int) by omega, rows_at (show m - 1 < L by omega)]
          simp only [w_fn, w_ok, w_sSeq, w_sIf, w_sRet, w_sPar2, w_sPar4, w_sNil, w_sNever, w_sExpr, w_sSet, w_sPut, w_sAug, w_sAugS, w_sFor, w_e1, w_e2, w_eF, w_eM, w_cons, w_nil, w_var, w_c, w_tup, w_lst, w_d0, w_and, w_or, w_not, w_if, w_ch, w_ch3, w_sl, w_pOf, w_pNo, w_iOf, w_iEnum, w_iRng, w_lc, v_add, v_iadd, v_addS, v_addT, v_addL, v_sub, v_mul, v_mulT, v_div, v_mod, v_pow, v_neg, v_cmp, v_eq, v_eqS, v_eqB, v_ne, v_notIn, v_isN, v_notN, v_inS, v_inI, v_ix, v_ixL, v_sl, v_slL, v_on1, v_on2, v_abs, v_max2, v_min2, v_len, v_lenR, v_lenL, v_list, v_listR, v_listL, v_tuple, v_tupleL, v_onIs, v_isL, v_append, v_popAt, v_putL, v_it, v_itR, v_itL, v_noRoT, v_noRoL, v_tgN, v_tgT, v_tgCons, v_tgNil, v_eYes, v_okg, v_okg1, List.length_cons, List.length_nil, List.map_cons, List.map_nil, List.replicate, List.cons_append, List.nil_append, List.getElem?_cons_zero, List.getElem?_cons_succ, Option.some.injEq, exists_eq_left', exists_eq_left, List.set_cons_zero, List.set_cons_succ, D.bl.injEq, D.int.injEq, D.str.injEq, D.tup.injEq, D.loc.injEq, decide_eq_true_eq, Bool.not_eq_true', decide_eq_false_iff_not, true_and, and_true, Ob.lst.injEq, Nat.reduceAdd, Nat.reduceSub, ix_0, ix_1, ix_2, upTo_0, ix30, ix31, ix32, List.set_set, cut_1, look_new, set_new, wipeD, List.drop_succ_cons, List.drop_zero, inFlat, List.all_cons, List.all_nil, Bool.and_self, Bool.and_true, reduceIte, List.mem_cons, List.not_mem_nil, or_false, false_or, or_true, true_or, reduceCtorEq, Int.reduceEq, Int.reduceLE, Int.reduceLT, Int.cast_ofNat_Int, Int.natCast_zero, Int.natCast_one, Int.natCast_add, not_true_eq_false, not_false_eq_true, decide_true, decide_false, Bool.false_eq_true, if_true, if_false, Bool.not_true, Bool.not_false, Int.reduceNeg, Int.reduceSub, Int.reduceAdd, v_eqN, hl3, rows_at hlt]
          by_cases h1 : Wn w ts (m - 1) = Wn w ts k
          · refine .inl ⟨h1, m - 1, by omega, by omega, fun j hj1 hj2 => ?_, rfl⟩
            by_cases h : j = m - 1
            · rw [h]; exact h1
            · exact hall j (by omega) hj2
          · exact .inr ⟨h1, fin (.inr h1), hg⟩
      · intro z
        simp only [List.any_map, List.any_eq_true] at z
        obtain ⟨i, hi, z⟩ := z
        rw [List.mem_range'_1] at hi
        simp at z
        exact z (hc i (by omega))
    · rw [if_pos]
      · exact ⟨.inl ⟨rfl, la.none hc⟩, (g1.trans g3).more.more⟩
      · have : ¬ ∀ i, k ≤ i → i < L → Wn w ts i = Wn w ts k := fun h => hc (la.con.mp h)
        simp only [List.any_map, List.any_eq_true]
        by_cases z : ∃ i, k ≤ i ∧ i < L ∧ Wn w ts i ≠ Wn w ts k
        · obtain ⟨i, h1, h2, h3⟩ := z
          exact ⟨i, by rw [List.mem_range'_1]; omega, by simp [h3]⟩
        · exact absurd (fun i h1 h2 => Classical.byContradiction fun h3 => z ⟨i, h1, h2, h3⟩) this
end Mn
/-! What the laws draw: the hidden state, a number, a world, turns. -/
namespace Mn
open PySem
/-- the laws' state: h [mixed, cells, at], c the cells -/
structure HS (h c : Nat) (S : Store) : Prop where
  ne : h ≠ c
  hh : ∃ m a : Int, S[h]? = some (.lst [.int m, .loc c, .int a]) ∧ 0 ≤ a
  cc : ∃ ns : List Int, S[c]? = some (.lst (ns.map .int)) ∧ ns.length ≤ 1000
/-- elsewhere nothing is changed -/
structure Up (h c : Nat) (S S' : Store) : Prop where
  len : S.length ≤ S'.length
  at_ : ∀ l o, S[l]? = some o → l ≠ h → l ≠ c → S'[l]? = some o
theorem Up.refl {h c : Nat} {S : Store} : Up h c S S := ⟨Nat.le_refl _, fun _ _ e _ _ => e⟩
theorem Up.trans {h c : Nat} {S1 S2 S3 : Store} (a : Up h c S1 S2) (b : Up h c S2 S3) : Up h c S1 S3 := ⟨Nat.le_trans a.len b.len, fun l o e n1 n2 => b.at_ l o (a.at_ l o e n1 n2) n1 n2⟩
theorem Up.of_gr {h c : Nat} {S S' : Store} (a : Gr S S') : Up h c S S' := ⟨a.len, fun l o e _ _ => a.look e⟩
theorem Up.push {h c : Nat} {S : Store} {T : Store} : Up h c S (S ++ T) := .of_gr .push
theorem Up.set {h c : Nat} {S S' : Store} {l : Nat} {o : Ob} (a : Up h c S S') (hl : S.length ≤ l ∨ l = h ∨ l = c) : Up h c S (S'.set l o) := by
  refine ⟨by rw [List.length_set]; exact a.len, fun k u e n1 n2 => ?_⟩
  have hk := (List.getElem?_eq_some_iff.mp e).1
  rw [List.getElem?_set_ne (by omega)]
  exact a.at_ k u e n1 n2
theorem HS.lt {h c : Nat} {S : Store} (x : HS h c S) : h < S.length ∧ c < S.length := by
  obtain ⟨_, ⟨_, _, e, _⟩, ⟨_, e', _⟩⟩ := x
  exact ⟨(List.getElem?_eq_some_iff.mp e).1, (List.getElem?_eq_some_iff.mp e').1⟩
theorem HS.gr {h c : Nat} {S S' : Store} (x : HS h c S) (g : Gr S S') : HS h c S' := by
  obtain ⟨n, ⟨m, a, e, ha⟩, ⟨ns, e', hn⟩⟩ := x
  exact ⟨n, ⟨m, a, g.look e, ha⟩, ⟨ns, g.look e', hn⟩⟩
theorem HS.push {h c : Nat} {S : Store} {T : Store} (x : HS h c S) : HS h c (S ++ T) := x.gr .push
theorem HS.set {h c : Nat} {S : Store} {l : Nat} {o : Ob} (x : HS h c S) (n1 : l ≠ h) (n2 : l ≠ c) : HS h c (S.set l o) := by
  obtain ⟨n, ⟨m, a, e, ha⟩, ⟨ns, e', hn⟩⟩ := x
  exact ⟨n, ⟨m, a, by rw [List.getElem?_set_ne n1]; exact e, ha⟩, ⟨ns, by rw [List.getElem?_set_ne n2]; exact e', hn⟩⟩
theorem law_mix_ok {ns : List Int} (hn : ns.length ≤ 1000) {seed : Int} {S : Store} : Ok (mkFn 2 4 p_law_mix [.ro (ns.map .int), .int seed] S) fun v S' => ∃ h c, v = .loc h ∧ HS h c S' := by
  simp only [p_law_mix, w_fn, w_ok, w_sSeq, w_sIf, w_sRet, w_sPar2, w_sPar4, w_sNil, w_sNever, w_sExpr, w_sSet, w_sPut, w_sAug, w_sAugS, w_sFor, w_e1, w_e2, w_eF, w_eM, w_cons, w_nil, w_var, w_c, w_tup, w_lst, w_d0, w_and, w_or, w_not, w_if, w_ch, w_ch3, w_sl, w_pOf, w_pNo, w_iOf, w_iEnum, w_iRng, w_lc, v_add, v_iadd, v_addS, v_addT, v_addL, v_sub, v_mul, v_mulT, v_div, v_mod, v_pow, v_neg, v_cmp, v_eq, v_eqS, v_eqB, v_ne, v_notIn, v_isN, v_notN, v_inS, v_inI, v_ix, v_ixL, v_sl, v_slL, v_on1, v_on2, v_abs, v_max2, v_min2, v_len, v_lenR, v_lenL, v_list, v_listR, v_listL, v_tuple, v_tupleL, v_onIs, v_isL, v_append, v_popAt, v_putL, v_it, v_itR, v_itL, v_noRoT, v_noRoL, v_tgN, v_tgT, v_tgCons, v_tgNil, v_eYes, v_okg, v_okg1, List.length_cons, List.length_nil, List.map_cons, List.map_nil, List.replicate, List.cons_append, List.nil_append, List.getElem?_cons_zero, List.getElem?_cons_succ, Option.some.injEq, exists_eq_left', exists_eq_left, List.set_cons_zero, List.set_cons_succ, D.bl.injEq, D.int.injEq, D.str.injEq, D.tup.injEq, D.loc.injEq, decide_eq_true_eq, Bool.not_eq_true', decide_eq_false_iff_not, true_and, and_true, Ob.lst.injEq, Nat.reduceAdd, Nat.reduceSub, ix_0, ix_1, ix_2, upTo_0, ix30, ix31, ix32, List.set_set, cut_1, look_new, set_new, wipeD, List.drop_succ_cons, List.drop_zero, inFlat, List.all_cons, List.all_nil, Bool.and_self, Bool.and_true, reduceIte, List.mem_cons, List.not_mem_nil, or_false, false_or, or_true, true_or, reduceCtorEq, Int.reduceEq, Int.reduceLE, Int.reduceLT, Int.cast_ofNat_Int, Int.natCast_zero, Int.natCast_one, Int.natCast_add, not_true_eq_false, not_false_eq_true, decide_true, decide_false, Bool.false_eq_true, if_true, if_false, Bool.not_true, Bool.not_false, Int.reduceNeg, Int.reduceSub, Int.reduceAdd]
  refine for_ok (fun ds σ S' => S' = S ∧ ∃ (ms : List Int) (m : Int) (x3 : Option D), ds = ms.map .int ∧ σ = [some (.ro (ns.map .int)), some (.int seed), some (.int m), x3]) _ _ _ ⟨rfl, ns, seed, none, rfl, rfl⟩ ?_ ?_
  · rintro d ds σ S' ⟨rfl, ms, m, x3, e, rfl⟩
    cases ms with
    | nil => cases e
    | cons x ms =>
      simp only [List.map_cons, List.cons.injEq] at e
      obtain ⟨rfl, rfl⟩ := e
      simp only [w_fn, w_ok, w_sSeq, w_sIf, w_sRet, w_sPar2, w_sPar4, w_sNil, w_sNever, w_sExpr, w_sSet, w_sPut, w_sAug, w_sAugS, w_sFor, w_e1, w_e2, w_eF, w_eM, w_cons, w_nil, w_var, w_c, w_tup, w_lst, w_d0, w_and, w_or, w_not, w_if, w_ch, w_ch3, w_sl, w_pOf, w_pNo, w_iOf, w_iEnum, w_iRng, w_lc, v_add, v_iadd, v_addS, v_addT, v_addL, v_sub, v_mul, v_mulT, v_div, v_mod, v_pow, v_neg, v_cmp, v_eq, v_eqS, v_eqB, v_ne, v_notIn, v_isN, v_notN, v_inS, v_inI, v_ix, v_ixL, v_sl, v_slL, v_on1, v_on2, v_abs, v_max2, v_min2, v_len, v_lenR, v_lenL, v_list, v_listR, v_listL, v_tuple, v_tupleL, v_onIs, v_isL, v_append, v_popAt, v_putL, v_it, v_itR, v_itL, v_noRoT, v_noRoL, v_tgN, v_tgT, v_tgCons, v_tgNil, v_eYes, v_okg, v_okg1, List.length_cons, List.length_nil, List.map_cons, List.map_nil, List.replicate, List.cons_append, List.nil_append, List.getElem?_cons_zero, List.getElem?_cons_succ, Option.some.injEq, exists_eq_left', exists_eq_left, List.set_cons_zero, List.set_cons_succ, D.bl.injEq, D.int.injEq, D.str.injEq, D.tup.injEq, D.loc.injEq, decide_eq_true_eq, Bool.not_eq_true', decide_eq_false_iff_not, true_and, and_true, Ob.lst.injEq, Nat.reduceAdd, Nat.reduceSub, ix_0, ix_1, ix_2, upTo_0, ix30, ix31, ix32, List.set_set, cut_1, look_new, set_new, wipeD, List.drop_succ_cons, List.drop_zero, inFlat, List.all_cons, List.all_nil, Bool.and_self, Bool.and_true, reduceIte, List.mem_cons, List.not_mem_nil, or_false, false_or, or_true, true_or, reduceCtorEq, Int.reduceEq, Int.reduceLE, Int.reduceLT, Int.cast_ofNat_Int, Int.natCast_zero, Int.natCast_one, Int.natCast_add, not_true_eq_false, not_false_eq_true, decide_true, decide_false, Bool.false_eq_true, if_true, if_false, Bool.not_true, Bool.not_false, Int.reduceNeg, Int.reduceSub, Int.reduceAdd]
      exact ⟨by simp only [mulOk, decide_eq_true_eq]; omega, ms, _, _, rfl, rfl⟩
  · rintro σ S' ⟨rfl, ms, m, x3, e, rfl⟩
    simp only [w_fn, w_ok, w_sSeq, w_sIf, w_sRet, w_sPar2, w_sPar4, w_sNil, w_sNever, w_sExpr, w_sSet, w_sPut, w_sAug, w_sAugS, w_sFor, w_e1, w_e2, w_eF, w_eM, w_cons, w_nil, w_var, w_c, w_tup, w_lst, w_d0, w_and, w_or, w_not, w_if, w_ch, w_ch3, w_sl, w_pOf, w_pNo, w_iOf, w_iEnum, w_iRng, w_lc, v_add, v_iadd, v_addS, v_addT, v_addL, v_sub, v_mul, v_mulT, v_div, v_mod, v_pow, v_neg, v_cmp, v_eq, v_eqS, v_eqB, v_ne, v_notIn, v_isN, v_notN, v_inS, v_inI, v_ix, v_ixL, v_sl, v_slL, v_on1, v_on2, v_abs, v_max2, v_min2, v_len, v_lenR, v_lenL, v_list, v_listR, v_listL, v_tuple, v_tupleL, v_onIs, v_isL, v_append, v_popAt, v_putL, v_it, v_itR, v_itL, v_noRoT, v_noRoL, v_tgN, v_tgT, v_tgCons, v_tgNil, v_eYes, v_okg, v_okg1, List.length_cons, List.length_nil, List.map_cons, List.map_nil, List.replicate, List.cons_append, List.nil_append, List.getElem?_cons_zero, List.getElem?_cons_succ, Option.some.injEq, exists_eq_left', exists_eq_left, List.set_cons_zero, List.set_cons_succ, D.bl.injEq, D.int.injEq, D.str.injEq, D.tup.injEq, D.loc.injEq, decide_eq_true_eq, Bool.not_eq_true', decide_eq_false_iff_not, true_and, and_true, Ob.lst.injEq, Nat.reduceAdd, Nat.reduceSub, ix_0, ix_1, ix_2, upTo_0, ix30, ix31, ix32, List.set_set, cut_1, look_new, set_new, wipeD, List.drop_succ_cons, List.drop_zero, inFlat, List.all_cons, List.all_nil, Bool.and_self, Bool.and_true, reduceIte, List.mem_cons, List.not_mem_nil, or_false, false_or, or_true, true_or, reduceCtorEq, Int.reduceEq, Int.reduceLE, Int.reduceLT, Int.cast_ofNat_Int, Int.natCast_zero, Int.natCast_one, Int.natCast_add, not_true_eq_false, not_false_eq_true, decide_true, decide_false, Bool.false_eq_true, if_true, if_false, Bool.not_true, Bool.not_false, Int.reduceNeg, Int.reduceSub, Int.reduceAdd]
    refine ⟨_, S'.length, rfl, ?_, ⟨m, 0, by simp, by omega⟩, ⟨ns, by simp, hn⟩⟩
    simp
def NextOk (f : Fn) : Prop := ∀ (h c : Nat) (many : Int) (S : Store), 1 ≤ many → many < 1073741824 → HS h c S → Ok (f [.loc h, .int many] S) fun v S' => ∃ r : Int, v = .int r ∧ (0 ≤ r ∧ r < many) ∧ HS h c S' ∧ Up h c S S'
theorem p18 : ((10 : Int) ^ Int.toNat 18) = 1000000000000000000 := by decide +kernel
theorem n10 : (Int.natAbs 10 < 2 ^ 64) = True := eq_true (by decide)
theorem law_next_ok : NextOk (mkFn 2 3 p_law_next) := by
  intro h c many S h1 h2 x
  obtain ⟨ne, ⟨m, a, eh, ha⟩, ⟨ns, ec, hn⟩⟩ := id x
  have g1 : ∀ T, (S ++ T)[h]? = some (.lst [.int m, .loc c, .int a]) := fun T => (Gr.push).look eh
  have g2 : ∀ T, (S ++ T)[c]? = some (.lst (ns.map .int)) := fun T => (Gr.push).look ec
  have := szl
  have hi : 0 ≤ a % (if (ns.length : Int) > 1 then (ns.length : Int) else 1) ∧ a % (if (ns.length : Int) > 1 then (ns.length : Int) else 1) < ns.length + 1 := by
    split
    · have := Int.emod_nonneg a (show (ns.length : Int) ≠ 0 by omega)
      have := Int.emod_lt_of_pos a (show 0 < (ns.length : Int) by omega)
      omega
    · omega
  have hj : a % (if (ns.length : Int) > 1 then (ns.length : Int) else 1) = ((a % (if (ns.length : Int) > 1 then (ns.length : Int) else 1)).toNat : Nat) := by omega
  generalize hjj : (a % (if (ns.length : Int) > 1 then (ns.length : Int) else 1)).toNat = j at hj
  have hjl : j < (ns ++ [0]).length := by simp; omega
  have hcell := wt_at hjl
  simp only [List.map_append, List.map_cons, List.map_nil] at hcell
  have hp : 0 < (if (ns.length : Int) > 1 then (ns.length : Int) else 1) := by split <;> omega
  simp only [p_law_next, w_fn, w_ok, w_sSeq, w_sIf, w_sRet, w_sPar2, w_sPar4, w_sNil, w_sNever, w_sExpr, w_sSet, w_sPut, w_sAug, w_sAugS, w_sFor, w_e1, w_e2, w_eF, w_eM, w_cons, w_nil, w_var, w_c, w_tup, w_lst, w_d0, w_and, w_or, w_not, w_if, w_ch, w_ch3, w_sl, w_pOf, w_pNo, w_iOf, w_iEnum, w_iRng, w_lc, v_add, v_iadd, v_addS, v_addT, v_addL, v_sub, v_mul, v_mulT, v_div, v_mod, v_pow, v_neg, v_cmp, v_eq, v_eqS, v_eqB, v_ne, v_notIn, v_isN, v_notN, v_inS, v_inI, v_ix, v_ixL, v_sl, v_slL, v_on1, v_on2, v_abs, v_max2, v_min2, v_len, v_lenR, v_lenL, v_list, v_listR, v_listL, v_tuple, v_tupleL, v_onIs, v_isL, v_append, v_popAt, v_putL, v_it, v_itR, v_itL, v_noRoT, v_noRoL, v_tgN, v_tgT, v_tgCons, v_tgNil, v_eYes, v_okg, v_okg1, List.length_cons, List.length_nil, List.map_cons, List.map_nil, List.replicate, List.cons_append, List.nil_append, List.getElem?_cons_zero, List.getElem?_cons_succ, Option.some.injEq, exists_eq_left', exists_eq_left, List.set_cons_zero, List.set_cons_succ, D.bl.injEq, D.int.injEq, D.str.injEq, D.tup.injEq, D.loc.injEq, decide_eq_true_eq, Bool.not_eq_true', decide_eq_false_iff_not, true_and, and_true, Ob.lst.injEq, Nat.reduceAdd, Nat.reduceSub, ix_0, ix_1, ix_2, upTo_0, ix30, ix31, ix32, List.set_set, cut_1, look_new, set_new, wipeD, List.drop_succ_cons, List.drop_zero, inFlat, List.all_cons, List.all_nil, Bool.and_self, Bool.and_true, reduceIte, List.mem_cons, List.not_mem_nil, or_false, false_or, or_true, true_or, reduceCtorEq, Int.reduceEq, Int.reduceLE, Int.reduceLT, Int.cast_ofNat_Int, Int.natCast_zero, Int.natCast_one, Int.natCast_add, not_true_eq_false, not_false_eq_true, decide_true, decide_false, Bool.false_eq_true, if_true, if_false, Bool.not_true, Bool.not_false, Int.reduceNeg, Int.reduceSub, Int.reduceAdd, eh, g2, g1, look_new, List.length_map, hj, hcell, p18, n10]
  refine ⟨by omega, ?_⟩
  have k3 : (S ++ [Ob.lst [D.int 0]] ++ [Ob.lst (List.map D.int ns ++ [D.int 0])])[(S ++ [Ob.lst [D.int 0]]).length]? = some (.lst (List.map D.int ns ++ [D.int 0])) := look_new
  generalize hS1 : S ++ [Ob.lst [D.int 0]] ++ [Ob.lst (List.map D.int ns ++ [D.int 0])] = S1 at k3 ⊢
  have hg : Gr S S1 := by subst hS1; exact Gr.push.more
  have k1 := hg.look eh
  have k2 := hg.look ec
  simp only [w_fn, w_ok, w_sSeq, w_sIf, w_sRet, w_sPar2, w_sPar4, w_sNil, w_sNever, w_sExpr, w_sSet, w_sPut, w_sAug, w_sAugS, w_sFor, w_e1, w_e2, w_eF, w_eM, w_cons, w_nil, w_var, w_c, w_tup, w_lst, w_d0, w_and, w_or, w_not, w_if, w_ch, w_ch3, w_sl, w_pOf, w_pNo, w_iOf, w_iEnum, w_iRng, w_lc, v_add, v_iadd, v_addS, v_addT, v_addL, v_sub, v_mul, v_mulT, v_div, v_mod, v_pow, v_neg, v_cmp, v_eq, v_eqS, v_eqB, v_ne, v_notIn, v_isN, v_notN, v_inS, v_inI, v_ix, v_ixL, v_sl, v_slL, v_on1, v_on2, v_abs, v_max2, v_min2, v_len, v_lenR, v_lenL, v_list, v_listR, v_listL, v_tuple, v_tupleL, v_onIs, v_isL, v_append, v_popAt, v_putL, v_it, v_itR, v_itL, v_noRoT, v_noRoL, v_tgN, v_tgT, v_tgCons, v_tgNil, v_eYes, v_okg, v_okg1, List.length_cons, List.length_nil, List.map_cons, List.map_nil, List.replicate, List.cons_append, List.nil_append, List.getElem?_cons_zero, List.getElem?_cons_succ, Option.some.injEq, exists_eq_left', exists_eq_left, List.set_cons_zero, List.set_cons_succ, D.bl.injEq, D.int.injEq, D.str.injEq, D.tup.injEq, D.loc.injEq, decide_eq_true_eq, Bool.not_eq_true', decide_eq_false_iff_not, true_and, and_true, Ob.lst.injEq, Nat.reduceAdd, Nat.reduceSub, ix_0, ix_1, ix_2, upTo_0, ix30, ix31, ix32, List.set_set, cut_1, look_new, set_new, wipeD, List.drop_succ_cons, List.drop_zero, inFlat, List.all_cons, List.all_nil, Bool.and_self, Bool.and_true, reduceIte, List.mem_cons, List.not_mem_nil, or_false, false_or, or_true, true_or, reduceCtorEq, Int.reduceEq, Int.reduceLE, Int.reduceLT, Int.cast_ofNat_Int, Int.natCast_zero, Int.natCast_one, Int.natCast_add, not_true_eq_false, not_false_eq_true, decide_true, decide_false, Bool.false_eq_true, if_true, if_false, Bool.not_true, Bool.not_false, Int.reduceNeg, Int.reduceSub, Int.reduceAdd, k1, k2, k3, List.length_map, hj, hcell]
  refine ⟨hp, ?_⟩
  by_cases hc : 1000000000000000000 ≤ wt (ns ++ [0]) j
  · rw [if_pos hc]
    have hn0 : j < ns.length := by
      by_cases hz : j < ns.length
      · exact hz
      · exfalso
        have : wt (ns ++ [0]) j = 0 := by
          unfold wt
          rw [List.getD_eq_getElem?_getD, List.getElem?_append_right (by omega)]
          cases h0 : j - ns.length with
          | zero => rfl
          | succ q => rfl
        omega
    have hm := Int.emod_nonneg a (show (ns.length : Int) ≠ 0 by omega)
    have hm2 := Int.emod_lt_of_pos a (show 0 < (ns.length : Int) by omega)
    have hq : a % (ns.length : Int) = ((a % (ns.length : Int)).toNat : Nat) := by omega
    rw [hq]
    simp only [ixN_nat (show (a % (ns.length : Int)).toNat < ns.length by omega), mset]
    refine ⟨by omega, by omega, _, rfl, by omega, ⟨Int.emod_nonneg _ (by omega), Int.emod_lt_of_pos _ (by omega)⟩, ⟨ne, ⟨m, a, by rw [List.getElem?_set_ne (Ne.symm ne)]; exact k1, ha⟩, ⟨_, look_set k2, by simpa using hn⟩⟩, (Up.of_gr hg).set (.inr (.inr rfl))⟩
  · rw [if_neg hc]
    simp only [w_fn, w_ok, w_sSeq, w_sIf, w_sRet, w_sPar2, w_sPar4, w_sNil, w_sNever, w_sExpr, w_sSet, w_sPut, w_sAug, w_sAugS, w_sFor, w_e1, w_e2, w_eF, w_eM, w_cons, w_nil, w_var, w_c, w_tup, w_lst, w_d0, w_and, w_or, w_not, w_if, w_ch, w_ch3, w_sl, w_pOf, w_pNo, w_iOf, w_iEnum, w_iRng, w_lc, v_add, v_iadd, v_addS, v_addT, v_addL, v_sub, v_mul, v_mulT, v_div, v_mod, v_pow, v_neg, v_cmp, v_eq, v_eqS, v_eqB, v_ne, v_notIn, v_isN, v_notN, v_inS, v_inI, v_ix, v_ixL, v_sl, v_slL, v_on1, v_on2, v_abs, v_max2, v_min2, v_len, v_lenR, v_lenL, v_list, v_listR, v_listL, v_tuple, v_tupleL, v_onIs, v_isL, v_append, v_popAt, v_putL, v_it, v_itR, v_itL, v_noRoT, v_noRoL, v_tgN, v_tgT, v_tgCons, v_tgNil, v_eYes, v_okg, v_okg1, List.length_cons, List.length_nil, List.map_cons, List.map_nil, List.replicate, List.cons_append, List.nil_append, List.getElem?_cons_zero, List.getElem?_cons_succ, Option.some.injEq, exists_eq_left', exists_eq_left, List.set_cons_zero, List.set_cons_succ, D.bl.injEq, D.int.injEq, D.str.injEq, D.tup.injEq, D.loc.injEq, decide_eq_true_eq, Bool.not_eq_true', decide_eq_false_iff_not, true_and, and_true, Ob.lst.injEq, Nat.reduceAdd, Nat.reduceSub, ix_0, ix_1, ix_2, upTo_0, ix30, ix31, ix32, List.set_set, cut_1, look_new, set_new, wipeD, List.drop_succ_cons, List.drop_zero, inFlat, List.all_cons, List.all_nil, Bool.and_self, Bool.and_true, reduceIte, List.mem_cons, List.not_mem_nil, or_false, false_or, or_true, true_or, reduceCtorEq, Int.reduceEq, Int.reduceLE, Int.reduceLT, Int.cast_ofNat_Int, Int.natCast_zero, Int.natCast_one, Int.natCast_add, not_true_eq_false, not_false_eq_true, decide_true, decide_false, Bool.false_eq_true, if_true, if_false, Bool.not_true, Bool.not_false, Int.reduceNeg, Int.reduceSub, Int.reduceAdd, k1, look_set k1]
    refine ⟨by simp only [mulOk, decide_eq_true_eq]; omega, by simp only [mulOk, decide_eq_true_eq]; omega, by omega, ⟨Int.emod_nonneg _ (by omega), Int.emod_lt_of_pos _ (by omega)⟩, ⟨ne, ⟨_, _, look_set k1, by omega⟩, ⟨ns, by rw [List.getElem?_set_ne ne]; exact k2, hn⟩⟩, (Up.of_gr hg).set (.inr (.inl rfl))⟩
theorem HS.look {h c : Nat} {S : Store} (x : HS h c S) : True := True.intro
/-- all pairs of things below o -/
def allP : Nat → List Pr
  | 0 => []
  | o + 1 => allP o ++ (List.range o).map fun i => (i, o)
theorem allP_mem : ∀ {o : Nat} {p : Pr}, p ∈ allP o → p.1 < p.2 ∧ p.2 < o
  | 0, _, h => by cases h
  | o + 1, p, h => by
    rcases List.mem_append.mp h with h | h
    · have := allP_mem h; omega
    · obtain ⟨i, hi, rfl⟩ := List.mem_map.mp h
      rw [List.mem_range] at hi
      exact ⟨hi, by simp⟩
theorem allP_nd : ∀ o, (allP o).Nodup
  | 0 => List.nodup_nil
  | o + 1 => by
    rw [allP, List.nodup_append]
    refine ⟨allP_nd o, ?_, fun a ha b hb e => ?_⟩
    · exact List.pairwise_map.mpr (List.nodup_range.imp fun h e => h (by simpa using e))
    · obtain ⟨i, hi, rfl⟩ := List.mem_map.mp hb
      have := allP_mem ha
      rw [e] at this
      simp at this
theorem allP_len : ∀ o, (allP o).length = o * (o - 1) / 2
  | 0 => rfl
  | o + 1 => by
    rw [allP, List.length_append, allP_len o, List.length_map, List.length_range]
    cases o with
    | zero => rfl
    | succ k =>
      simp only [Nat.add_sub_cancel]
      have : (k + 1 + 1) * (k + 1) = (k + 1) * k + (k + 1) * 2 := by rw [Nat.mul_comm (k + 1 + 1), show k + 1 + 1 = k + 2 from rfl, Nat.mul_add]
      omega
theorem nodup_move {ps ls : List Pr} {i : Nat} {y : Pr} (h : (ps ++ ls).Nodup) (e : ls[i]? = some y) : ((ps ++ [y]) ++ ls.eraseIdx i).Nodup := by
  obtain ⟨hi, e⟩ := List.getElem?_eq_some_iff.mp e
  have hs : ls = ls.take i ++ y :: ls.drop (i + 1) := by
    rw [← e, List.getElem_cons_drop, List.take_append_drop]
  have hp : ls.Perm (y :: ls.eraseIdx i) := by
    rw [List.eraseIdx_eq_take_drop_succ]
    have := List.perm_middle (a := y) (l₁ := ls.take i) (l₂ := ls.drop (i + 1))
    rw [← hs] at this
    exact this
  rw [List.append_assoc]
  exact (List.Perm.nodup_iff (List.Perm.append_left ps (by simpa using hp))).mp h
end Mn
/-! A world is drawn. -/
namespace Mn
open PySem
theorem erase_map {ls : List Pr} {i : Nat} : (ls.map pr).eraseIdx i = (ls.eraseIdx i).map pr := by
  rw [List.eraseIdx_eq_take_drop_succ, List.eraseIdx_eq_take_drop_succ, List.map_append, List.map_take, List.map_drop]
def WorldOk (f : Fn) (most weight : Int) : Prop := ∀ (h c : Nat) (S : Store), HS h c S → Ok (f [.loc h, .int most, .int weight] S) fun v S' => ∃ w : Wo, v = w.enc ∧ w.ok ∧ (w.ws.length : Int) ≤ most ∧ (∀ x ∈ w.ws, x ≤ weight) ∧ HS h c S' ∧ Up h c S S'
theorem law_world_ok {f : Fn} (hf : NextOk f) {most weight : Int} (m1 : 2 ≤ most) (m2 : most ≤ 6) (w1 : 0 ≤ weight) (w2 : weight ≤ 30) : WorldOk (mkFn 3 11 (p_law_world f)) most weight := by
  intro h c S x
  have hsz := szl
  have hl := x.lt
  simp only [p_law_world, w_fn, w_ok, w_sSeq, w_sIf, w_sRet, w_sPar2, w_sPar4, w_sNil, w_sNever, w_sExpr, w_sSet, w_sPut, w_sAug, w_sAugS, w_sFor, w_e1, w_e2, w_eF, w_eM, w_cons, w_nil, w_var, w_c, w_tup, w_lst, w_d0, w_and, w_or, w_not, w_if, w_ch, w_ch3, w_sl, w_pOf, w_pNo, w_iOf, w_iEnum, w_iRng, w_lc, v_add, v_iadd, v_addS, v_addT, v_addL, v_sub, v_mul, v_mulT, v_div, v_mod, v_pow, v_neg, v_cmp, v_eq, v_eqS, v_eqB, v_ne, v_notIn, v_isN, v_notN, v_inS, v_inI, v_ix, v_ixL, v_sl, v_slL, v_on1, v_on2, v_abs, v_max2, v_min2, v_len, v_lenR, v_lenL, v_list, v_listR, v_listL, v_tuple, v_tupleL, v_onIs, v_isL, v_append, v_popAt, v_putL, v_it, v_itR, v_itL, v_noRoT, v_noRoL, v_tgN, v_tgT, v_tgCons, v_tgNil, v_eYes, v_okg, v_okg1, List.length_cons, List.length_nil, List.map_cons, List.map_nil, List.replicate, List.cons_append, List.nil_append, List.getElem?_cons_zero, List.getElem?_cons_succ, Option.some.injEq, exists_eq_left', exists_eq_left, List.set_cons_zero, List.set_cons_succ, D.bl.injEq, D.int.injEq, D.str.injEq, D.tup.injEq, D.loc.injEq, decide_eq_true_eq, Bool.not_eq_true', decide_eq_false_iff_not, true_and, and_true, Ob.lst.injEq, Nat.reduceAdd, Nat.reduceSub, ix_0, ix_1, ix_2, upTo_0, ix30, ix31, ix32, List.set_set, cut_1, look_new, set_new, wipeD, List.drop_succ_cons, List.drop_zero, inFlat, List.all_cons, List.all_nil, Bool.and_self, Bool.and_true, reduceIte, List.mem_cons, List.not_mem_nil, or_false, false_or, or_true, true_or, reduceCtorEq, Int.reduceEq, Int.reduceLE, Int.reduceLT, Int.cast_ofNat_Int, Int.natCast_zero, Int.natCast_one, Int.natCast_add, not_true_eq_false, not_false_eq_true, decide_true, decide_false, Bool.false_eq_true, if_true, if_false, Bool.not_true, Bool.not_false, Int.reduceNeg, Int.reduceSub, Int.reduceAdd]
  refine (hf h c (most - 1) S (by omega) (by omega) x).mono fun v S1 ⟨r, e, hr, x1, u1⟩ => ?_
  subst e
  simp only [w_fn, w_ok, w_sSeq, w_sIf, w_sRet, w_sPar2, w_sPar4, w_sNil, w_sNever, w_sExpr, w_sSet, w_sPut, w_sAug, w_sAugS, w_sFor, w_e1, w_e2, w_eF, w_eM, w_cons, w_nil, w_var, w_c, w_tup, w_lst, w_d0, w_and, w_or, w_not, w_if, w_ch, w_ch3, w_sl, w_pOf, w_pNo, w_iOf, w_iEnum, w_iRng, w_lc, v_add, v_iadd, v_addS, v_addT, v_addL, v_sub, v_mul, v_mulT, v_div, v_mod, v_pow, v_neg, v_cmp, v_eq, v_eqS, v_eqB, v_ne, v_notIn, v_isN, v_notN, v_inS, v_inI, v_ix, v_ixL, v_sl, v_slL, v_on1, v_on2, v_abs, v_max2, v_min2, v_len, v_lenR, v_lenL, v_list, v_listR, v_listL, v_tuple, v_tupleL, v_onIs, v_isL, v_append, v_popAt, v_putL, v_it, v_itR, v_itL, v_noRoT, v_noRoL, v_tgN, v_tgT, v_tgCons, v_tgNil, v_eYes, v_okg, v_okg1, List.length_cons, List.length_nil, List.map_cons, List.map_nil, List.replicate, List.cons_append, List.nil_append, List.getElem?_cons_zero, List.getElem?_cons_succ, Option.some.injEq, exists_eq_left', exists_eq_left, List.set_cons_zero, List.set_cons_succ, D.bl.injEq, D.int.injEq, D.str.injEq, D.tup.injEq, D.loc.injEq, decide_eq_true_eq, Bool.not_eq_true', decide_eq_false_iff_not, true_and, and_true, Ob.lst.injEq, Nat.reduceAdd, Nat.reduceSub, ix_0, ix_1, ix_2, upTo_0, ix30, ix31, ix32, List.set_set, cut_1, look_new, set_new, wipeD, List.drop_succ_cons, List.drop_zero, inFlat, List.all_cons, List.all_nil, Bool.and_self, Bool.and_true, reduceIte, List.mem_cons, List.not_mem_nil, or_false, false_or, or_true, true_or, reduceCtorEq, Int.reduceEq, Int.reduceLE, Int.reduceLT, Int.cast_ofNat_Int, Int.natCast_zero, Int.natCast_one, Int.natCast_add, not_true_eq_false, not_false_eq_true, decide_true, decide_false, Bool.false_eq_true, if_true, if_false, Bool.not_true, Bool.not_false, Int.reduceNeg, Int.reduceSub, Int.reduceAdd]
  refine ⟨by omega, ?_⟩
  refine lc_ix (fun i acc S' => ∃ xs : List Int, acc = xs.map .int ∧ (∀ x ∈ xs, 0 ≤ x ∧ x ≤ weight) ∧ xs.length = i ∧ HS h c S' ∧ Up h c S S') ⟨[], rfl, by simp, rfl, x1, u1⟩ ?_ ?_
  · rintro i x' acc S2 hx ⟨xs, rfl, hxs, hlen, x2, u2⟩
    simp only [w_fn, w_ok, w_sSeq, w_sIf, w_sRet, w_sPar2, w_sPar4, w_sNil, w_sNever, w_sExpr, w_sSet, w_sPut, w_sAug, w_sAugS, w_sFor, w_e1, w_e2, w_eF, w_eM, w_cons, w_nil, w_var, w_c, w_tup, w_lst, w_d0, w_and, w_or, w_not, w_if, w_ch, w_ch3, w_sl, w_pOf, w_pNo, w_iOf, w_iEnum, w_iRng, w_lc, v_add, v_iadd, v_addS, v_addT, v_addL, v_sub, v_mul, v_mulT, v_div, v_mod, v_pow, v_neg, v_cmp, v_eq, v_eqS, v_eqB, v_ne, v_notIn, v_isN, v_notN, v_inS, v_inI, v_ix, v_ixL, v_sl, v_slL, v_on1, v_on2, v_abs, v_max2, v_min2, v_len, v_lenR, v_lenL, v_list, v_listR, v_listL, v_tuple, v_tupleL, v_onIs, v_isL, v_append, v_popAt, v_putL, v_it, v_itR, v_itL, v_noRoT, v_noRoL, v_tgN, v_tgT, v_tgCons, v_tgNil, v_eYes, v_okg, v_okg1, List.length_cons, List.length_nil, List.map_cons, List.map_nil, List.replicate, List.cons_append, List.nil_append, List.getElem?_cons_zero, List.getElem?_cons_succ, Option.some.injEq, exists_eq_left', exists_eq_left, List.set_cons_zero, List.set_cons_succ, D.bl.injEq, D.int.injEq, D.str.injEq, D.tup.injEq, D.loc.injEq, decide_eq_true_eq, Bool.not_eq_true', decide_eq_false_iff_not, true_and, and_true, Ob.lst.injEq, Nat.reduceAdd, Nat.reduceSub, ix_0, ix_1, ix_2, upTo_0, ix30, ix31, ix32, List.set_set, cut_1, look_new, set_new, wipeD, List.drop_succ_cons, List.drop_zero, inFlat, List.all_cons, List.all_nil, Bool.and_self, Bool.and_true, reduceIte, List.mem_cons, List.not_mem_nil, or_false, false_or, or_true, true_or, reduceCtorEq, Int.reduceEq, Int.reduceLE, Int.reduceLT, Int.cast_ofNat_Int, Int.natCast_zero, Int.natCast_one, Int.natCast_add, not_true_eq_false, not_false_eq_true, decide_true, decide_false, Bool.false_eq_true, if_true, if_false, Bool.not_true, Bool.not_false, Int.reduceNeg, Int.reduceSub, Int.reduceAdd]
    refine .inl ((hf h c (weight + 1) S2 (by omega) (by omega) x2).mono fun v S3 ⟨r', e, hr', x3, u3⟩ => ⟨xs ++ [r'], by simp [e], fun z hz => ?_, by simp [hlen], x3, u2.trans u3⟩)
    rcases List.mem_append.mp hz with hz | hz
    · exact hxs z hz
    · rw [List.mem_singleton.mp hz]; omega
  · rintro acc S2 ⟨ws, rfl, hws, hlen, x2, u2⟩
    rw [List.length_range] at hlen
    have hn : ws.length = (2 + r).toNat := hlen
    simp only [w_fn, w_ok, w_sSeq, w_sIf, w_sRet, w_sPar2, w_sPar4, w_sNil, w_sNever, w_sExpr, w_sSet, w_sPut, w_sAug, w_sAugS, w_sFor, w_e1, w_e2, w_eF, w_eM, w_cons, w_nil, w_var, w_c, w_tup, w_lst, w_d0, w_and, w_or, w_not, w_if, w_ch, w_ch3, w_sl, w_pOf, w_pNo, w_iOf, w_iEnum, w_iRng, w_lc, v_add, v_iadd, v_addS, v_addT, v_addL, v_sub, v_mul, v_mulT, v_div, v_mod, v_pow, v_neg, v_cmp, v_eq, v_eqS, v_eqB, v_ne, v_notIn, v_isN, v_notN, v_inS, v_inI, v_ix, v_ixL, v_sl, v_slL, v_on1, v_on2, v_abs, v_max2, v_min2, v_len, v_lenR, v_lenL, v_list, v_listR, v_listL, v_tuple, v_tupleL, v_onIs, v_isL, v_append, v_popAt, v_putL, v_it, v_itR, v_itL, v_noRoT, v_noRoL, v_tgN, v_tgT, v_tgCons, v_tgNil, v_eYes, v_okg, v_okg1, List.length_cons, List.length_nil, List.map_cons, List.map_nil, List.replicate, List.cons_append, List.nil_append, List.getElem?_cons_zero, List.getElem?_cons_succ, Option.some.injEq, exists_eq_left', exists_eq_left, List.set_cons_zero, List.set_cons_succ, D.bl.injEq, D.int.injEq, D.str.injEq, D.tup.injEq, D.loc.injEq, decide_eq_true_eq, Bool.not_eq_true', decide_eq_false_iff_not, true_and, and_true, Ob.lst.injEq, Nat.reduceAdd, Nat.reduceSub, ix_0, ix_1, ix_2, upTo_0, ix30, ix31, ix32, List.set_set, cut_1, look_new, set_new, wipeD, List.drop_succ_cons, List.drop_zero, inFlat, List.all_cons, List.all_nil, Bool.and_self, Bool.and_true, reduceIte, List.mem_cons, List.not_mem_nil, or_false, false_or, or_true, true_or, reduceCtorEq, Int.reduceEq, Int.reduceLE, Int.reduceLT, Int.cast_ofNat_Int, Int.natCast_zero, Int.natCast_one, Int.natCast_add, not_true_eq_false, not_false_eq_true, decide_true, decide_false, Bool.false_eq_true, if_true, if_false, Bool.not_true, Bool.not_false, Int.reduceNeg, Int.reduceSub, Int.reduceAdd, look_new]
    generalize hS3 : S2 ++ [Ob.lst (List.map D.int ws)] = S3
    have x3 : HS h c S3 := by subst hS3; exact x2.push
    have u3 : Up h c S S3 := by subst hS3; exact u2.trans .push
    clear hS3
    simp only [List.length_map, Int.toNat_natCast]
    refine ⟨by omega, ?_⟩
    have hlt3 := u3.len
    generalize hS4 : S3 ++ [Ob.lst []] ++ [Ob.lst []] = S4
    have y1 : S4[S3.length]? = some (.lst []) := by subst hS4; exact (Gr.push).look look_new
    have y2 : S4[(S3 ++ [Ob.lst []]).length]? = some (.lst []) := by subst hS4; exact look_new
    have x4 : HS h c S4 := by subst hS4; exact x3.push.push
    have u4 : Up h c S S4 := by subst hS4; exact (u3.trans .push).trans .push
    have hlP : (S3 ++ [Ob.lst []]).length = S3.length + 1 := by simp
    rw [hlP] at y2 ⊢
    generalize hP : S3.length + 1 = lP at y2 ⊢
    clear hS4
    refine for_ix (fun i σ S' => ∃ l4 x6, σ = [some (.loc h), some (.int most), some (.int weight), some (nums ws), some (.loc l4), some (.loc lP), x6, none, none, none, none] ∧ S'[l4]? = some (.lst ((allP i).map pr)) ∧ S'[lP]? = some (.lst []) ∧ S.length ≤ l4 ∧ l4 ≠ lP ∧ HS h c S' ∧ Up h c S S')
      ⟨S3.length, none, rfl, y1, y2, hlt3, by omega, x4, u4⟩ ?_ ?_
    · rintro i o σ S5 ho ⟨l4, x6, rfl, z1, z2, hl4, hne, x5, u5⟩
      have hoi : o = i := by
        have := (List.getElem?_eq_some_iff.mp ho)
        obtain ⟨h1, h2⟩ := this
        simpa using h2.symm
      subst hoi
      have hob : o < ws.length := by
        have := (List.getElem?_eq_some_iff.mp ho).1
        simpa using this
      have hap := allP_len o
      simp only [w_fn, w_ok, w_sSeq, w_sIf, w_sRet, w_sPar2, w_sPar4, w_sNil, w_sNever, w_sExpr, w_sSet, w_sPut, w_sAug, w_sAugS, w_sFor, w_e1, w_e2, w_eF, w_eM, w_cons, w_nil, w_var, w_c, w_tup, w_lst, w_d0, w_and, w_or, w_not, w_if, w_ch, w_ch3, w_sl, w_pOf, w_pNo, w_iOf, w_iEnum, w_iRng, w_lc, v_add, v_iadd, v_addS, v_addT, v_addL, v_sub, v_mul, v_mulT, v_div, v_mod, v_pow, v_neg, v_cmp, v_eq, v_eqS, v_eqB, v_ne, v_notIn, v_isN, v_notN, v_inS, v_inI, v_ix, v_ixL, v_sl, v_slL, v_on1, v_on2, v_abs, v_max2, v_min2, v_len, v_lenR, v_lenL, v_list, v_listR, v_listL, v_tuple, v_tupleL, v_onIs, v_isL, v_append, v_popAt, v_putL, v_it, v_itR, v_itL, v_noRoT, v_noRoL, v_tgN, v_tgT, v_tgCons, v_tgNil, v_eYes, v_okg, v_okg1, List.length_cons, List.length_nil, List.map_cons, List.map_nil, List.replicate, List.cons_append, List.nil_append, List.getElem?_cons_zero, List.getElem?_cons_succ, Option.some.injEq, exists_eq_left', exists_eq_left, List.set_cons_zero, List.set_cons_succ, D.bl.injEq, D.int.injEq, D.str.injEq, D.tup.injEq, D.loc.injEq, decide_eq_true_eq, Bool.not_eq_true', decide_eq_false_iff_not, true_and, and_true, Ob.lst.injEq, Nat.reduceAdd, Nat.reduceSub, ix_0, ix_1, ix_2, upTo_0, ix30, ix31, ix32, List.set_set, cut_1, look_new, set_new, wipeD, List.drop_succ_cons, List.drop_zero, inFlat, List.all_cons, List.all_nil, Bool.and_self, Bool.and_true, reduceIte, List.mem_cons, List.not_mem_nil, or_false, false_or, or_true, true_or, reduceCtorEq, Int.reduceEq, Int.reduceLE, Int.reduceLT, Int.cast_ofNat_Int, Int.natCast_zero, Int.natCast_one, Int.natCast_add, not_true_eq_false, not_false_eq_true, decide_true, decide_false, Bool.false_eq_true, if_true, if_false, Bool.not_true, Bool.not_false, Int.reduceNeg, Int.reduceSub, Int.reduceAdd]
      refine ⟨by omega, ?_⟩
      refine lc_map (f := fun i : Nat => D.int i) (r := fun i : Nat => pr (i, o)) ?_ _ _ (fun i hi => ⟨_, rfl, rfl, ?_⟩) ?_
      · simp [It.ok]
      · simp only [w_fn, w_ok, w_sSeq, w_sIf, w_sRet, w_sPar2, w_sPar4, w_sNil, w_sNever, w_sExpr, w_sSet, w_sPut, w_sAug, w_sAugS, w_sFor, w_e1, w_e2, w_eF, w_eM, w_cons, w_nil, w_var, w_c, w_tup, w_lst, w_d0, w_and, w_or, w_not, w_if, w_ch, w_ch3, w_sl, w_pOf, w_pNo, w_iOf, w_iEnum, w_iRng, w_lc, v_add, v_iadd, v_addS, v_addT, v_addL, v_sub, v_mul, v_mulT, v_div, v_mod, v_pow, v_neg, v_cmp, v_eq, v_eqS, v_eqB, v_ne, v_notIn, v_isN, v_notN, v_inS, v_inI, v_ix, v_ixL, v_sl, v_slL, v_on1, v_on2, v_abs, v_max2, v_min2, v_len, v_lenR, v_lenL, v_list, v_listR, v_listL, v_tuple, v_tupleL, v_onIs, v_isL, v_append, v_popAt, v_putL, v_it, v_itR, v_itL, v_noRoT, v_noRoL, v_tgN, v_tgT, v_tgCons, v_tgNil, v_eYes, v_okg, v_okg1, List.length_cons, List.length_nil, List.map_cons, List.map_nil, List.replicate, List.cons_append, List.nil_append, List.getElem?_cons_zero, List.getElem?_cons_succ, Option.some.injEq, exists_eq_left', exists_eq_left, List.set_cons_zero, List.set_cons_succ, D.bl.injEq, D.int.injEq, D.str.injEq, D.tup.injEq, D.loc.injEq, decide_eq_true_eq, Bool.not_eq_true', decide_eq_false_iff_not, true_and, and_true, Ob.lst.injEq, Nat.reduceAdd, Nat.reduceSub, ix_0, ix_1, ix_2, upTo_0, ix30, ix31, ix32, List.set_set, cut_1, look_new, set_new, wipeD, List.drop_succ_cons, List.drop_zero, inFlat, List.all_cons, List.all_nil, Bool.and_self, Bool.and_true, reduceIte, List.mem_cons, List.not_mem_nil, or_false, false_or, or_true, true_or, reduceCtorEq, Int.reduceEq, Int.reduceLE, Int.reduceLT, Int.cast_ofNat_Int, Int.natCast_zero, Int.natCast_one, Int.natCast_add, not_true_eq_false, not_false_eq_true, decide_true, decide_false, Bool.false_eq_true, if_true, if_false, Bool.not_true, Bool.not_false, Int.reduceNeg, Int.reduceSub, Int.reduceAdd, pr]
      · simp only [w_fn, w_ok, w_sSeq, w_sIf, w_sRet, w_sPar2, w_sPar4, w_sNil, w_sNever, w_sExpr, w_sSet, w_sPut, w_sAug, w_sAugS, w_sFor, w_e1, w_e2, w_eF, w_eM, w_cons, w_nil, w_var, w_c, w_tup, w_lst, w_d0, w_and, w_or, w_not, w_if, w_ch, w_ch3, w_sl, w_pOf, w_pNo, w_iOf, w_iEnum, w_iRng, w_lc, v_add, v_iadd, v_addS, v_addT, v_addL, v_sub, v_mul, v_mulT, v_div, v_mod, v_pow, v_neg, v_cmp, v_eq, v_eqS, v_eqB, v_ne, v_notIn, v_isN, v_notN, v_inS, v_inI, v_ix, v_ixL, v_sl, v_slL, v_on1, v_on2, v_abs, v_max2, v_min2, v_len, v_lenR, v_lenL, v_list, v_listR, v_listL, v_tuple, v_tupleL, v_onIs, v_isL, v_append, v_popAt, v_putL, v_it, v_itR, v_itL, v_noRoT, v_noRoL, v_tgN, v_tgT, v_tgCons, v_tgNil, v_eYes, v_okg, v_okg1, List.length_cons, List.length_nil, List.map_cons, List.map_nil, List.replicate, List.cons_append, List.nil_append, List.getElem?_cons_zero, List.getElem?_cons_succ, Option.some.injEq, exists_eq_left', exists_eq_left, List.set_cons_zero, List.set_cons_succ, D.bl.injEq, D.int.injEq, D.str.injEq, D.tup.injEq, D.loc.injEq, decide_eq_true_eq, Bool.not_eq_true', decide_eq_false_iff_not, true_and, and_true, Ob.lst.injEq, Nat.reduceAdd, Nat.reduceSub, ix_0, ix_1, ix_2, upTo_0, ix30, ix31, ix32, List.set_set, cut_1, look_new, set_new, wipeD, List.drop_succ_cons, List.drop_zero, inFlat, List.all_cons, List.all_nil, Bool.and_self, Bool.and_true, reduceIte, List.mem_cons, List.not_mem_nil, or_false, false_or, or_true, true_or, reduceCtorEq, Int.reduceEq, Int.reduceLE, Int.reduceLT, Int.cast_ofNat_Int, Int.natCast_zero, Int.natCast_one, Int.natCast_add, not_true_eq_false, not_false_eq_true, decide_true, decide_false, Bool.false_eq_true, if_true, if_false, Bool.not_true, Bool.not_false, Int.reduceNeg, Int.reduceSub, Int.reduceAdd, look_new, (Gr.push).look z1]
        have hsz2 : ((allP o).map pr).length + ((List.range o).map fun i : Nat => pr (i, o)).length ≤ sizeLine := by
          simp only [List.length_map, List.length_range]
          have : o * (o - 1) ≤ 6 * 6 := Nat.mul_le_mul (by omega) (by omega)
          omega
        simp only [Int.toNat_natCast]
        refine ⟨hsz2, _, _, rfl, ?_, ?_, ?_, ?_, x5.push.push, (u5.trans .push).trans .push⟩
        · rw [look_new, allP, List.map_append, List.map_map]; rfl
        · exact (Gr.push.more).look z2
        · have := u5.len
          simp; omega
        · have := (List.getElem?_eq_some_iff.mp z2).1
          simp; omega
    · rintro σ S5 ⟨l4, x6, rfl, z1, z2, hl4, hne, x5, u5⟩
      rw [List.length_range] at z1
      simp only [w_fn, w_ok, w_sSeq, w_sIf, w_sRet, w_sPar2, w_sPar4, w_sNil, w_sNever, w_sExpr, w_sSet, w_sPut, w_sAug, w_sAugS, w_sFor, w_e1, w_e2, w_eF, w_eM, w_cons, w_nil, w_var, w_c, w_tup, w_lst, w_d0, w_and, w_or, w_not, w_if, w_ch, w_ch3, w_sl, w_pOf, w_pNo, w_iOf, w_iEnum, w_iRng, w_lc, v_add, v_iadd, v_addS, v_addT, v_addL, v_sub, v_mul, v_mulT, v_div, v_mod, v_pow, v_neg, v_cmp, v_eq, v_eqS, v_eqB, v_ne, v_notIn, v_isN, v_notN, v_inS, v_inI, v_ix, v_ixL, v_sl, v_slL, v_on1, v_on2, v_abs, v_max2, v_min2, v_len, v_lenR, v_lenL, v_list, v_listR, v_listL, v_tuple, v_tupleL, v_onIs, v_isL, v_append, v_popAt, v_putL, v_it, v_itR, v_itL, v_noRoT, v_noRoL, v_tgN, v_tgT, v_tgCons, v_tgNil, v_eYes, v_okg, v_okg1, List.length_cons, List.length_nil, List.map_cons, List.map_nil, List.replicate, List.cons_append, List.nil_append, List.getElem?_cons_zero, List.getElem?_cons_succ, Option.some.injEq, exists_eq_left', exists_eq_left, List.set_cons_zero, List.set_cons_succ, D.bl.injEq, D.int.injEq, D.str.injEq, D.tup.injEq, D.loc.injEq, decide_eq_true_eq, Bool.not_eq_true', decide_eq_false_iff_not, true_and, and_true, Ob.lst.injEq, Nat.reduceAdd, Nat.reduceSub, ix_0, ix_1, ix_2, upTo_0, ix30, ix31, ix32, List.set_set, cut_1, look_new, set_new, wipeD, List.drop_succ_cons, List.drop_zero, inFlat, List.all_cons, List.all_nil, Bool.and_self, Bool.and_true, reduceIte, List.mem_cons, List.not_mem_nil, or_false, false_or, or_true, true_or, reduceCtorEq, Int.reduceEq, Int.reduceLE, Int.reduceLT, Int.cast_ofNat_Int, Int.natCast_zero, Int.natCast_one, Int.natCast_add, not_true_eq_false, not_false_eq_true, decide_true, decide_false, Bool.false_eq_true, if_true, if_false, Bool.not_true, Bool.not_false, Int.reduceNeg, Int.reduceSub, Int.reduceAdd, z1, List.length_map]
      have hap := allP_len ws.length
      have hnb : ws.length * (ws.length - 1) ≤ 6 * 6 := Nat.mul_le_mul (by omega) (by omega)
      refine (hf h c _ S5 (by split <;> omega) (by split <;> omega) x5).mono fun v S6 ⟨q, e, hq, x6', u6⟩ => ?_
      subst e
      simp only [w_fn, w_ok, w_sSeq, w_sIf, w_sRet, w_sPar2, w_sPar4, w_sNil, w_sNever, w_sExpr, w_sSet, w_sPut, w_sAug, w_sAugS, w_sFor, w_e1, w_e2, w_eF, w_eM, w_cons, w_nil, w_var, w_c, w_tup, w_lst, w_d0, w_and, w_or, w_not, w_if, w_ch, w_ch3, w_sl, w_pOf, w_pNo, w_iOf, w_iEnum, w_iRng, w_lc, v_add, v_iadd, v_addS, v_addT, v_addL, v_sub, v_mul, v_mulT, v_div, v_mod, v_pow, v_neg, v_cmp, v_eq, v_eqS, v_eqB, v_ne, v_notIn, v_isN, v_notN, v_inS, v_inI, v_ix, v_ixL, v_sl, v_slL, v_on1, v_on2, v_abs, v_max2, v_min2, v_len, v_lenR, v_lenL, v_list, v_listR, v_listL, v_tuple, v_tupleL, v_onIs, v_isL, v_append, v_popAt, v_putL, v_it, v_itR, v_itL, v_noRoT, v_noRoL, v_tgN, v_tgT, v_tgCons, v_tgNil, v_eYes, v_okg, v_okg1, List.length_cons, List.length_nil, List.map_cons, List.map_nil, List.replicate, List.cons_append, List.nil_append, List.getElem?_cons_zero, List.getElem?_cons_succ, Option.some.injEq, exists_eq_left', exists_eq_left, List.set_cons_zero, List.set_cons_succ, D.bl.injEq, D.int.injEq, D.str.injEq, D.tup.injEq, D.loc.injEq, decide_eq_true_eq, Bool.not_eq_true', decide_eq_false_iff_not, true_and, and_true, Ob.lst.injEq, Nat.reduceAdd, Nat.reduceSub, ix_0, ix_1, ix_2, upTo_0, ix30, ix31, ix32, List.set_set, cut_1, look_new, set_new, wipeD, List.drop_succ_cons, List.drop_zero, inFlat, List.all_cons, List.all_nil, Bool.and_self, Bool.and_true, reduceIte, List.mem_cons, List.not_mem_nil, or_false, false_or, or_true, true_or, reduceCtorEq, Int.reduceEq, Int.reduceLE, Int.reduceLT, Int.cast_ofNat_Int, Int.natCast_zero, Int.natCast_one, Int.natCast_add, not_true_eq_false, not_false_eq_true, decide_true, decide_false, Bool.false_eq_true, if_true, if_false, Bool.not_true, Bool.not_false, Int.reduceNeg, Int.reduceSub, Int.reduceAdd]
      have hq2 : q ≤ (allP ws.length).length ∧ q ≤ 15 := by
        have := hq.2
        split at this <;> omega
      refine ⟨by omega, ?_⟩
      have hlP2 : S.length ≤ lP := by omega
      have z1' := u6.at_ _ _ z1 (by omega) (by omega)
      have z2' := u6.at_ _ _ z2 (by omega) (by omega)
      refine for_ix (fun i σ S' => ∃ (ps ls : List Pr) (x7 : Option D), σ = [some (.loc h), some (.int most), some (.int weight), some (nums ws), some (.loc l4), some (.loc lP), x6, x7, none, none, none] ∧ S'[l4]? = some (.lst (ls.map pr)) ∧ S'[lP]? = some (.lst (ps.map pr)) ∧
        (ps ++ ls).Nodup ∧ (∀ p ∈ ps ++ ls, p.1 < p.2 ∧ p.2 < ws.length) ∧ ps.length = i ∧ ls.length + i = (allP ws.length).length ∧ HS h c S' ∧ Up h c S S')
        ⟨[], allP ws.length, none, rfl, z1', z2', by simpa using allP_nd _, fun p hp => allP_mem (by simpa using hp), rfl, rfl, x6', u5.trans u6⟩ ?_ ?_
      · rintro i o σ S7 ho ⟨ps, ls, x7, rfl, a1, a2, hnd, hall, hps, hls, x7', u7⟩
        have hiq : i < q.toNat := by
          have := (List.getElem?_eq_some_iff.mp ho).1
          simpa using this
        simp only [w_fn, w_ok, w_sSeq, w_sIf, w_sRet, w_sPar2, w_sPar4, w_sNil, w_sNever, w_sExpr, w_sSet, w_sPut, w_sAug, w_sAugS, w_sFor, w_e1, w_e2, w_eF, w_eM, w_cons, w_nil, w_var, w_c, w_tup, w_lst, w_d0, w_and, w_or, w_not, w_if, w_ch, w_ch3, w_sl, w_pOf, w_pNo, w_iOf, w_iEnum, w_iRng, w_lc, v_add, v_iadd, v_addS, v_addT, v_addL, v_sub, v_mul, v_mulT, v_div, v_mod, v_pow, v_neg, v_cmp, v_eq, v_eqS, v_eqB, v_ne, v_notIn, v_isN, v_notN, v_inS, v_inI, v_ix, v_ixL, v_sl, v_slL, v_on1, v_on2, v_abs, v_max2, v_min2, v_len, v_lenR, v_lenL, v_list, v_listR, v_listL, v_tuple, v_tupleL, v_onIs, v_isL, v_append, v_popAt, v_putL, v_it, v_itR, v_itL, v_noRoT, v_noRoL, v_tgN, v_tgT, v_tgCons, v_tgNil, v_eYes, v_okg, v_okg1, List.length_cons, List.length_nil, List.map_cons, List.map_nil, List.replicate, List.cons_append, List.nil_append, List.getElem?_cons_zero, List.getElem?_cons_succ, Option.some.injEq, exists_eq_left', exists_eq_left, List.set_cons_zero, List.set_cons_succ, D.bl.injEq, D.int.injEq, D.str.injEq, D.tup.injEq, D.loc.injEq, decide_eq_true_eq, Bool.not_eq_true', decide_eq_false_iff_not, true_and, and_true, Ob.lst.injEq, Nat.reduceAdd, Nat.reduceSub, ix_0, ix_1, ix_2, upTo_0, ix30, ix31, ix32, List.set_set, cut_1, look_new, set_new, wipeD, List.drop_succ_cons, List.drop_zero, inFlat, List.all_cons, List.all_nil, Bool.and_self, Bool.and_true, reduceIte, List.mem_cons, List.not_mem_nil, or_false, false_or, or_true, true_or, reduceCtorEq, Int.reduceEq, Int.reduceLE, Int.reduceLT, Int.cast_ofNat_Int, Int.natCast_zero, Int.natCast_one, Int.natCast_add, not_true_eq_false, not_false_eq_true, decide_true, decide_false, Bool.false_eq_true, if_true, if_false, Bool.not_true, Bool.not_false, Int.reduceNeg, Int.reduceSub, Int.reduceAdd, a1, a2, List.length_map]
        refine ⟨⟨_, rfl⟩, ⟨_, rfl⟩, ?_⟩
        have hl7 : 0 < ls.length := by omega
        refine (hf h c ls.length S7 (by omega) (by have := hq2.1; omega) x7').mono fun v S8 ⟨r2, e, hr2, x8, u8⟩ => ?_
        subst e
        have b1 := u8.at_ _ _ a1 (by omega) (by omega)
        have b2 := u8.at_ _ _ a2 (by omega) (by omega)
        have hr3 : r2.toNat < ls.length := by omega
        have hy : ls[r2.toNat]? = some (ls[r2.toNat]) := List.getElem?_eq_getElem hr3
        simp only [w_fn, w_ok, w_sSeq, w_sIf, w_sRet, w_sPar2, w_sPar4, w_sNil, w_sNever, w_sExpr, w_sSet, w_sPut, w_sAug, w_sAugS, w_sFor, w_e1, w_e2, w_eF, w_eM, w_cons, w_nil, w_var, w_c, w_tup, w_lst, w_d0, w_and, w_or, w_not, w_if, w_ch, w_ch3, w_sl, w_pOf, w_pNo, w_iOf, w_iEnum, w_iRng, w_lc, v_add, v_iadd, v_addS, v_addT, v_addL, v_sub, v_mul, v_mulT, v_div, v_mod, v_pow, v_neg, v_cmp, v_eq, v_eqS, v_eqB, v_ne, v_notIn, v_isN, v_notN, v_inS, v_inI, v_ix, v_ixL, v_sl, v_slL, v_on1, v_on2, v_abs, v_max2, v_min2, v_len, v_lenR, v_lenL, v_list, v_listR, v_listL, v_tuple, v_tupleL, v_onIs, v_isL, v_append, v_popAt, v_putL, v_it, v_itR, v_itL, v_noRoT, v_noRoL, v_tgN, v_tgT, v_tgCons, v_tgNil, v_eYes, v_okg, v_okg1, List.length_cons, List.length_nil, List.map_cons, List.map_nil, List.replicate, List.cons_append, List.nil_append, List.getElem?_cons_zero, List.getElem?_cons_succ, Option.some.injEq, exists_eq_left', exists_eq_left, List.set_cons_zero, List.set_cons_succ, D.bl.injEq, D.int.injEq, D.str.injEq, D.tup.injEq, D.loc.injEq, decide_eq_true_eq, Bool.not_eq_true', decide_eq_false_iff_not, true_and, and_true, Ob.lst.injEq, Nat.reduceAdd, Nat.reduceSub, ix_0, ix_1, ix_2, upTo_0, ix30, ix31, ix32, List.set_set, cut_1, look_new, set_new, wipeD, List.drop_succ_cons, List.drop_zero, inFlat, List.all_cons, List.all_nil, Bool.and_self, Bool.and_true, reduceIte, List.mem_cons, List.not_mem_nil, or_false, false_or, or_true, true_or, reduceCtorEq, Int.reduceEq, Int.reduceLE, Int.reduceLT, Int.cast_ofNat_Int, Int.natCast_zero, Int.natCast_one, Int.natCast_add, not_true_eq_false, not_false_eq_true, decide_true, decide_false, Bool.false_eq_true, if_true, if_false, Bool.not_true, Bool.not_false, Int.reduceNeg, Int.reduceSub, Int.reduceAdd, b1, List.length_map, List.getElem?_map, hy, Option.map_some]
        have c2 : (S8.set l4 (Ob.lst ((ls.map pr).eraseIdx r2.toNat)))[lP]? = some (.lst (ps.map pr)) := by
          rw [List.getElem?_set_ne (by omega)]; exact b2
        refine ⟨by omega, _, c2, by simp only [List.length_map]; omega, ps ++ [ls[r2.toNat]], ls.eraseIdx r2.toNat, _, rfl, ?_, ?_, nodup_move hnd hy, ?_, by simp [hps], ?_, ?_, ?_⟩
        · rw [List.getElem?_set_ne (by omega), look_set b1, erase_map]
        · rw [look_set c2]; simp
        · intro p hp
          refine hall p ?_
          rcases List.mem_append.mp hp with hp | hp
          · rcases List.mem_append.mp hp with hp | hp
            · exact List.mem_append_left _ hp
            · rw [List.mem_singleton.mp hp]; exact List.mem_append_right _ (List.getElem_mem hr3)
          · exact List.mem_append_right _ (List.mem_of_mem_eraseIdx hp)
        · rw [List.length_eraseIdx, if_pos hr3]; omega
        · exact (x8.set (by omega) (by omega)).set (by omega) (by omega)
        · exact ((u7.trans u8).set (.inl hl4)).set (.inl hlP2)
      · rintro σ S7 ⟨ps, ls, x7, rfl, a1, a2, hnd, hall, hps, hls, x7', u7⟩
        rw [List.length_range] at hps
        simp only [w_fn, w_ok, w_sSeq, w_sIf, w_sRet, w_sPar2, w_sPar4, w_sNil, w_sNever, w_sExpr, w_sSet, w_sPut, w_sAug, w_sAugS, w_sFor, w_e1, w_e2, w_eF, w_eM, w_cons, w_nil, w_var, w_c, w_tup, w_lst, w_d0, w_and, w_or, w_not, w_if, w_ch, w_ch3, w_sl, w_pOf, w_pNo, w_iOf, w_iEnum, w_iRng, w_lc, v_add, v_iadd, v_addS, v_addT, v_addL, v_sub, v_mul, v_mulT, v_div, v_mod, v_pow, v_neg, v_cmp, v_eq, v_eqS, v_eqB, v_ne, v_notIn, v_isN, v_notN, v_inS, v_inI, v_ix, v_ixL, v_sl, v_slL, v_on1, v_on2, v_abs, v_max2, v_min2, v_len, v_lenR, v_lenL, v_list, v_listR, v_listL, v_tuple, v_tupleL, v_onIs, v_isL, v_append, v_popAt, v_putL, v_it, v_itR, v_itL, v_noRoT, v_noRoL, v_tgN, v_tgT, v_tgCons, v_tgNil, v_eYes, v_okg, v_okg1, List.length_cons, List.length_nil, List.map_cons, List.map_nil, List.replicate, List.cons_append, List.nil_append, List.getElem?_cons_zero, List.getElem?_cons_succ, Option.some.injEq, exists_eq_left', exists_eq_left, List.set_cons_zero, List.set_cons_succ, D.bl.injEq, D.int.injEq, D.str.injEq, D.tup.injEq, D.loc.injEq, decide_eq_true_eq, Bool.not_eq_true', decide_eq_false_iff_not, true_and, and_true, Ob.lst.injEq, Nat.reduceAdd, Nat.reduceSub, ix_0, ix_1, ix_2, upTo_0, ix30, ix31, ix32, List.set_set, cut_1, look_new, set_new, wipeD, List.drop_succ_cons, List.drop_zero, inFlat, List.all_cons, List.all_nil, Bool.and_self, Bool.and_true, reduceIte, List.mem_cons, List.not_mem_nil, or_false, false_or, or_true, true_or, reduceCtorEq, Int.reduceEq, Int.reduceLE, Int.reduceLT, Int.cast_ofNat_Int, Int.natCast_zero, Int.natCast_one, Int.natCast_add, not_true_eq_false, not_false_eq_true, decide_true, decide_false, Bool.false_eq_true, if_true, if_false, Bool.not_true, Bool.not_false, Int.reduceNeg, Int.reduceSub, Int.reduceAdd]
        refine (hf h c 4 S7 (by omega) (by omega) x7').mono fun v S8 ⟨tp, e, htp, x8, u8⟩ => ?_
        subst e
        simp only [w_fn, w_ok, w_sSeq, w_sIf, w_sRet, w_sPar2, w_sPar4, w_sNil, w_sNever, w_sExpr, w_sSet, w_sPut, w_sAug, w_sAugS, w_sFor, w_e1, w_e2, w_eF, w_eM, w_cons, w_nil, w_var, w_c, w_tup, w_lst, w_d0, w_and, w_or, w_not, w_if, w_ch, w_ch3, w_sl, w_pOf, w_pNo, w_iOf, w_iEnum, w_iRng, w_lc, v_add, v_iadd, v_addS, v_addT, v_addL, v_sub, v_mul, v_mulT, v_div, v_mod, v_pow, v_neg, v_cmp, v_eq, v_eqS, v_eqB, v_ne, v_notIn, v_isN, v_notN, v_inS, v_inI, v_ix, v_ixL, v_sl, v_slL, v_on1, v_on2, v_abs, v_max2, v_min2, v_len, v_lenR, v_lenL, v_list, v_listR, v_listL, v_tuple, v_tupleL, v_onIs, v_isL, v_append, v_popAt, v_putL, v_it, v_itR, v_itL, v_noRoT, v_noRoL, v_tgN, v_tgT, v_tgCons, v_tgNil, v_eYes, v_okg, v_okg1, List.length_cons, List.length_nil, List.map_cons, List.map_nil, List.replicate, List.cons_append, List.nil_append, List.getElem?_cons_zero, List.getElem?_cons_succ, Option.some.injEq, exists_eq_left', exists_eq_left, List.set_cons_zero, List.set_cons_succ, D.bl.injEq, D.int.injEq, D.str.injEq, D.tup.injEq, D.loc.injEq, decide_eq_true_eq, Bool.not_eq_true', decide_eq_false_iff_not, true_and, and_true, Ob.lst.injEq, Nat.reduceAdd, Nat.reduceSub, ix_0, ix_1, ix_2, upTo_0, ix30, ix31, ix32, List.set_set, cut_1, look_new, set_new, wipeD, List.drop_succ_cons, List.drop_zero, inFlat, List.all_cons, List.all_nil, Bool.and_self, Bool.and_true, reduceIte, List.mem_cons, List.not_mem_nil, or_false, false_or, or_true, true_or, reduceCtorEq, Int.reduceEq, Int.reduceLE, Int.reduceLT, Int.cast_ofNat_Int, Int.natCast_zero, Int.natCast_one, Int.natCast_add, not_true_eq_false, not_false_eq_true, decide_true, decide_false, Bool.false_eq_true, if_true, if_false, Bool.not_true, Bool.not_false, Int.reduceNeg, Int.reduceSub, Int.reduceAdd]
        have d2 := u8.at_ _ _ a2 (by omega) (by omega)
        have hl8 := x8.lt
        refine (hf h c 2 _ (by omega) (by omega) x8.push).mono fun v S9 ⟨sp, e, hsp, x9, u9⟩ => ?_
        subst e
        have e9 := u9.at_ S8.length _ look_new (by omega) (by omega)
        have d9 := u9.at_ _ _ ((Gr.push).look d2) (by omega) (by omega)
        simp only [w_fn, w_ok, w_sSeq, w_sIf, w_sRet, w_sPar2, w_sPar4, w_sNil, w_sNever, w_sExpr, w_sSet, w_sPut, w_sAug, w_sAugS, w_sFor, w_e1, w_e2, w_eF, w_eM, w_cons, w_nil, w_var, w_c, w_tup, w_lst, w_d0, w_and, w_or, w_not, w_if, w_ch, w_ch3, w_sl, w_pOf, w_pNo, w_iOf, w_iEnum, w_iRng, w_lc, v_add, v_iadd, v_addS, v_addT, v_addL, v_sub, v_mul, v_mulT, v_div, v_mod, v_pow, v_neg, v_cmp, v_eq, v_eqS, v_eqB, v_ne, v_notIn, v_isN, v_notN, v_inS, v_inI, v_ix, v_ixL, v_sl, v_slL, v_on1, v_on2, v_abs, v_max2, v_min2, v_len, v_lenR, v_lenL, v_list, v_listR, v_listL, v_tuple, v_tupleL, v_onIs, v_isL, v_append, v_popAt, v_putL, v_it, v_itR, v_itL, v_noRoT, v_noRoL, v_tgN, v_tgT, v_tgCons, v_tgNil, v_eYes, v_okg, v_okg1, List.length_cons, List.length_nil, List.map_cons, List.map_nil, List.replicate, List.cons_append, List.nil_append, List.getElem?_cons_zero, List.getElem?_cons_succ, Option.some.injEq, exists_eq_left', exists_eq_left, List.set_cons_zero, List.set_cons_succ, D.bl.injEq, D.int.injEq, D.str.injEq, D.tup.injEq, D.loc.injEq, decide_eq_true_eq, Bool.not_eq_true', decide_eq_false_iff_not, true_and, and_true, Ob.lst.injEq, Nat.reduceAdd, Nat.reduceSub, ix_0, ix_1, ix_2, upTo_0, ix30, ix31, ix32, List.set_set, cut_1, look_new, set_new, wipeD, List.drop_succ_cons, List.drop_zero, inFlat, List.all_cons, List.all_nil, Bool.and_self, Bool.and_true, reduceIte, List.mem_cons, List.not_mem_nil, or_false, false_or, or_true, true_or, reduceCtorEq, Int.reduceEq, Int.reduceLE, Int.reduceLT, Int.cast_ofNat_Int, Int.natCast_zero, Int.natCast_one, Int.natCast_add, not_true_eq_false, not_false_eq_true, decide_true, decide_false, Bool.false_eq_true, if_true, if_false, Bool.not_true, Bool.not_false, Int.reduceNeg, Int.reduceSub, Int.reduceAdd, e9]
        obtain ⟨kk, hkk, hk1, hk2⟩ : ∃ kk : Int, L2.atI [D.int 3, D.int 9] sp = some (.int kk) ∧ 1 ≤ kk ∧ kk ≤ 9 := by
          have : sp = 0 ∨ sp = 1 := by omega
          rcases this with rfl | rfl
          · exact ⟨3, rfl, by omega, by omega⟩
          · exact ⟨9, rfl, by omega, by omega⟩
        simp only [hkk, Option.some.injEq, exists_eq_left']
        refine (hf h c kk _ (by omega) (by omega) x9).mono fun v S10 ⟨so, e, hso, x10, u10⟩ => ?_
        subst e
        simp only [w_fn, w_ok, w_sSeq, w_sIf, w_sRet, w_sPar2, w_sPar4, w_sNil, w_sNever, w_sExpr, w_sSet, w_sPut, w_sAug, w_sAugS, w_sFor, w_e1, w_e2, w_eF, w_eM, w_cons, w_nil, w_var, w_c, w_tup, w_lst, w_d0, w_and, w_or, w_not, w_if, w_ch, w_ch3, w_sl, w_pOf, w_pNo, w_iOf, w_iEnum, w_iRng, w_lc, v_add, v_iadd, v_addS, v_addT, v_addL, v_sub, v_mul, v_mulT, v_div, v_mod, v_pow, v_neg, v_cmp, v_eq, v_eqS, v_eqB, v_ne, v_notIn, v_isN, v_notN, v_inS, v_inI, v_ix, v_ixL, v_sl, v_slL, v_on1, v_on2, v_abs, v_max2, v_min2, v_len, v_lenR, v_lenL, v_list, v_listR, v_listL, v_tuple, v_tupleL, v_onIs, v_isL, v_append, v_popAt, v_putL, v_it, v_itR, v_itL, v_noRoT, v_noRoL, v_tgN, v_tgT, v_tgCons, v_tgNil, v_eYes, v_okg, v_okg1, List.length_cons, List.length_nil, List.map_cons, List.map_nil, List.replicate, List.cons_append, List.nil_append, List.getElem?_cons_zero, List.getElem?_cons_succ, Option.some.injEq, exists_eq_left', exists_eq_left, List.set_cons_zero, List.set_cons_succ, D.bl.injEq, D.int.injEq, D.str.injEq, D.tup.injEq, D.loc.injEq, decide_eq_true_eq, Bool.not_eq_true', decide_eq_false_iff_not, true_and, and_true, Ob.lst.injEq, Nat.reduceAdd, Nat.reduceSub, ix_0, ix_1, ix_2, upTo_0, ix30, ix31, ix32, List.set_set, cut_1, look_new, set_new, wipeD, List.drop_succ_cons, List.drop_zero, inFlat, List.all_cons, List.all_nil, Bool.and_self, Bool.and_true, reduceIte, List.mem_cons, List.not_mem_nil, or_false, false_or, or_true, true_or, reduceCtorEq, Int.reduceEq, Int.reduceLE, Int.reduceLT, Int.cast_ofNat_Int, Int.natCast_zero, Int.natCast_one, Int.natCast_add, not_true_eq_false, not_false_eq_true, decide_true, decide_false, Bool.false_eq_true, if_true, if_false, Bool.not_true, Bool.not_false, Int.reduceNeg, Int.reduceSub, Int.reduceAdd]
        have d10 := u10.at_ _ _ d9 (by omega) (by omega)
        have hl10 := x10.lt
        refine ⟨⟨_, rfl⟩, ?_⟩
        refine (hf h c 5 _ (by omega) (by omega) x10.push).mono fun v S11 ⟨pa, e, hpa, x11, u11⟩ => ?_
        subst e
        have e11 := u11.at_ S10.length _ look_new (by omega) (by omega)
        have d11 := u11.at_ _ _ ((Gr.push).look d10) (by omega) (by omega)
        have hlt10 := (List.getElem?_eq_some_iff.mp d10).1
        have f11 : ∀ o, (S11.set S10.length o)[lP]? = some (.lst (ps.map pr)) := fun o => by rw [List.getElem?_set_ne (by omega)]; exact d11
        simp only [w_fn, w_ok, w_sSeq, w_sIf, w_sRet, w_sPar2, w_sPar4, w_sNil, w_sNever, w_sExpr, w_sSet, w_sPut, w_sAug, w_sAugS, w_sFor, w_e1, w_e2, w_eF, w_eM, w_cons, w_nil, w_var, w_c, w_tup, w_lst, w_d0, w_and, w_or, w_not, w_if, w_ch, w_ch3, w_sl, w_pOf, w_pNo, w_iOf, w_iEnum, w_iRng, w_lc, v_add, v_iadd, v_addS, v_addT, v_addL, v_sub, v_mul, v_mulT, v_div, v_mod, v_pow, v_neg, v_cmp, v_eq, v_eqS, v_eqB, v_ne, v_notIn, v_isN, v_notN, v_inS, v_inI, v_ix, v_ixL, v_sl, v_slL, v_on1, v_on2, v_abs, v_max2, v_min2, v_len, v_lenR, v_lenL, v_list, v_listR, v_listL, v_tuple, v_tupleL, v_onIs, v_isL, v_append, v_popAt, v_putL, v_it, v_itR, v_itL, v_noRoT, v_noRoL, v_tgN, v_tgT, v_tgCons, v_tgNil, v_eYes, v_okg, v_okg1, List.length_cons, List.length_nil, List.map_cons, List.map_nil, List.replicate, List.cons_append, List.nil_append, List.getElem?_cons_zero, List.getElem?_cons_succ, Option.some.injEq, exists_eq_left', exists_eq_left, List.set_cons_zero, List.set_cons_succ, D.bl.injEq, D.int.injEq, D.str.injEq, D.tup.injEq, D.loc.injEq, decide_eq_true_eq, Bool.not_eq_true', decide_eq_false_iff_not, true_and, and_true, Ob.lst.injEq, Nat.reduceAdd, Nat.reduceSub, ix_0, ix_1, ix_2, upTo_0, ix30, ix31, ix32, List.set_set, cut_1, look_new, set_new, wipeD, List.drop_succ_cons, List.drop_zero, inFlat, List.all_cons, List.all_nil, Bool.and_self, Bool.and_true, reduceIte, List.mem_cons, List.not_mem_nil, or_false, false_or, or_true, true_or, reduceCtorEq, Int.reduceEq, Int.reduceLE, Int.reduceLT, Int.cast_ofNat_Int, Int.natCast_zero, Int.natCast_one, Int.natCast_add, not_true_eq_false, not_false_eq_true, decide_true, decide_false, Bool.false_eq_true, if_true, if_false, Bool.not_true, Bool.not_false, Int.reduceNeg, Int.reduceSub, Int.reduceAdd, e11, f11]
        refine ⟨by omega, ?_⟩
        refine (hf h c 4 _ (by omega) (by omega) (x11.set (by omega) (by omega))).mono fun v S12 ⟨ru, e, hru, x12, u12⟩ => ?_
        subst e
        have e12 := u12.at_ _ _ (look_set e11) (by omega) (by omega)
        simp only [w_fn, w_ok, w_sSeq, w_sIf, w_sRet, w_sPar2, w_sPar4, w_sNil, w_sNever, w_sExpr, w_sSet, w_sPut, w_sAug, w_sAugS, w_sFor, w_e1, w_e2, w_eF, w_eM, w_cons, w_nil, w_var, w_c, w_tup, w_lst, w_d0, w_and, w_or, w_not, w_if, w_ch, w_ch3, w_sl, w_pOf, w_pNo, w_iOf, w_iEnum, w_iRng, w_lc, v_add, v_iadd, v_addS, v_addT, v_addL, v_sub, v_mul, v_mulT, v_div, v_mod, v_pow, v_neg, v_cmp, v_eq, v_eqS, v_eqB, v_ne, v_notIn, v_isN, v_notN, v_inS, v_inI, v_ix, v_ixL, v_sl, v_slL, v_on1, v_on2, v_abs, v_max2, v_min2, v_len, v_lenR, v_lenL, v_list, v_listR, v_listL, v_tuple, v_tupleL, v_onIs, v_isL, v_append, v_popAt, v_putL, v_it, v_itR, v_itL, v_noRoT, v_noRoL, v_tgN, v_tgT, v_tgCons, v_tgNil, v_eYes, v_okg, v_okg1, List.length_cons, List.length_nil, List.map_cons, List.map_nil, List.replicate, List.cons_append, List.nil_append, List.getElem?_cons_zero, List.getElem?_cons_succ, Option.some.injEq, exists_eq_left', exists_eq_left, List.set_cons_zero, List.set_cons_succ, D.bl.injEq, D.int.injEq, D.str.injEq, D.tup.injEq, D.loc.injEq, decide_eq_true_eq, Bool.not_eq_true', decide_eq_false_iff_not, true_and, and_true, Ob.lst.injEq, Nat.reduceAdd, Nat.reduceSub, ix_0, ix_1, ix_2, upTo_0, ix30, ix31, ix32, List.set_set, cut_1, look_new, set_new, wipeD, List.drop_succ_cons, List.drop_zero, inFlat, List.all_cons, List.all_nil, Bool.and_self, Bool.and_true, reduceIte, List.mem_cons, List.not_mem_nil, or_false, false_or, or_true, true_or, reduceCtorEq, Int.reduceEq, Int.reduceLE, Int.reduceLT, Int.cast_ofNat_Int, Int.natCast_zero, Int.natCast_one, Int.natCast_add, not_true_eq_false, not_false_eq_true, decide_true, decide_false, Bool.false_eq_true, if_true, if_false, Bool.not_true, Bool.not_false, Int.reduceNeg, Int.reduceSub, Int.reduceAdd, e12]
        have uall : Up h c S S12 := by
          have v1 : Up h c S S8 := u7.trans u8
          have v2 : Up h c S S10 := ((v1.trans .push).trans u9).trans u10
          have v3 : Up h c S S11 := (v2.trans .push).trans u11
          exact (v3.set (.inl v2.len)).trans u12
        have hwok : ∀ rl : Ru, rl.ok → Wo.ok ⟨ws, ps, rl⟩ := fun rl hrl => ⟨by show 2 ≤ ws.length; omega, by show ws.length ≤ 6; omega, fun x hx => by have := hws x hx; omega, by show ps.length ≤ 15; omega, (List.nodup_append.mp hnd).1, fun p hp => hall p (List.mem_append_left _ hp), hrl⟩
        have fin : ∀ rl : Ru, rl.ok → L2.atI [D.tup [.str "some", .int (1 + so)], D.tup [.str "half"], D.tup [.str "even"], D.tup [.str "part", .int (1 + tp), .int (1 + tp + pa)]] ru = some rl.enc →
            ∃ d, L2.atI [D.tup [.str "some", .int (1 + so)], D.tup [.str "half"], D.tup [.str "even"], D.tup [.str "part", .int (1 + tp), .int (1 + tp + pa)]] ru = some d ∧ ∃ w : Wo, D.tup [nums ws, D.tup (ps.map pr), d] = w.enc ∧ w.ok ∧ (w.ws.length : Int) ≤ most ∧ (∀ x ∈ w.ws, x ≤ weight) ∧ HS h c S12 ∧ Up h c S S12 :=
          fun rl hrl e => ⟨_, e, ⟨ws, ps, rl⟩, rfl, hwok rl hrl, by show (ws.length : Int) ≤ most; omega, fun x hx => (hws x hx).2, x12, uall⟩
        have : ru = 0 ∨ ru = 1 ∨ ru = 2 ∨ ru = 3 := by omega
        rcases this with rfl | rfl | rfl | rfl
        · exact fin (.som (1 + so)) ⟨by omega, by omega⟩ rfl
        · exact fin .half True.intro rfl
        · exact fin .even True.intro rfl
        · exact fin (.part (1 + tp) (1 + tp + pa)) ⟨by omega, by omega, by omega⟩ rfl
theorem law_turns_ok {f : Fn} (hf : NextOk f) {w : Wo} (hw : w.ok) (hp : w.ps ≠ []) {most : Int} (m1 : 1 ≤ most) (m2 : most ≤ 200) {h c : Nat} {S : Store} (x : HS h c S) :
    Ok (mkFn 3 4 (p_law_turns f) [.loc h, w.enc, .int most] S) fun v S' => ∃ ts, v = nats ts ∧ Tn w ts ∧ (ts.length : Int) ≤ most ∧ HS h c S' ∧ Up h c S S' := by
  have hsz := szl
  have hpl : 0 < w.ps.length := List.length_pos_iff.mpr hp
  have hm := hw.m
  simp only [p_law_turns, w_fn, w_ok, w_sSeq, w_sIf, w_sRet, w_sPar2, w_sPar4, w_sNil, w_sNever, w_sExpr, w_sSet, w_sPut, w_sAug, w_sAugS, w_sFor, w_e1, w_e2, w_eF, w_eM, w_cons, w_nil, w_var, w_c, w_tup, w_lst, w_d0, w_and, w_or, w_not, w_if, w_ch, w_ch3, w_sl, w_pOf, w_pNo, w_iOf, w_iEnum, w_iRng, w_lc, v_add, v_iadd, v_addS, v_addT, v_addL, v_sub, v_mul, v_mulT, v_div, v_mod, v_pow, v_neg, v_cmp, v_eq, v_eqS, v_eqB, v_ne, v_notIn, v_isN, v_notN, v_inS, v_inI, v_ix, v_ixL, v_sl, v_slL, v_on1, v_on2, v_abs, v_max2, v_min2, v_len, v_lenR, v_lenL, v_list, v_listR, v_listL, v_tuple, v_tupleL, v_onIs, v_isL, v_append, v_popAt, v_putL, v_it, v_itR, v_itL, v_noRoT, v_noRoL, v_tgN, v_tgT, v_tgCons, v_tgNil, v_eYes, v_okg, v_okg1, List.length_cons, List.length_nil, List.map_cons, List.map_nil, List.replicate, List.cons_append, List.nil_append, List.getElem?_cons_zero, List.getElem?_cons_succ, Option.some.injEq, exists_eq_left', exists_eq_left, List.set_cons_zero, List.set_cons_succ, D.bl.injEq, D.int.injEq, D.str.injEq, D.tup.injEq, D.loc.injEq, decide_eq_true_eq, Bool.not_eq_true', decide_eq_false_iff_not, true_and, and_true, Ob.lst.injEq, Nat.reduceAdd, Nat.reduceSub, ix_0, ix_1, ix_2, upTo_0, ix30, ix31, ix32, List.set_set, cut_1, look_new, set_new, wipeD, List.drop_succ_cons, List.drop_zero, inFlat, List.all_cons, List.all_nil, Bool.and_self, Bool.and_true, reduceIte, List.mem_cons, List.not_mem_nil, or_false, false_or, or_true, true_or, reduceCtorEq, Int.reduceEq, Int.reduceLE, Int.reduceLT, Int.cast_ofNat_Int, Int.natCast_zero, Int.natCast_one, Int.natCast_add, not_true_eq_false, not_false_eq_true, decide_true, decide_false, Bool.false_eq_true, if_true, if_false, Bool.not_true, Bool.not_false, Int.reduceNeg, Int.reduceSub, Int.reduceAdd]
  refine (hf h c most S (by omega) (by omega) x).mono fun v S1 ⟨r, e, hr, x1, u1⟩ => ?_
  subst e
  simp only [w_fn, w_ok, w_sSeq, w_sIf, w_sRet, w_sPar2, w_sPar4, w_sNil, w_sNever, w_sExpr, w_sSet, w_sPut, w_sAug, w_sAugS, w_sFor, w_e1, w_e2, w_eF, w_eM, w_cons, w_nil, w_var, w_c, w_tup, w_lst, w_d0, w_and, w_or, w_not, w_if, w_ch, w_ch3, w_sl, w_pOf, w_pNo, w_iOf, w_iEnum, w_iRng, w_lc, v_add, v_iadd, v_addS, v_addT, v_addL, v_sub, v_mul, v_mulT, v_div, v_mod, v_pow, v_neg, v_cmp, v_eq, v_eqS, v_eqB, v_ne, v_notIn, v_isN, v_notN, v_inS, v_inI, v_ix, v_ixL, v_sl, v_slL, v_on1, v_on2, v_abs, v_max2, v_min2, v_len, v_lenR, v_lenL, v_list, v_listR, v_listL, v_tuple, v_tupleL, v_onIs, v_isL, v_append, v_popAt, v_putL, v_it, v_itR, v_itL, v_noRoT, v_noRoL, v_tgN, v_tgT, v_tgCons, v_tgNil, v_eYes, v_okg, v_okg1, List.length_cons, List.length_nil, List.map_cons, List.map_nil, List.replicate, List.cons_append, List.nil_append, List.getElem?_cons_zero, List.getElem?_cons_succ, Option.some.injEq, exists_eq_left', exists_eq_left, List.set_cons_zero, List.set_cons_succ, D.bl.injEq, D.int.injEq, D.str.injEq, D.tup.injEq, D.loc.injEq, decide_eq_true_eq, Bool.not_eq_true', decide_eq_false_iff_not, true_and, and_true, Ob.lst.injEq, Nat.reduceAdd, Nat.reduceSub, ix_0, ix_1, ix_2, upTo_0, ix30, ix31, ix32, List.set_set, cut_1, look_new, set_new, wipeD, List.drop_succ_cons, List.drop_zero, inFlat, List.all_cons, List.all_nil, Bool.and_self, Bool.and_true, reduceIte, List.mem_cons, List.not_mem_nil, or_false, false_or, or_true, true_or, reduceCtorEq, Int.reduceEq, Int.reduceLE, Int.reduceLT, Int.cast_ofNat_Int, Int.natCast_zero, Int.natCast_one, Int.natCast_add, not_true_eq_false, not_false_eq_true, decide_true, decide_false, Bool.false_eq_true, if_true, if_false, Bool.not_true, Bool.not_false, Int.reduceNeg, Int.reduceSub, Int.reduceAdd]
  refine ⟨by omega, ?_⟩
  refine lc_ix (fun i acc S' => ∃ ts : List Nat, acc = ts.map (fun n => .int (n : Nat)) ∧ (∀ t ∈ ts, t < w.ps.length) ∧ ts.length = i ∧ HS h c S' ∧ Up h c S S') ⟨[], rfl, by simp, rfl, x1, u1⟩ ?_ ?_
  · rintro i x' acc S2 hx ⟨ts, rfl, hts, hlen, x2, u2⟩
    simp only [w_fn, w_ok, w_sSeq, w_sIf, w_sRet, w_sPar2, w_sPar4, w_sNil, w_sNever, w_sExpr, w_sSet, w_sPut, w_sAug, w_sAugS, w_sFor, w_e1, w_e2, w_eF, w_eM, w_cons, w_nil, w_var, w_c, w_tup, w_lst, w_d0, w_and, w_or, w_not, w_if, w_ch, w_ch3, w_sl, w_pOf, w_pNo, w_iOf, w_iEnum, w_iRng, w_lc, v_add, v_iadd, v_addS, v_addT, v_addL, v_sub, v_mul, v_mulT, v_div, v_mod, v_pow, v_neg, v_cmp, v_eq, v_eqS, v_eqB, v_ne, v_notIn, v_isN, v_notN, v_inS, v_inI, v_ix, v_ixL, v_sl, v_slL, v_on1, v_on2, v_abs, v_max2, v_min2, v_len, v_lenR, v_lenL, v_list, v_listR, v_listL, v_tuple, v_tupleL, v_onIs, v_isL, v_append, v_popAt, v_putL, v_it, v_itR, v_itL, v_noRoT, v_noRoL, v_tgN, v_tgT, v_tgCons, v_tgNil, v_eYes, v_okg, v_okg1, List.length_cons, List.length_nil, List.map_cons, List.map_nil, List.replicate, List.cons_append, List.nil_append, List.getElem?_cons_zero, List.getElem?_cons_succ, Option.some.injEq, exists_eq_left', exists_eq_left, List.set_cons_zero, List.set_cons_succ, D.bl.injEq, D.int.injEq, D.str.injEq, D.tup.injEq, D.loc.injEq, decide_eq_true_eq, Bool.not_eq_true', decide_eq_false_iff_not, true_and, and_true, Ob.lst.injEq, Nat.reduceAdd, Nat.reduceSub, ix_0, ix_1, ix_2, upTo_0, ix30, ix31, ix32, List.set_set, cut_1, look_new, set_new, wipeD, List.drop_succ_cons, List.drop_zero, inFlat, List.all_cons, List.all_nil, Bool.and_self, Bool.and_true, reduceIte, List.mem_cons, List.not_mem_nil, or_false, false_or, or_true, true_or, reduceCtorEq, Int.reduceEq, Int.reduceLE, Int.reduceLT, Int.cast_ofNat_Int, Int.natCast_zero, Int.natCast_one, Int.natCast_add, not_true_eq_false, not_false_eq_true, decide_true, decide_false, Bool.false_eq_true, if_true, if_false, Bool.not_true, Bool.not_false, Int.reduceNeg, Int.reduceSub, Int.reduceAdd, Wo.enc, prs, List.length_map]
    refine .inl ((hf h c w.ps.length S2 (by omega) (by omega) x2).mono fun v S3 ⟨r', e, hr', x3, u3⟩ => ⟨ts ++ [r'.toNat], ?_, fun z hz => ?_, by simp [hlen], x3, u2.trans u3⟩)
    · subst e
      simp only [List.map_append, List.map_cons, List.map_nil]
      rw [Int.toNat_of_nonneg hr'.1]
    · rcases List.mem_append.mp hz with hz | hz
      · exact hts z hz
      · rw [List.mem_singleton.mp hz]; omega
  · rintro acc S2 ⟨ts, rfl, hts, hlen, x2, u2⟩
    rw [List.length_range] at hlen
    simp only [w_fn, w_ok, w_sSeq, w_sIf, w_sRet, w_sPar2, w_sPar4, w_sNil, w_sNever, w_sExpr, w_sSet, w_sPut, w_sAug, w_sAugS, w_sFor, w_e1, w_e2, w_eF, w_eM, w_cons, w_nil, w_var, w_c, w_tup, w_lst, w_d0, w_and, w_or, w_not, w_if, w_ch, w_ch3, w_sl, w_pOf, w_pNo, w_iOf, w_iEnum, w_iRng, w_lc, v_add, v_iadd, v_addS, v_addT, v_addL, v_sub, v_mul, v_mulT, v_div, v_mod, v_pow, v_neg, v_cmp, v_eq, v_eqS, v_eqB, v_ne, v_notIn, v_isN, v_notN, v_inS, v_inI, v_ix, v_ixL, v_sl, v_slL, v_on1, v_on2, v_abs, v_max2, v_min2, v_len, v_lenR, v_lenL, v_list, v_listR, v_listL, v_tuple, v_tupleL, v_onIs, v_isL, v_append, v_popAt, v_putL, v_it, v_itR, v_itL, v_noRoT, v_noRoL, v_tgN, v_tgT, v_tgCons, v_tgNil, v_eYes, v_okg, v_okg1, List.length_cons, List.length_nil, List.map_cons, List.map_nil, List.replicate, List.cons_append, List.nil_append, List.getElem?_cons_zero, List.getElem?_cons_succ, Option.some.injEq, exists_eq_left', exists_eq_left, List.set_cons_zero, List.set_cons_succ, D.bl.injEq, D.int.injEq, D.str.injEq, D.tup.injEq, D.loc.injEq, decide_eq_true_eq, Bool.not_eq_true', decide_eq_false_iff_not, true_and, and_true, Ob.lst.injEq, Nat.reduceAdd, Nat.reduceSub, ix_0, ix_1, ix_2, upTo_0, ix30, ix31, ix32, List.set_set, cut_1, look_new, set_new, wipeD, List.drop_succ_cons, List.drop_zero, inFlat, List.all_cons, List.all_nil, Bool.and_self, Bool.and_true, reduceIte, List.mem_cons, List.not_mem_nil, or_false, false_or, or_true, true_or, reduceCtorEq, Int.reduceEq, Int.reduceLE, Int.reduceLT, Int.cast_ofNat_Int, Int.natCast_zero, Int.natCast_one, Int.natCast_add, not_true_eq_false, not_false_eq_true, decide_true, decide_false, Bool.false_eq_true, if_true, if_false, Bool.not_true, Bool.not_false, Int.reduceNeg, Int.reduceSub, Int.reduceAdd, look_new]
    exact ⟨ts, rfl, ⟨fun z => by rw [z] at hlen; simp at hlen; omega, hts⟩, by omega, x2.push, u2.trans .push⟩
end Mn
/-! How many worlds there are: a bound of every walk. -/
namespace Mn
open PySem
def cnt : Nat → Nat → Nat
  | 0, 0 => 1
  | 0, _ + 1 => 0
  | n + 1, 0 => cnt n 0
  | n + 1, s + 1 => cnt (n + 1) s + cnt n (s + 1)
def incH : List Nat → List Nat
  | [] => []
  | x :: xs => (x + 1) :: xs
def cps : Nat → Nat → List (List Nat)
  | 0, 0 => [[]]
  | 0, _ + 1 => []
  | n + 1, 0 => (cps n 0).map (0 :: ·)
  | n + 1, s + 1 => (cps (n + 1) s).map incH ++ (cps n (s + 1)).map (0 :: ·)
theorem cps_len : ∀ n s, (cps n s).length = cnt n s
  | 0, 0 => by simp [cps, cnt]
  | 0, _ + 1 => by simp [cps, cnt]
  | n + 1, 0 => by rw [cps, cnt, List.length_map, cps_len n 0]
  | n + 1, s + 1 => by rw [cps, cnt, List.length_append, List.length_map, List.length_map, cps_len (n + 1) s, cps_len n (s + 1)]
theorem cps_mem : ∀ (n s : Nat) (l : List Nat), l.length = n → l.sum = s → l ∈ cps n s
  | 0, 0, l, h, _ => by rw [List.length_eq_zero_iff.mp h]; simp [cps]
  | 0, s + 1, l, h, e => by rw [List.length_eq_zero_iff.mp h] at e; simp at e
  | n + 1, 0, x :: l, h, e => by
    simp only [List.sum_cons, List.length_cons] at h e
    have hx : x = 0 := by omega
    subst hx
    rw [cps]
    exact List.mem_map.mpr ⟨l, cps_mem n 0 l (by omega) (by omega), rfl⟩
  | n + 1, s + 1, 0 :: l, h, e => by
    simp only [List.sum_cons, List.length_cons] at h e
    rw [cps]
    exact List.mem_append_right _ (List.mem_map.mpr ⟨l, cps_mem n (s + 1) l (by omega) (by omega), rfl⟩)
  | n + 1, s + 1, (x + 1) :: l, h, e => by
    simp only [List.sum_cons, List.length_cons] at h e
    rw [cps]
    exact List.mem_append_left _ (List.mem_map.mpr ⟨x :: l, cps_mem (n + 1) s (x :: l) (by simp; omega) (by simp; omega), rfl⟩)
theorem cnt_s : ∀ {n s t : Nat}, s ≤ t → cnt (n + 1) s ≤ cnt (n + 1) t := by
  intro n s t h
  induction t with
  | zero => rw [show s = 0 by omega]; exact Nat.le_refl _
  | succ t ih =>
    by_cases e : s = t + 1
    · rw [e]; exact Nat.le_refl _
    · have := ih (by omega)
      rw [cnt]
      omega
theorem cnt_n1 (n s : Nat) : cnt n s ≤ cnt (n + 1) s := by
  cases s with
  | zero => rw [cnt]; exact Nat.le_refl _
  | succ s => rw [cnt]; omega
theorem cnt_n {n m s : Nat} (h : n ≤ m) : cnt n s ≤ cnt m s := by
  induction m with
  | zero => rw [show n = 0 by omega]; exact Nat.le_refl _
  | succ m ih =>
    by_cases e : n = m + 1
    · rw [e]; exact Nat.le_refl _
    · exact Nat.le_trans (ih (by omega)) (cnt_n1 m s)
theorem cnt0 : ∀ n, cnt n 0 = 1
  | 0 => by simp [cnt]
  | n + 1 => by rw [cnt, cnt0 n]
theorem cnt1 : ∀ s, cnt 1 s = 1
  | 0 => cnt0 1
  | s + 1 => by rw [cnt, cnt1 s, cnt]
theorem cnt2 : ∀ s, cnt 2 s = s + 1
  | 0 => cnt0 2
  | s + 1 => by rw [cnt, cnt2 s, cnt1]
theorem cnt3 : ∀ s, 2 * cnt 3 s = (s + 1) * (s + 2)
  | 0 => by rw [cnt0]
  | s + 1 => by
    have := cnt3 s
    rw [cnt, Nat.mul_add, this, cnt2]
    grind
theorem cnt4 : ∀ s, 6 * cnt 4 s = (s + 1) * (s + 2) * (s + 3)
  | 0 => by rw [cnt0]
  | s + 1 => by
    have := cnt4 s
    have := cnt3 (s + 1)
    rw [cnt]
    grind
theorem cnt5 : ∀ s, 24 * cnt 5 s = (s + 1) * (s + 2) * (s + 3) * (s + 4)
  | 0 => by rw [cnt0]
  | s + 1 => by
    have := cnt5 s
    have := cnt4 (s + 1)
    rw [cnt]
    grind
theorem cnt6 : ∀ s, 120 * cnt 6 s = (s + 1) * (s + 2) * (s + 3) * (s + 4) * (s + 5)
  | 0 => by rw [cnt0]
  | s + 1 => by
    have := cnt6 s
    have := cnt5 (s + 1)
    rw [cnt]
    grind
theorem nodup_le {α : Type} [DecidableEq α] : ∀ (l m : List α), l.Nodup → (∀ x, x ∈ l → x ∈ m) → l.length ≤ m.length
  | [], _, _, _ => Nat.zero_le _
  | x :: l, m, h, s => by
    rw [List.nodup_cons] at h
    have hx := s x List.mem_cons_self
    have := nodup_le l (m.erase x) h.2 fun y hy => (List.mem_erase_of_ne fun e => h.1 (by rw [← e]; exact hy)).mpr (s y (List.mem_cons_of_mem _ hy))
    rw [List.length_erase_of_mem hx] at this
    have : 0 < m.length := List.length_pos_of_mem hx
    simp only [List.length_cons]
    omega
theorem toNat_inj : ∀ {a b : List Int}, (∀ x ∈ a, 0 ≤ x) → (∀ x ∈ b, 0 ≤ x) → a.map Int.toNat = b.map Int.toNat → a = b
  | [], [], _, _, _ => rfl
  | [], _ :: _, _, _, h => by cases h
  | _ :: _, [], _, _, h => by cases h
  | x :: a, y :: b, ha, hb, h => by
    simp only [List.map_cons, List.cons.injEq] at h
    have h1 := ha x List.mem_cons_self
    have h2 := hb y List.mem_cons_self
    rw [toNat_inj (fun z hz => ha z (List.mem_cons_of_mem _ hz)) (fun z hz => hb z (List.mem_cons_of_mem _ hz)) h.2, show x = y by omega]
theorem toNat_sum : ∀ {a : List Int}, (∀ x ∈ a, 0 ≤ x) → ((a.map Int.toNat).sum : Int) = a.sum
  | [], _ => rfl
  | x :: a, h => by
    have h1 := h x List.mem_cons_self
    have := toNat_sum (a := a) fun z hz => h z (List.mem_cons_of_mem _ hz)
    simp only [List.map_cons, List.sum_cons]
    omega
theorem go_ok {w : Wo} (h : w.ok) {ts : List Nat} (ht : Tn w ts) : ∀ i, (∀ x ∈ Wn w ts i, 0 ≤ x) ∧ (Wn w ts i).sum = w.ws.sum
  | 0 => ⟨fun x hx => (h.lo x hx).1, rfl⟩
  | i + 1 => by
    have ih := go_ok h ht i
    have hp := pr_ok h (turn_lt ht i)
    have hl : (Wn w ts i).length = w.ws.length := go_len i
    rw [← hl] at hp
    exact ⟨behind_pos h.ru hp.1 hp.2 ih.1, (behind_sum hp.1 hp.2).trans ih.2⟩
theorem bound {w : Wo} (h : w.ok) {ts : List Nat} (ht : Tn w ts) {L : Nat} (hd : ∀ i j, i < j → j < L → Xn w ts i ≠ Xn w ts j) : L ≤ cnt w.ws.length w.ws.sum.toNat * ts.length := by
  have hp := ht.pos
  have key := nodup_le ((List.range L).map fun i => ((Wn w ts i).map Int.toNat, i % ts.length)) ((cps w.ws.length w.ws.sum.toNat).flatMap fun l => (List.range ts.length).map fun k => (l, k)) ?_ ?_
  · simp only [List.length_map, List.length_range, List.length_flatMap] at key
    rw [show (List.map (fun a => ts.length) (cps w.ws.length w.ws.sum.toNat)).sum = cnt w.ws.length w.ws.sum.toNat * ts.length by rw [List.map_const', List.sum_replicate_nat, cps_len]] at key
    exact key
  · refine List.pairwise_map.mpr ((List.pairwise_lt_range).imp_of_mem fun {a b} ha hb hab e => ?_)
    rw [List.mem_range] at hb
    refine hd a b hab hb ?_
    simp only [Prod.mk.injEq] at e
    simp only [Xn, Prod.mk.injEq]
    exact ⟨toNat_inj (go_ok h ht a).1 (go_ok h ht b).1 e.1, e.2⟩
  · intro x hx
    obtain ⟨i, _, rfl⟩ := List.mem_map.mp hx
    refine List.mem_flatMap.mpr ⟨_, cps_mem _ _ _ ?_ ?_, List.mem_map.mpr ⟨i % ts.length, List.mem_range.mpr (Nat.mod_lt _ hp), rfl⟩⟩
    · rw [List.length_map]; exact go_len i
    · have := toNat_sum (go_ok h ht i).1
      have := (go_ok h ht i).2
      omega
end Mn
/-! Turns begun further on. -/
namespace Mn
open PySem
def AfterOk (f : Fn) (w : Wo) (ts : List Nat) : Prop := ∀ (m : Nat) (S : Store), m ≤ 1000000000000 → Ok (f [w.enc, nats ts, .int m] S) fun v S' => v = nums (Wn w ts m) ∧ Gr S S'
def PeriodOk (f : Fn) (w : Wo) (ts : List Nat) : Prop := ∀ S, Ok (f [w.enc, nats ts] S) fun v S' => ∃ k L, Lasso w ts k L ∧ v = .tup [.int (k : Nat), .int ((L - k : Nat) : Int)] ∧ Gr S S'
def RestsOk (f : Fn) (w : Wo) (ts : List Nat) : Prop := ∀ S, Ok (f [w.enc, nats ts] S) fun v S' => RestD w ts v ∧ Gr S S'
/-- begun after far meetings -/
def later (w : Wo) (ts : List Nat) (far : Nat) : Wo := ⟨Wn w ts far, w.ps, w.ru⟩
def turned (ts : List Nat) (far : Nat) : List Nat := ts.drop (far % ts.length) ++ ts.take (far % ts.length)
theorem turned_len {ts : List Nat} {far : Nat} : (turned ts far).length = ts.length := by
  simp only [turned, List.length_append, List.length_drop, List.length_take]
  by_cases h : 0 < ts.length
  · have := Nat.mod_lt far h; omega
  · omega
theorem turned_mem {ts : List Nat} {far t : Nat} (h : t ∈ turned ts far) : t ∈ ts := by
  rcases List.mem_append.mp h with h | h
  · exact List.mem_of_mem_drop h
  · exact List.mem_of_mem_take h
theorem turn_turned {ts : List Nat} (hp : 0 < ts.length) (far i : Nat) : turn (turned ts far) i = turn ts (far + i) := by
  unfold turn
  rw [turned_len, List.getD_eq_getElem?_getD, List.getD_eq_getElem?_getD]
  congr 1
  have h1 := Nat.mod_lt far hp
  have h2 := Nat.mod_lt i hp
  have e : (far + i) % ts.length = (far % ts.length + i % ts.length) % ts.length := Nat.add_mod _ _ _
  rw [e]
  simp only [turned]
  generalize far % ts.length = a at *
  generalize i % ts.length = b at *
  by_cases h : a + b < ts.length
  · rw [Nat.mod_eq_of_lt h, List.getElem?_append_left (by rw [List.length_drop]; omega), List.getElem?_drop]
  · rw [Nat.mod_eq_sub_mod (show ts.length ≤ a + b by omega), Nat.mod_eq_of_lt (show a + b - ts.length < ts.length by omega), List.getElem?_append_right (by rw [List.length_drop]; omega), List.length_drop, List.getElem?_take, if_pos (by omega)]
    congr 1
    omega
theorem go_shift {r : Ru} {ps : List Pr} {tn tn' : Nat → Nat} {ws : List Int} {far : Nat} (h : ∀ i, tn' i = tn (far + i)) : ∀ i, go r ps tn' (go r ps tn ws far) i = go r ps tn ws (far + i)
  | 0 => rfl
  | i + 1 => by
    rw [go, go_shift h i, h i, ← Nat.add_assoc, go]
theorem Wn_later {w : Wo} {ts : List Nat} (hp : 0 < ts.length) (far i : Nat) : Wn (later w ts far) (turned ts far) i = Wn w ts (far + i) := go_shift (fun i => turn_turned hp far i) i
theorem turn_two {ts : List Nat} (hp : 0 < ts.length) (i : Nat) : turn (ts ++ ts) i = turn ts i := by
  unfold turn
  rw [List.getD_eq_getElem?_getD, List.getD_eq_getElem?_getD, List.length_append]
  congr 1
  have h1 := Nat.mod_lt i hp
  have h2 := Nat.mod_lt i (show 0 < ts.length + ts.length by omega)
  have e : i % (ts.length + ts.length) % ts.length = i % ts.length := Nat.mod_mod_of_dvd i ⟨2, by omega⟩
  generalize i % (ts.length + ts.length) = a at *
  by_cases h : a < ts.length
  · rw [List.getElem?_append_left h, ← e, Nat.mod_eq_of_lt h]
  · rw [List.getElem?_append_right (by omega), ← e, Nat.mod_eq_sub_mod (by omega), Nat.mod_eq_of_lt (by omega)]
theorem go_tn {r : Ru} {ps : List Pr} {tn tn' : Nat → Nat} {ws : List Int} (h : ∀ i, tn' i = tn i) : ∀ i, go r ps tn' ws i = go r ps tn ws i
  | 0 => rfl
  | i + 1 => by rw [go, go_tn h i, h i, go]
theorem Wn_two {w : Wo} {ts : List Nat} (hp : 0 < ts.length) (i : Nat) : Wn w (ts ++ ts) i = Wn w ts i := go_tn (fun i => turn_two hp i) i
theorem Xn_later {w : Wo} {ts : List Nat} (hp : 0 < ts.length) (far : Nat) {i j : Nat} : Xn (later w ts far) (turned ts far) i = Xn (later w ts far) (turned ts far) j ↔ Xn w ts (far + i) = Xn w ts (far + j) := by
  simp only [Xn, Prod.mk.injEq, Wn_later hp, turned_len]
  refine and_congr_right fun _ => ⟨fun h => by rw [Nat.add_mod, h, ← Nat.add_mod], fun h => ?_⟩
  have h1 : (far + i) % ts.length = (far + j) % ts.length := h
  have h2 := Nat.mod_lt i hp
  have h3 := Nat.mod_lt j hp
  have h4 := Nat.mod_lt far hp
  rw [Nat.add_mod far i, Nat.add_mod far j] at h1
  generalize far % ts.length = a at *
  generalize i % ts.length = b at *
  generalize j % ts.length = c at *
  by_cases hb : a + b < ts.length <;> by_cases hc : a + c < ts.length
  · rw [Nat.mod_eq_of_lt hb, Nat.mod_eq_of_lt hc] at h1; omega
  · rw [Nat.mod_eq_of_lt hb, Nat.mod_eq_sub_mod (by omega), Nat.mod_eq_of_lt (by omega)] at h1; omega
  · rw [Nat.mod_eq_of_lt hc, Nat.mod_eq_sub_mod (by omega), Nat.mod_eq_of_lt (by omega)] at h1; omega
  · rw [Nat.mod_eq_sub_mod (by omega), Nat.mod_eq_of_lt (show a + b - ts.length < ts.length by omega), Nat.mod_eq_sub_mod (by omega), Nat.mod_eq_of_lt (by omega)] at h1; omega
theorem Lasso.later {w : Wo} {ts : List Nat} (hp : 0 < ts.length) {f L : Nat} (l : Lasso w ts f L) (far : Nat) : Lasso (later w ts far) (turned ts far) (f - far) (f - far + (L - f)) := by
  have hlt := l.lt
  refine ⟨by omega, ?_, fun i j hij hj => ?_⟩
  · rw [Xn_later hp, ← Nat.add_assoc]
    exact l.add (by omega)
  · rw [ne_eq, Xn_later hp]
    intro e
    by_cases h : far ≤ f
    · exact l.dis (far + i) (far + j) (by omega) (by omega) e
    · have a1 := l.far (m := far + i) (by omega)
      have a2 := l.far (m := far + j) (by omega)
      have b1 := Nat.mod_lt (far + i - f) (show 0 < L - f by omega)
      have b2 := Nat.mod_lt (far + j - f) (show 0 < L - f by omega)
      have e2 := a1.trans (e.trans a2.symm)
      have hne : (far + i - f) % (L - f) ≠ (far + j - f) % (L - f) := by
        intro z
        have c1 := Nat.mod_add_div (far + i - f) (L - f)
        have c2 := Nat.mod_add_div (far + j - f) (L - f)
        have hjp : j < L - f := by omega
        rw [z] at c1
        have hlt2 : (L - f) * ((far + i - f) / (L - f)) < (L - f) * ((far + j - f) / (L - f)) := by omega
        have := Nat.lt_of_mul_lt_mul_left hlt2
        have := Nat.mul_le_mul_left (L - f) (show (far + i - f) / (L - f) + 1 ≤ (far + j - f) / (L - f) by omega)
        rw [Nat.mul_add] at this
        omega
      rcases Nat.lt_or_gt_of_ne hne with z | z
      · exact l.dis _ _ (Nat.add_lt_add_left z f) (by omega) e2
      · exact l.dis _ _ (Nat.add_lt_add_left z f) (by omega) e2.symm
theorem Con_later {w : Wo} {ts : List Nat} (hp : 0 < ts.length) {far j : Nat} : Con (later w ts far) (turned ts far) j ↔ Con w ts (far + j) := by
  refine ⟨fun h i hi => ?_, fun h i hi => ?_⟩
  · have := h (i - far) (by omega)
    rw [Wn_later hp, Wn_later hp, show far + (i - far) = i by omega] at this
    exact this
  · rw [Wn_later hp, Wn_later hp]
    exact h _ (by omega)
theorem Con.up {w : Wo} {ts : List Nat} {k m : Nat} (h : Con w ts k) (hm : k ≤ m) : Con w ts m := fun i hi => (h i (by omega)).trans (h m hm).symm
theorem later_ok {w : Wo} (h : w.ok) {ts : List Nat} (ht : Tn w ts) {far : Nat} (h30 : ∀ x ∈ Wn w ts far, x ≤ 30) : (later w ts far).ok := by
  have hl : (Wn w ts far).length = w.ws.length := go_len far
  refine ⟨by show 2 ≤ (Wn w ts far).length; rw [hl]; exact h.n2, by show (Wn w ts far).length ≤ 6; rw [hl]; exact h.n6, fun x hx => ⟨(go_ok h ht far).1 x hx, h30 x hx⟩, h.m, h.nd, fun p hp => ?_, h.ru⟩
  show p.1 < p.2 ∧ p.2 < (Wn w ts far).length
  rw [hl]; exact h.pr p hp
theorem later_tn {w : Wo} {ts : List Nat} (ht : Tn w ts) {far : Nat} : Tn (later w ts far) (turned ts far) :=
  ⟨fun z => by have := ht.pos; rw [← turned_len (far := far), z] at this; simp at this, fun t h => ht.lt t (turned_mem h)⟩
end Mn
/-! The end of a plain law. -/
namespace Mn
open PySem
theorem ok_bl {r : R D} (h : Ok r fun v _ => v = .bl true) : ∃ S, r = .ok (.bl true) S := by
  cases r with
  | ok a S => exact ⟨S, by rw [show a = .bl true from h]⟩
  | exc _ _ => exact h.elim
  | bad => exact h.elim
end Mn
/-! Law k32. -/
namespace Mn
open PySem
structure Cls (w : Wo) (ts : List Nat) : Prop where
  ok : w.ok
  tn : Tn w ts
  tl : ts.length ≤ 18
  n5 : w.ws.length ≤ 5
  sm : w.ws.sum ≤ 60
def TurnsOk (f : Fn) (most : Int) : Prop := ∀ (w : Wo) (h c : Nat) (S : Store), w.ok → w.ps ≠ [] → HS h c S → Ok (f [.loc h, w.enc, .int most] S) fun v S' => ∃ ts, v = nats ts ∧ Tn w ts ∧ (ts.length : Int) ≤ most ∧ HS h c S' ∧ Up h c S S'
def MixOk (f : Fn) (seed : Int) : Prop := ∀ (ns : List Int) (S : Store), ns.length ≤ 1000 → Ok (f [.ro (ns.map .int), .int seed] S) fun v S' => ∃ h c, v = .loc h ∧ HS h c S'
theorem foldl_max : ∀ (xs : List Int) (a : Int), a ≤ xs.foldl max a ∧ ∀ x ∈ xs, x ≤ xs.foldl max a
  | [], a => ⟨Int.le_refl _, fun _ h => by cases h⟩
  | y :: ys, a => by
    have h := foldl_max ys (max a y)
    simp only [List.foldl_cons]
    refine ⟨by omega, fun x hx => ?_⟩
    rcases List.mem_cons.mp hx with rfl | hx
    · omega
    · exact h.2 x hx
theorem sum_le : ∀ {xs : List Int} {b : Int}, (∀ x ∈ xs, x ≤ b) → xs.sum ≤ xs.length * b
  | [], _, _ => by simp
  | x :: xs, b, h => by
    have := sum_le (xs := xs) fun z hz => h z (List.mem_cons_of_mem _ hz)
    have := h x List.mem_cons_self
    simp only [List.sum_cons, List.length_cons, Int.natCast_add, Int.add_mul]
    omega
theorem prs_ne {w : Wo} : (prs w.ps = .tup []) ↔ w.ps = [] := by
  simp [prs]
theorem pl_prs {ps : List Pr} : pl 8 (prs ps) = true := by
  simp [pl, prs, pr]
def mx : List Int → Int
  | [] => 0
  | n :: r => r.foldl max n
theorem mx_ge {xs : List Int} : ∀ x ∈ xs, x ≤ mx xs := by
  cases xs with
  | nil => intro x h; cases h
  | cons n r =>
    intro x h
    rcases List.mem_cons.mp h with rfl | h
    · exact (foldl_max r _).1
    · exact (foldl_max r n).2 x h
theorem v_max {xs : List Int} (h : xs ≠ []) {S : Store} {Q : D → Store → Prop} : Ok (bMax (nums xs) S) Q = Q (.int (mx xs)) S := by
  cases xs with
  | nil => exact absurd rfl h
  | cons n r =>
    rw [nums, v_onIs]
    simp only [Option.some.injEq, exists_eq_left']; rfl
theorem p6 : ((10 : Int) ^ Int.toNat 6) = 1000000 := by decide +kernel
theorem nats_len {ts : List Nat} {S : Store} {Q : D → Store → Prop} : Ok (bLen (nats ts) S) Q = Q (.int ts.length) S := by
  rw [nats, v_len, List.length_map]
theorem nats_sl {ts : List Nat} {lo hi : Option Int} {S : Store} {Q : D → Store → Prop} : Ok (oSl (nats ts) lo hi S) Q = Q (nats (cut ts lo hi)) S := by
  rw [nats, v_sl]
  have : cut (ts.map fun n => D.int (n : Nat)) lo hi = (cut ts lo hi).map fun n => D.int (n : Nat) := by
    simp only [cut, List.length_map, List.map_take, List.map_drop]
  rw [this]; rfl
theorem nats_add {a b : List Nat} {S : Store} {Q : D → Store → Prop} (h : a.length + b.length ≤ sizeLine) : Ok (oAdd (nats a) (nats b) S) Q = Q (nats (a ++ b)) S := by
  rw [nats, nats, v_addT]
  simp only [List.length_map, h, true_and, nats, List.map_append]
theorem cut_to {α : Type} (xs : List α) (k : Nat) : cut xs none (some (k : Int)) = xs.take k := by
  unfold cut
  rw [HT.sIx_nat, HT.sIx_none, Nat.sub_zero, List.drop_zero]
  by_cases h : k ≤ xs.length
  · rw [Nat.min_eq_left h]
  · rw [Nat.min_eq_right (by omega), List.take_of_length_le (Nat.le_refl _), List.take_of_length_le (by omega)]
theorem law_k32_ok {fa fr fp fn ft fw fm : Fn} (hn : NextOk fn) (hw : WorldOk fw 5 12) (ht : TurnsOk ft 9) (hm : MixOk fm 137) (ha : ∀ w ts, Cls w ts → AfterOk fa w ts) (hp : ∀ w ts, Cls w ts → PeriodOk fp w ts) (hr : ∀ w ts, Cls w ts → RestsOk fr w ts) {ns : List Int} (hns : ns.length ≤ 63) :
    Ok (mkFn 1 15 (p_law_k32 fa fr fp fn ft fw fm) [.ro (ns.map .int)] []) fun v _ => v = .bl true := by
  simp only [p_law_k32, w_fn, w_ok, w_sSeq, w_sIf, w_sRet, w_sPar2, w_sPar4, w_sNil, w_sNever, w_sExpr, w_sSet, w_sPut, w_sAug, w_sAugS, w_sFor, w_e1, w_e2, w_eF, w_eM, w_cons, w_nil, w_var, w_c, w_tup, w_lst, w_d0, w_and, w_or, w_not, w_if, w_ch, w_ch3, w_sl, w_pOf, w_pNo, w_iOf, w_iEnum, w_iRng, w_lc, v_add, v_iadd, v_addS, v_addT, v_addL, v_sub, v_mul, v_mulT, v_div, v_mod, v_pow, v_neg, v_cmp, v_eq, v_eqS, v_eqB, v_ne, v_notIn, v_isN, v_notN, v_inS, v_inI, v_ix, v_ixL, v_sl, v_slL, v_on1, v_on2, v_abs, v_max2, v_min2, v_len, v_lenR, v_lenL, v_list, v_listR, v_listL, v_tuple, v_tupleL, v_onIs, v_isL, v_append, v_popAt, v_putL, v_it, v_itR, v_itL, v_noRoT, v_noRoL, v_tgN, v_tgT, v_tgCons, v_tgNil, v_eYes, v_okg, v_okg1, List.length_cons, List.length_nil, List.map_cons, List.map_nil, List.replicate, List.cons_append, List.nil_append, List.getElem?_cons_zero, List.getElem?_cons_succ, Option.some.injEq, exists_eq_left', exists_eq_left, List.set_cons_zero, List.set_cons_succ, D.bl.injEq, D.int.injEq, D.str.injEq, D.tup.injEq, D.loc.injEq, decide_eq_true_eq, Bool.not_eq_true', decide_eq_false_iff_not, true_and, and_true, Ob.lst.injEq, Nat.reduceAdd, Nat.reduceSub, ix_0, ix_1, ix_2, upTo_0, ix30, ix31, ix32, List.set_set, cut_1, look_new, set_new, wipeD, List.drop_succ_cons, List.drop_zero, inFlat, List.all_cons, List.all_nil, Bool.and_self, Bool.and_true, reduceIte, List.mem_cons, List.not_mem_nil, or_false, false_or, or_true, true_or, reduceCtorEq, Int.reduceEq, Int.reduceLE, Int.reduceLT, Int.cast_ofNat_Int, Int.natCast_zero, Int.natCast_one, Int.natCast_add, not_true_eq_false, not_false_eq_true, decide_true, decide_false, Bool.false_eq_true, if_true, if_false, Bool.not_true, Bool.not_false, Int.reduceNeg, Int.reduceSub, Int.reduceAdd]
  refine (hm ns [] (by omega)).mono fun v S1 ⟨h, c, e, x1⟩ => ?_
  subst e
  refine ⟨by decide, ?_⟩
  refine for_ix (fun i σ S' => HS h c S' ∧ ∃ y2 y3 y4 y5 y6 y7 y8 y9 y10 y11 y12 y13 y14, σ = [some (.ro (ns.map .int)), some (.loc h), y2, y3, y4, y5, y6, y7, y8, y9, y10, y11, y12, y13, y14]) ⟨x1, _, _, _, _, _, _, _, _, _, _, _, _, _, rfl⟩ ?_ ?_
  · rintro i o σ S2 ho ⟨x2, y2, y3, y4, y5, y6, y7, y8, y9, y10, y11, y12, y13, y14, rfl⟩
    simp only [w_fn, w_ok, w_sSeq, w_sIf, w_sRet, w_sPar2, w_sPar4, w_sNil, w_sNever, w_sExpr, w_sSet, w_sPut, w_sAug, w_sAugS, w_sFor, w_e1, w_e2, w_eF, w_eM, w_cons, w_nil, w_var, w_c, w_tup, w_lst, w_d0, w_and, w_or, w_not, w_if, w_ch, w_ch3, w_sl, w_pOf, w_pNo, w_iOf, w_iEnum, w_iRng, w_lc, v_add, v_iadd, v_addS, v_addT, v_addL, v_sub, v_mul, v_mulT, v_div, v_mod, v_pow, v_neg, v_cmp, v_eq, v_eqS, v_eqB, v_ne, v_notIn, v_isN, v_notN, v_inS, v_inI, v_ix, v_ixL, v_sl, v_slL, v_on1, v_on2, v_abs, v_max2, v_min2, v_len, v_lenR, v_lenL, v_list, v_listR, v_listL, v_tuple, v_tupleL, v_onIs, v_isL, v_append, v_popAt, v_putL, v_it, v_itR, v_itL, v_noRoT, v_noRoL, v_tgN, v_tgT, v_tgCons, v_tgNil, v_eYes, v_okg, v_okg1, List.length_cons, List.length_nil, List.map_cons, List.map_nil, List.replicate, List.cons_append, List.nil_append, List.getElem?_cons_zero, List.getElem?_cons_succ, Option.some.injEq, exists_eq_left', exists_eq_left, List.set_cons_zero, List.set_cons_succ, D.bl.injEq, D.int.injEq, D.str.injEq, D.tup.injEq, D.loc.injEq, decide_eq_true_eq, Bool.not_eq_true', decide_eq_false_iff_not, true_and, and_true, Ob.lst.injEq, Nat.reduceAdd, Nat.reduceSub, ix_0, ix_1, ix_2, upTo_0, ix30, ix31, ix32, List.set_set, cut_1, look_new, set_new, wipeD, List.drop_succ_cons, List.drop_zero, inFlat, List.all_cons, List.all_nil, Bool.and_self, Bool.and_true, reduceIte, List.mem_cons, List.not_mem_nil, or_false, false_or, or_true, true_or, reduceCtorEq, Int.reduceEq, Int.reduceLE, Int.reduceLT, Int.cast_ofNat_Int, Int.natCast_zero, Int.natCast_one, Int.natCast_add, not_true_eq_false, not_false_eq_true, decide_true, decide_false, Bool.false_eq_true, if_true, if_false, Bool.not_true, Bool.not_false, Int.reduceNeg, Int.reduceSub, Int.reduceAdd]
    refine (hw h c S2 x2).mono fun v S3 ⟨w, e, wok, wn, wm, x3, u3⟩ => ?_
    subst e
    simp only [w_fn, w_ok, w_sSeq, w_sIf, w_sRet, w_sPar2, w_sPar4, w_sNil, w_sNever, w_sExpr, w_sSet, w_sPut, w_sAug, w_sAugS, w_sFor, w_e1, w_e2, w_eF, w_eM, w_cons, w_nil, w_var, w_c, w_tup, w_lst, w_d0, w_and, w_or, w_not, w_if, w_ch, w_ch3, w_sl, w_pOf, w_pNo, w_iOf, w_iEnum, w_iRng, w_lc, v_add, v_iadd, v_addS, v_addT, v_addL, v_sub, v_mul, v_mulT, v_div, v_mod, v_pow, v_neg, v_cmp, v_eq, v_eqS, v_eqB, v_ne, v_notIn, v_isN, v_notN, v_inS, v_inI, v_ix, v_ixL, v_sl, v_slL, v_on1, v_on2, v_abs, v_max2, v_min2, v_len, v_lenR, v_lenL, v_list, v_listR, v_listL, v_tuple, v_tupleL, v_onIs, v_isL, v_append, v_popAt, v_putL, v_it, v_itR, v_itL, v_noRoT, v_noRoL, v_tgN, v_tgT, v_tgCons, v_tgNil, v_eYes, v_okg, v_okg1, List.length_cons, List.length_nil, List.map_cons, List.map_nil, List.replicate, List.cons_append, List.nil_append, List.getElem?_cons_zero, List.getElem?_cons_succ, Option.some.injEq, exists_eq_left', exists_eq_left, List.set_cons_zero, List.set_cons_succ, D.bl.injEq, D.int.injEq, D.str.injEq, D.tup.injEq, D.loc.injEq, decide_eq_true_eq, Bool.not_eq_true', decide_eq_false_iff_not, true_and, and_true, Ob.lst.injEq, Nat.reduceAdd, Nat.reduceSub, ix_0, ix_1, ix_2, upTo_0, ix30, ix31, ix32, List.set_set, cut_1, look_new, set_new, wipeD, List.drop_succ_cons, List.drop_zero, inFlat, List.all_cons, List.all_nil, Bool.and_self, Bool.and_true, reduceIte, List.mem_cons, List.not_mem_nil, or_false, false_or, or_true, true_or, reduceCtorEq, Int.reduceEq, Int.reduceLE, Int.reduceLT, Int.cast_ofNat_Int, Int.natCast_zero, Int.natCast_one, Int.natCast_add, not_true_eq_false, not_false_eq_true, decide_true, decide_false, Bool.false_eq_true, if_true, if_false, Bool.not_true, Bool.not_false, Int.reduceNeg, Int.reduceSub, Int.reduceAdd, Wo.enc, v_eqP pl_prs (show pl 8 (.tup []) = true from rfl), prs_ne]
    by_cases hps : w.ps = []
    · rw [if_neg (by simpa using hps)]
      exact ⟨x3, _, _, _, _, _, _, _, _, _, _, _, _, _, rfl⟩
    rw [if_pos (by simpa using hps)]
    refine (ht w h c S3 wok hps x3).mono fun v S4 ⟨ts, e, tn, tl, x4, u4⟩ => ?_
    subst e
    refine (hn h c 20 S4 (by omega) (by omega) x4).mono fun v S5 ⟨far, e, hfar, x5, u5⟩ => ?_
    subst e
    refine ⟨by decide, ?_⟩
    rw [p6]
    refine (hn h c 1000000 S5 (by omega) (by omega) x5).mono fun v S6 ⟨more, e, hmore, x6, u6⟩ => ?_
    subst e
    obtain ⟨far, rfl⟩ : ∃ n : Nat, far = n := ⟨far.toNat, by omega⟩
    obtain ⟨more, rfl⟩ : ∃ n : Nat, more = n := ⟨more.toNat, by omega⟩
    have hsm : w.ws.sum ≤ 60 := by
      have := sum_le wm
      omega
    have cls : Cls w ts := ⟨wok, tn, by omega, by omega, hsm⟩
    refine (ha w ts cls far S6 (by omega)).mono fun v S7 ⟨e, g7⟩ => ?_
    subst e
    have hlen : (Wn w ts far).length = w.ws.length := go_len far
    have hne : Wn w ts far ≠ [] := fun z => by rw [z] at hlen; have := wok.n2; simp at hlen; omega
    have hp0 := tn.pos
    have hsz := szl
    have hmod : (far : Int) % (ts.length : Int) = ((far % ts.length : Nat) : Int) := by simp
    have hml := Nat.mod_lt far hp0
    rw [v_max hne]
    simp only [w_fn, w_ok, w_sSeq, w_sIf, w_sRet, w_sPar2, w_sPar4, w_sNil, w_sNever, w_sExpr, w_sSet, w_sPut, w_sAug, w_sAugS, w_sFor, w_e1, w_e2, w_eF, w_eM, w_cons, w_nil, w_var, w_c, w_tup, w_lst, w_d0, w_and, w_or, w_not, w_if, w_ch, w_ch3, w_sl, w_pOf, w_pNo, w_iOf, w_iEnum, w_iRng, w_lc, v_add, v_iadd, v_addS, v_addT, v_addL, v_sub, v_mul, v_mulT, v_div, v_mod, v_pow, v_neg, v_cmp, v_eq, v_eqS, v_eqB, v_ne, v_notIn, v_isN, v_notN, v_inS, v_inI, v_ix, v_ixL, v_sl, v_slL, v_on1, v_on2, v_abs, v_max2, v_min2, v_len, v_lenR, v_lenL, v_list, v_listR, v_listL, v_tuple, v_tupleL, v_onIs, v_isL, v_append, v_popAt, v_putL, v_it, v_itR, v_itL, v_noRoT, v_noRoL, v_tgN, v_tgT, v_tgCons, v_tgNil, v_eYes, v_okg, v_okg1, List.length_cons, List.length_nil, List.map_cons, List.map_nil, List.replicate, List.cons_append, List.nil_append, List.getElem?_cons_zero, List.getElem?_cons_succ, Option.some.injEq, exists_eq_left', exists_eq_left, List.set_cons_zero, List.set_cons_succ, D.bl.injEq, D.int.injEq, D.str.injEq, D.tup.injEq, D.loc.injEq, decide_eq_true_eq, Bool.not_eq_true', decide_eq_false_iff_not, true_and, and_true, Ob.lst.injEq, Nat.reduceAdd, Nat.reduceSub, ix_0, ix_1, ix_2, upTo_0, ix30, ix31, ix32, List.set_set, cut_1, look_new, set_new, wipeD, List.drop_succ_cons, List.drop_zero, inFlat, List.all_cons, List.all_nil, Bool.and_self, Bool.and_true, reduceIte, List.mem_cons, List.not_mem_nil, or_false, false_or, or_true, true_or, reduceCtorEq, Int.reduceEq, Int.reduceLE, Int.reduceLT, Int.cast_ofNat_Int, Int.natCast_zero, Int.natCast_one, Int.natCast_add, not_true_eq_false, not_false_eq_true, decide_true, decide_false, Bool.false_eq_true, if_true, if_false, Bool.not_true, Bool.not_false, Int.reduceNeg, Int.reduceSub, Int.reduceAdd, nats_len, hmod]
    by_cases h31 : mx (Wn w ts far) < 31
    · rw [if_pos h31]
      simp only [w_fn, w_ok, w_sSeq, w_sIf, w_sRet, w_sPar2, w_sPar4, w_sNil, w_sNever, w_sExpr, w_sSet, w_sPut, w_sAug, w_sAugS, w_sFor, w_e1, w_e2, w_eF, w_eM, w_cons, w_nil, w_var, w_c, w_tup, w_lst, w_d0, w_and, w_or, w_not, w_if, w_ch, w_ch3, w_sl, w_pOf, w_pNo, w_iOf, w_iEnum, w_iRng, w_lc, v_add, v_iadd, v_addS, v_addT, v_addL, v_sub, v_mul, v_mulT, v_div, v_mod, v_pow, v_neg, v_cmp, v_eq, v_eqS, v_eqB, v_ne, v_notIn, v_isN, v_notN, v_inS, v_inI, v_ix, v_ixL, v_sl, v_slL, v_on1, v_on2, v_abs, v_max2, v_min2, v_len, v_lenR, v_lenL, v_list, v_listR, v_listL, v_tuple, v_tupleL, v_onIs, v_isL, v_append, v_popAt, v_putL, v_it, v_itR, v_itL, v_noRoT, v_noRoL, v_tgN, v_tgT, v_tgCons, v_tgNil, v_eYes, v_okg, v_okg1, List.length_cons, List.length_nil, List.map_cons, List.map_nil, List.replicate, List.cons_append, List.nil_append, List.getElem?_cons_zero, List.getElem?_cons_succ, Option.some.injEq, exists_eq_left', exists_eq_left, List.set_cons_zero, List.set_cons_succ, D.bl.injEq, D.int.injEq, D.str.injEq, D.tup.injEq, D.loc.injEq, decide_eq_true_eq, Bool.not_eq_true', decide_eq_false_iff_not, true_and, and_true, Ob.lst.injEq, Nat.reduceAdd, Nat.reduceSub, ix_0, ix_1, ix_2, upTo_0, ix30, ix31, ix32, List.set_set, cut_1, look_new, set_new, wipeD, List.drop_succ_cons, List.drop_zero, inFlat, List.all_cons, List.all_nil, Bool.and_self, Bool.and_true, reduceIte, List.mem_cons, List.not_mem_nil, or_false, false_or, or_true, true_or, reduceCtorEq, Int.reduceEq, Int.reduceLE, Int.reduceLT, Int.cast_ofNat_Int, Int.natCast_zero, Int.natCast_one, Int.natCast_add, not_true_eq_false, not_false_eq_true, decide_true, decide_false, Bool.false_eq_true, if_true, if_false, Bool.not_true, Bool.not_false, Int.reduceNeg, Int.reduceSub, Int.reduceAdd, nats_sl, cut_nat, cut_to]
      refine ⟨by omega, by omega, ?_⟩
      rw [nats_add (by rw [List.length_drop, List.length_take]; omega)]
      have cls2 : Cls (later w ts far) (turned ts far) := ⟨later_ok wok tn fun x hx => by have := mx_ge x hx; omega, later_tn tn, by rw [turned_len]; omega, by show (Wn w ts far).length ≤ 5; omega, by show (Wn w ts far).sum ≤ 60; rw [(go_ok wok tn far).2]; exact hsm⟩
      refine (ha _ _ cls2 more S7 (by omega)).mono fun v S8 ⟨e, g8⟩ => ?_
      subst e
      rw [show (far : Int) + more = ((far + more : Nat) : Int) by omega]
      refine (ha _ _ cls (far + more) S8 (by omega)).mono fun v S9 ⟨e, g9⟩ => ?_
      subst e
      rw [v_eqN, Wn_later hp0]
      refine ⟨true, by simp, ?_⟩
      rw [if_neg (by simp)]
      refine (hp _ _ cls S9).mono fun v S10 ⟨k1, L1, la1, e, g10⟩ => ?_
      subst e
      refine (hp _ _ cls2 S10).mono fun v S11 ⟨k2, L2, la2, e, g11⟩ => ?_
      subst e
      obtain ⟨ek, eL⟩ := la2.uniq (la1.later hp0 far)
      have hlt := la1.lt
      have eP : L2 - (k1 - far) = L1 - k1 := by omega
      have eM : (if (k1 : Int) - far > 0 then (k1 : Int) - far else 0) = ((k1 - far : Nat) : Int) := by split <;> omega
      simp only [w_fn, w_ok, w_sSeq, w_sIf, w_sRet, w_sPar2, w_sPar4, w_sNil, w_sNever, w_sExpr, w_sSet, w_sPut, w_sAug, w_sAugS, w_sFor, w_e1, w_e2, w_eF, w_eM, w_cons, w_nil, w_var, w_c, w_tup, w_lst, w_d0, w_and, w_or, w_not, w_if, w_ch, w_ch3, w_sl, w_pOf, w_pNo, w_iOf, w_iEnum, w_iRng, w_lc, v_add, v_iadd, v_addS, v_addT, v_addL, v_sub, v_mul, v_mulT, v_div, v_mod, v_pow, v_neg, v_cmp, v_eq, v_eqS, v_eqB, v_ne, v_notIn, v_isN, v_notN, v_inS, v_inI, v_ix, v_ixL, v_sl, v_slL, v_on1, v_on2, v_abs, v_max2, v_min2, v_len, v_lenR, v_lenL, v_list, v_listR, v_listL, v_tuple, v_tupleL, v_onIs, v_isL, v_append, v_popAt, v_putL, v_it, v_itR, v_itL, v_noRoT, v_noRoL, v_tgN, v_tgT, v_tgCons, v_tgNil, v_eYes, v_okg, v_okg1, List.length_cons, List.length_nil, List.map_cons, List.map_nil, List.replicate, List.cons_append, List.nil_append, List.getElem?_cons_zero, List.getElem?_cons_succ, Option.some.injEq, exists_eq_left', exists_eq_left, List.set_cons_zero, List.set_cons_succ, D.bl.injEq, D.int.injEq, D.str.injEq, D.tup.injEq, D.loc.injEq, decide_eq_true_eq, Bool.not_eq_true', decide_eq_false_iff_not, true_and, and_true, Ob.lst.injEq, Nat.reduceAdd, Nat.reduceSub, ix_0, ix_1, ix_2, upTo_0, ix30, ix31, ix32, List.set_set, cut_1, look_new, set_new, wipeD, List.drop_succ_cons, List.drop_zero, inFlat, List.all_cons, List.all_nil, Bool.and_self, Bool.and_true, reduceIte, List.mem_cons, List.not_mem_nil, or_false, false_or, or_true, true_or, reduceCtorEq, Int.reduceEq, Int.reduceLE, Int.reduceLT, Int.cast_ofNat_Int, Int.natCast_zero, Int.natCast_one, Int.natCast_add, not_true_eq_false, not_false_eq_true, decide_true, decide_false, Bool.false_eq_true, if_true, if_false, Bool.not_true, Bool.not_false, Int.reduceNeg, Int.reduceSub, Int.reduceAdd, eP, ek, eM]
      refine (hr _ _ cls S11).mono fun v S12 ⟨r1, g12⟩ => ?_
      refine (hr _ _ cls2 S12).mono fun u S13 ⟨r2, g13⟩ => ?_
      have x13 : HS h c S13 := ((((((x6.gr g7).gr g8).gr g9).gr g10).gr g11).gr g12).gr g13
      have last : ∀ (S : Store) (P : Store → Prop), HS h c S → (∀ S', HS h c S' → P S') → Ok (oMul (nats ts) (.int 2) S) fun d S => Ok (fa [D.tup [nums w.ws, prs w.ps, w.ru.enc], d, .int (more : Nat)] S) fun x S => Ok (fa [D.tup [nums w.ws, prs w.ps, w.ru.enc], nats ts, .int (more : Nat)] S) fun y S =>
          Ok (oEq x y S) fun d S => ∃ k, d = .bl k ∧ if k = false then False else P S := fun S P x hP => by
        rw [nats, v_mulT]
        refine ⟨⟨by simpa using tn.ne, by omega, by omega, by simp only [List.length_map]; omega⟩, ?_⟩
        have e2 : D.tup (repL (ts.map fun n => D.int (n : Nat)) 2) = nats (ts ++ ts) := by simp [repL, nats, List.replicate]
        rw [e2]
        have cls3 : Cls w (ts ++ ts) := ⟨wok, ⟨by simp [tn.ne], fun t h => by rcases List.mem_append.mp h with h | h <;> exact tn.lt t h⟩, by rw [List.length_append]; omega, cls.n5, cls.sm⟩
        refine (ha _ _ cls3 more S (by omega)).mono fun v S1 ⟨e, g1⟩ => ?_
        subst e
        refine (ha _ _ cls more S1 (by omega)).mono fun v S2 ⟨e, g2⟩ => ?_
        subst e
        rw [v_eqN, Wn_two hp0]
        refine ⟨true, by simp, ?_⟩
        rw [if_neg (by simp)]
        exact hP _ ((x.gr g1).gr g2)
      rcases r1 with ⟨rfl, n1⟩ | ⟨j1, rfl, c1, m1⟩ <;> rcases r2 with ⟨rfl, n2⟩ | ⟨j2, rfl, c2, m2⟩
      · rw [if_neg (by simp), if_neg (by simp)]
        exact last _ _ x13 fun S' x => ⟨x, _, _, _, _, _, _, _, _, _, _, _, _, _, rfl⟩
      · exact absurd ((Con_later hp0).mp c2) (n1 _)
      · exact absurd ((Con_later hp0).mpr (c1.up (by omega))) (n2 j1)
      · have a1 : j1 ≤ far + j2 := Nat.le_of_not_lt fun z => m1 _ z ((Con_later hp0).mp c2)
        have a2 : j2 ≤ j1 - far := Nat.le_of_not_lt fun z => m2 _ z ((Con_later hp0).mpr (c1.up (by omega)))
        have ej : j2 = j1 - far := by omega
        have eW : Wn (later w ts far) (turned ts far) (j1 - far) = Wn w ts j1 := by rw [Wn_later hp0]; exact c1 _ (by omega)
        have eM2 : (if (j1 : Int) - far > 0 then (j1 : Int) - far else 0) = ((j1 - far : Nat) : Int) := by split <;> omega
        rw [if_neg (by simp), if_pos (by simp)]
        simp only [w_fn, w_ok, w_sSeq, w_sIf, w_sRet, w_sPar2, w_sPar4, w_sNil, w_sNever, w_sExpr, w_sSet, w_sPut, w_sAug, w_sAugS, w_sFor, w_e1, w_e2, w_eF, w_eM, w_cons, w_nil, w_var, w_c, w_tup, w_lst, w_d0, w_and, w_or, w_not, w_if, w_ch, w_ch3, w_sl, w_pOf, w_pNo, w_iOf, w_iEnum, w_iRng, w_lc, v_add, v_iadd, v_addS, v_addT, v_addL, v_sub, v_mul, v_mulT, v_div, v_mod, v_pow, v_neg, v_cmp, v_eq, v_eqS, v_eqB, v_ne, v_notIn, v_isN, v_notN, v_inS, v_inI, v_ix, v_ixL, v_sl, v_slL, v_on1, v_on2, v_abs, v_max2, v_min2, v_len, v_lenR, v_lenL, v_list, v_listR, v_listL, v_tuple, v_tupleL, v_onIs, v_isL, v_append, v_popAt, v_putL, v_it, v_itR, v_itL, v_noRoT, v_noRoL, v_tgN, v_tgT, v_tgCons, v_tgNil, v_eYes, v_okg, v_okg1, List.length_cons, List.length_nil, List.map_cons, List.map_nil, List.replicate, List.cons_append, List.nil_append, List.getElem?_cons_zero, List.getElem?_cons_succ, Option.some.injEq, exists_eq_left', exists_eq_left, List.set_cons_zero, List.set_cons_succ, D.bl.injEq, D.int.injEq, D.str.injEq, D.tup.injEq, D.loc.injEq, decide_eq_true_eq, Bool.not_eq_true', decide_eq_false_iff_not, true_and, and_true, Ob.lst.injEq, Nat.reduceAdd, Nat.reduceSub, ix_0, ix_1, ix_2, upTo_0, ix30, ix31, ix32, List.set_set, cut_1, look_new, set_new, wipeD, List.drop_succ_cons, List.drop_zero, inFlat, List.all_cons, List.all_nil, Bool.and_self, Bool.and_true, reduceIte, List.mem_cons, List.not_mem_nil, or_false, false_or, or_true, true_or, reduceCtorEq, Int.reduceEq, Int.reduceLE, Int.reduceLT, Int.cast_ofNat_Int, Int.natCast_zero, Int.natCast_one, Int.natCast_add, not_true_eq_false, not_false_eq_true, decide_true, decide_false, Bool.false_eq_true, if_true, if_false, Bool.not_true, Bool.not_false, Int.reduceNeg, Int.reduceSub, Int.reduceAdd, eM2, eW, ej]
        rw [v_eqP (by simp [pl, nums]) (by simp [pl, nums])]
        refine ⟨true, by simp, ?_⟩
        rw [if_neg (by simp)]
        exact last _ _ x13 fun S' x => ⟨x, _, _, _, _, _, _, _, _, _, _, _, _, _, rfl⟩
    · rw [if_neg h31]
      exact ⟨x6.gr g7, _, _, _, _, _, _, _, _, _, _, _, _, _, rfl⟩
  · rintro σ S2 ⟨x2, y2, y3, y4, y5, y6, y7, y8, y9, y10, y11, y12, y13, y14, rfl⟩
    simp only [w_fn, w_ok, w_sSeq, w_sIf, w_sRet, w_sPar2, w_sPar4, w_sNil, w_sNever, w_sExpr, w_sSet, w_sPut, w_sAug, w_sAugS, w_sFor, w_e1, w_e2, w_eF, w_eM, w_cons, w_nil, w_var, w_c, w_tup, w_lst, w_d0, w_and, w_or, w_not, w_if, w_ch, w_ch3, w_sl, w_pOf, w_pNo, w_iOf, w_iEnum, w_iRng, w_lc, v_add, v_iadd, v_addS, v_addT, v_addL, v_sub, v_mul, v_mulT, v_div, v_mod, v_pow, v_neg, v_cmp, v_eq, v_eqS, v_eqB, v_ne, v_notIn, v_isN, v_notN, v_inS, v_inI, v_ix, v_ixL, v_sl, v_slL, v_on1, v_on2, v_abs, v_max2, v_min2, v_len, v_lenR, v_lenL, v_list, v_listR, v_listL, v_tuple, v_tupleL, v_onIs, v_isL, v_append, v_popAt, v_putL, v_it, v_itR, v_itL, v_noRoT, v_noRoL, v_tgN, v_tgT, v_tgCons, v_tgNil, v_eYes, v_okg, v_okg1, List.length_cons, List.length_nil, List.map_cons, List.map_nil, List.replicate, List.cons_append, List.nil_append, List.getElem?_cons_zero, List.getElem?_cons_succ, Option.some.injEq, exists_eq_left', exists_eq_left, List.set_cons_zero, List.set_cons_succ, D.bl.injEq, D.int.injEq, D.str.injEq, D.tup.injEq, D.loc.injEq, decide_eq_true_eq, Bool.not_eq_true', decide_eq_false_iff_not, true_and, and_true, Ob.lst.injEq, Nat.reduceAdd, Nat.reduceSub, ix_0, ix_1, ix_2, upTo_0, ix30, ix31, ix32, List.set_set, cut_1, look_new, set_new, wipeD, List.drop_succ_cons, List.drop_zero, inFlat, List.all_cons, List.all_nil, Bool.and_self, Bool.and_true, reduceIte, List.mem_cons, List.not_mem_nil, or_false, false_or, or_true, true_or, reduceCtorEq, Int.reduceEq, Int.reduceLE, Int.reduceLT, Int.cast_ofNat_Int, Int.natCast_zero, Int.natCast_one, Int.natCast_add, not_true_eq_false, not_false_eq_true, decide_true, decide_false, Bool.false_eq_true, if_true, if_false, Bool.not_true, Bool.not_false, Int.reduceNeg, Int.reduceSub, Int.reduceAdd]
end Mn
namespace Mn
open PySem
theorem cls_bnd {w : Wo} {ts : List Nat} (h : Cls w ts) {L : Nat} (hd : ∀ i j, i < j → j < L → Xn w ts i ≠ Xn w ts j) : L ≤ 11436768 := by
  have h1 := bound h.ok h.tn hd
  have h2 : cnt w.ws.length w.ws.sum.toNat ≤ cnt 5 60 := by
    have hs := h.sm
    exact Nat.le_trans (cnt_n h.n5) (cnt_s (by omega))
  have h3 := cnt5 60
  have h4 := Nat.mul_le_mul h2 h.tl
  omega
end Mn
/-! Meetings in a row, and what is given in them. -/
namespace Mn
open PySem
def mets (r : Ru) (ps : List Pr) (ws : List Int) (ms : List Nat) : List Int := ms.foldl (fun ws m => behind r ws (ps.getD m (0, 0))) ws
def given (r : Ru) (ps : List Pr) : List Int → List Nat → List (Option (Nat × Nat × Int))
  | _, [] => []
  | ws, m :: ms => told r ws (ps.getD m (0, 0)) :: given r ps (behind r ws (ps.getD m (0, 0))) ms
theorem mets_len {r : Ru} {ps : List Pr} : ∀ {ws : List Int} {ms : List Nat}, (mets r ps ws ms).length = ws.length
  | _, [] => rfl
  | ws, m :: ms => by rw [mets, List.foldl_cons, ← mets, mets_len, behind_len]
theorem mets_snoc {r : Ru} {ps : List Pr} {ws : List Int} {ms : List Nat} {m : Nat} : mets r ps ws (ms ++ [m]) = behind r (mets r ps ws ms) (ps.getD m (0, 0)) := by
  simp [mets]
theorem mets_add {r : Ru} {ps : List Pr} {ws : List Int} {a b : List Nat} : mets r ps ws (a ++ b) = mets r ps (mets r ps ws a) b := by
  simp [mets]
theorem given_add {r : Ru} {ps : List Pr} : ∀ {ws : List Int} {a b : List Nat}, given r ps ws (a ++ b) = given r ps ws a ++ given r ps (mets r ps ws a) b
  | _, [], _ => rfl
  | ws, m :: a, b => by
    rw [List.cons_append, given, given, given_add, List.cons_append]; rfl
theorem given_len {r : Ru} {ps : List Pr} : ∀ {ws : List Int} {a : List Nat}, (given r ps ws a).length = a.length
  | _, [] => rfl
  | ws, m :: a => by rw [given, List.length_cons, given_len, List.length_cons]
theorem take_snoc {ms : List Nat} {i m : Nat} (h : ms[i]? = some m) : ms.take (i + 1) = ms.take i ++ [m] := by
  rw [List.take_add_one, h]; rfl
theorem met_ok {w : Wo} (h : w.ok) {ms : List Nat} (hm : ∀ m ∈ ms, m < w.ps.length) {fb fm fn : Fn} (hb : BehindOk fb w.ru w.ws.length) (hM : NeedM fm w ms) (hn : NeedW fn w) {S : Store} :
    Ok (mkFn 2 4 (p_met fb fm fn) [w.enc, nats ms] S) fun v S' => v = nums (mets w.ru w.ps w.ws ms) ∧ Gr S S' := by
  simp only [p_met, w_fn, w_ok, w_sSeq, w_sIf, w_sRet, w_sPar2, w_sPar4, w_sNil, w_sNever, w_sExpr, w_sSet, w_sPut, w_sAug, w_sAugS, w_sFor, w_e1, w_e2, w_eF, w_eM, w_cons, w_nil, w_var, w_c, w_tup, w_lst, w_d0, w_and, w_or, w_not, w_if, w_ch, w_ch3, w_sl, w_pOf, w_pNo, w_iOf, w_iEnum, w_iRng, w_lc, v_add, v_iadd, v_addS, v_addT, v_addL, v_sub, v_mul, v_mulT, v_div, v_mod, v_pow, v_neg, v_cmp, v_eq, v_eqS, v_eqB, v_ne, v_notIn, v_isN, v_notN, v_inS, v_inI, v_ix, v_ixL, v_sl, v_slL, v_on1, v_on2, v_abs, v_max2, v_min2, v_len, v_lenR, v_lenL, v_list, v_listR, v_listL, v_tuple, v_tupleL, v_onIs, v_isL, v_append, v_popAt, v_putL, v_it, v_itR, v_itL, v_noRoT, v_noRoL, v_tgN, v_tgT, v_tgCons, v_tgNil, v_eYes, v_okg, v_okg1, List.length_cons, List.length_nil, List.map_cons, List.map_nil, List.replicate, List.cons_append, List.nil_append, List.getElem?_cons_zero, List.getElem?_cons_succ, Option.some.injEq, exists_eq_left', exists_eq_left, List.set_cons_zero, List.set_cons_succ, D.bl.injEq, D.int.injEq, D.str.injEq, D.tup.injEq, D.loc.injEq, decide_eq_true_eq, Bool.not_eq_true', decide_eq_false_iff_not, true_and, and_true, Ob.lst.injEq, Nat.reduceAdd, Nat.reduceSub, ix_0, ix_1, ix_2, upTo_0, ix30, ix31, ix32, List.set_set, cut_1, look_new, set_new, wipeD, List.drop_succ_cons, List.drop_zero, inFlat, List.all_cons, List.all_nil, Bool.and_self, Bool.and_true, reduceIte, List.mem_cons, List.not_mem_nil, or_false, false_or, or_true, true_or, reduceCtorEq, Int.reduceEq, Int.reduceLE, Int.reduceLT, Int.cast_ofNat_Int, Int.natCast_zero, Int.natCast_one, Int.natCast_add, not_true_eq_false, not_false_eq_true, decide_true, decide_false, Bool.false_eq_true, if_true, if_false, Bool.not_true, Bool.not_false, Int.reduceNeg, Int.reduceSub, Int.reduceAdd]
  refine (hn S).mono fun v S1 ⟨e1, g1⟩ => ?_
  subst e1
  refine (hM S1).mono fun v S2 ⟨e1, e2⟩ => ?_
  subst e1 e2
  simp only [w_fn, w_ok, w_sSeq, w_sIf, w_sRet, w_sPar2, w_sPar4, w_sNil, w_sNever, w_sExpr, w_sSet, w_sPut, w_sAug, w_sAugS, w_sFor, w_e1, w_e2, w_eF, w_eM, w_cons, w_nil, w_var, w_c, w_tup, w_lst, w_d0, w_and, w_or, w_not, w_if, w_ch, w_ch3, w_sl, w_pOf, w_pNo, w_iOf, w_iEnum, w_iRng, w_lc, v_add, v_iadd, v_addS, v_addT, v_addL, v_sub, v_mul, v_mulT, v_div, v_mod, v_pow, v_neg, v_cmp, v_eq, v_eqS, v_eqB, v_ne, v_notIn, v_isN, v_notN, v_inS, v_inI, v_ix, v_ixL, v_sl, v_slL, v_on1, v_on2, v_abs, v_max2, v_min2, v_len, v_lenR, v_lenL, v_list, v_listR, v_listL, v_tuple, v_tupleL, v_onIs, v_isL, v_append, v_popAt, v_putL, v_it, v_itR, v_itL, v_noRoT, v_noRoL, v_tgN, v_tgT, v_tgCons, v_tgNil, v_eYes, v_okg, v_okg1, List.length_cons, List.length_nil, List.map_cons, List.map_nil, List.replicate, List.cons_append, List.nil_append, List.getElem?_cons_zero, List.getElem?_cons_succ, Option.some.injEq, exists_eq_left', exists_eq_left, List.set_cons_zero, List.set_cons_succ, D.bl.injEq, D.int.injEq, D.str.injEq, D.tup.injEq, D.loc.injEq, decide_eq_true_eq, Bool.not_eq_true', decide_eq_false_iff_not, true_and, and_true, Ob.lst.injEq, Nat.reduceAdd, Nat.reduceSub, ix_0, ix_1, ix_2, upTo_0, ix30, ix31, ix32, List.set_set, cut_1, look_new, set_new, wipeD, List.drop_succ_cons, List.drop_zero, inFlat, List.all_cons, List.all_nil, Bool.and_self, Bool.and_true, reduceIte, List.mem_cons, List.not_mem_nil, or_false, false_or, or_true, true_or, reduceCtorEq, Int.reduceEq, Int.reduceLE, Int.reduceLT, Int.cast_ofNat_Int, Int.natCast_zero, Int.natCast_one, Int.natCast_add, not_true_eq_false, not_false_eq_true, decide_true, decide_false, Bool.false_eq_true, if_true, if_false, Bool.not_true, Bool.not_false, Int.reduceNeg, Int.reduceSub, Int.reduceAdd, Wo.enc, nums, nats]
  refine for_ix (f := fun n : Nat => D.int n) (fun i σ S' => ∃ x3, σ = [some w.enc, some (nats ms), some (nums (mets w.ru w.ps w.ws (ms.take i))), x3] ∧ Gr S S') ⟨none, rfl, g1⟩ ?_ ?_
  · rintro i m σ S' hi ⟨x3, rfl, g⟩
    have hlt := hm m (List.mem_of_getElem? hi)
    have hp := pr_ok h hlt
    simp only [w_fn, w_ok, w_sSeq, w_sIf, w_sRet, w_sPar2, w_sPar4, w_sNil, w_sNever, w_sExpr, w_sSet, w_sPut, w_sAug, w_sAugS, w_sFor, w_e1, w_e2, w_eF, w_eM, w_cons, w_nil, w_var, w_c, w_tup, w_lst, w_d0, w_and, w_or, w_not, w_if, w_ch, w_ch3, w_sl, w_pOf, w_pNo, w_iOf, w_iEnum, w_iRng, w_lc, v_add, v_iadd, v_addS, v_addT, v_addL, v_sub, v_mul, v_mulT, v_div, v_mod, v_pow, v_neg, v_cmp, v_eq, v_eqS, v_eqB, v_ne, v_notIn, v_isN, v_notN, v_inS, v_inI, v_ix, v_ixL, v_sl, v_slL, v_on1, v_on2, v_abs, v_max2, v_min2, v_len, v_lenR, v_lenL, v_list, v_listR, v_listL, v_tuple, v_tupleL, v_onIs, v_isL, v_append, v_popAt, v_putL, v_it, v_itR, v_itL, v_noRoT, v_noRoL, v_tgN, v_tgT, v_tgCons, v_tgNil, v_eYes, v_okg, v_okg1, List.length_cons, List.length_nil, List.map_cons, List.map_nil, List.replicate, List.cons_append, List.nil_append, List.getElem?_cons_zero, List.getElem?_cons_succ, Option.some.injEq, exists_eq_left', exists_eq_left, List.set_cons_zero, List.set_cons_succ, D.bl.injEq, D.int.injEq, D.str.injEq, D.tup.injEq, D.loc.injEq, decide_eq_true_eq, Bool.not_eq_true', decide_eq_false_iff_not, true_and, and_true, Ob.lst.injEq, Nat.reduceAdd, Nat.reduceSub, ix_0, ix_1, ix_2, upTo_0, ix30, ix31, ix32, List.set_set, cut_1, look_new, set_new, wipeD, List.drop_succ_cons, List.drop_zero, inFlat, List.all_cons, List.all_nil, Bool.and_self, Bool.and_true, reduceIte, List.mem_cons, List.not_mem_nil, or_false, false_or, or_true, true_or, reduceCtorEq, Int.reduceEq, Int.reduceLE, Int.reduceLT, Int.cast_ofNat_Int, Int.natCast_zero, Int.natCast_one, Int.natCast_add, not_true_eq_false, not_false_eq_true, decide_true, decide_false, Bool.false_eq_true, if_true, if_false, Bool.not_true, Bool.not_false, Int.reduceNeg, Int.reduceSub, Int.reduceAdd, Wo.enc, prs, pr_at hlt]
    refine (hb _ _ _ mets_len hp.1 hp.2).mono fun v S3 ⟨e, g3⟩ => ?_
    subst e
    exact ⟨_, by rw [take_snoc hi, mets_snoc], g.trans g3⟩
  · rintro σ S' ⟨x3, rfl, g⟩
    simp only [w_fn, w_ok, w_sSeq, w_sIf, w_sRet, w_sPar2, w_sPar4, w_sNil, w_sNever, w_sExpr, w_sSet, w_sPut, w_sAug, w_sAugS, w_sFor, w_e1, w_e2, w_eF, w_eM, w_cons, w_nil, w_var, w_c, w_tup, w_lst, w_d0, w_and, w_or, w_not, w_if, w_ch, w_ch3, w_sl, w_pOf, w_pNo, w_iOf, w_iEnum, w_iRng, w_lc, v_add, v_iadd, v_addS, v_addT, v_addL, v_sub, v_mul, v_mulT, v_div, v_mod, v_pow, v_neg, v_cmp, v_eq, v_eqS, v_eqB, v_ne, v_notIn, v_isN, v_notN, v_inS, v_inI, v_ix, v_ixL, v_sl, v_slL, v_on1, v_on2, v_abs, v_max2, v_min2, v_len, v_lenR, v_lenL, v_list, v_listR, v_listL, v_tuple, v_tupleL, v_onIs, v_isL, v_append, v_popAt, v_putL, v_it, v_itR, v_itL, v_noRoT, v_noRoL, v_tgN, v_tgT, v_tgCons, v_tgNil, v_eYes, v_okg, v_okg1, List.length_cons, List.length_nil, List.map_cons, List.map_nil, List.replicate, List.cons_append, List.nil_append, List.getElem?_cons_zero, List.getElem?_cons_succ, Option.some.injEq, exists_eq_left', exists_eq_left, List.set_cons_zero, List.set_cons_succ, D.bl.injEq, D.int.injEq, D.str.injEq, D.tup.injEq, D.loc.injEq, decide_eq_true_eq, Bool.not_eq_true', decide_eq_false_iff_not, true_and, and_true, Ob.lst.injEq, Nat.reduceAdd, Nat.reduceSub, ix_0, ix_1, ix_2, upTo_0, ix30, ix31, ix32, List.set_set, cut_1, look_new, set_new, wipeD, List.drop_succ_cons, List.drop_zero, inFlat, List.all_cons, List.all_nil, Bool.and_self, Bool.and_true, reduceIte, List.mem_cons, List.not_mem_nil, or_false, false_or, or_true, true_or, reduceCtorEq, Int.reduceEq, Int.reduceLE, Int.reduceLT, Int.cast_ofNat_Int, Int.natCast_zero, Int.natCast_one, Int.natCast_add, not_true_eq_false, not_false_eq_true, decide_true, decide_false, Bool.false_eq_true, if_true, if_false, Bool.not_true, Bool.not_false, Int.reduceNeg, Int.reduceSub, Int.reduceAdd, List.take_length]
    exact ⟨rfl, g⟩
theorem gifts_ok {w : Wo} (h : w.ok) {ms : List Nat} (hm : ∀ m ∈ ms, m < w.ps.length) (hl : ms.length ≤ 200) {fb ft fm fn : Fn} (hb : BehindOk fb w.ru w.ws.length)
    (ht : ∀ (ws : List Int) (p : Pr) (S : Store), ws.length = w.ws.length → p.1 < w.ws.length → p.2 < w.ws.length → Ok (ft [w.ru.enc, nums ws, pr p] S) fun v S' => v = told' (told w.ru ws p) ∧ S' = S) (hM : NeedM fm w ms) (hn : NeedW fn w) {S : Store} :
    Ok (mkFn 2 5 (p_gifts fb ft fm fn) [w.enc, nats ms] S) fun v S' => ∃ l, v = .loc l ∧ S'[l]? = some (.lst ((given w.ru w.ps w.ws ms).map told')) ∧ S.length ≤ l ∧ Gr S S' := by
  have hsz := szl
  simp only [p_gifts, w_fn, w_ok, w_sSeq, w_sIf, w_sRet, w_sPar2, w_sPar4, w_sNil, w_sNever, w_sExpr, w_sSet, w_sPut, w_sAug, w_sAugS, w_sFor, w_e1, w_e2, w_eF, w_eM, w_cons, w_nil, w_var, w_c, w_tup, w_lst, w_d0, w_and, w_or, w_not, w_if, w_ch, w_ch3, w_sl, w_pOf, w_pNo, w_iOf, w_iEnum, w_iRng, w_lc, v_add, v_iadd, v_addS, v_addT, v_addL, v_sub, v_mul, v_mulT, v_div, v_mod, v_pow, v_neg, v_cmp, v_eq, v_eqS, v_eqB, v_ne, v_notIn, v_isN, v_notN, v_inS, v_inI, v_ix, v_ixL, v_sl, v_slL, v_on1, v_on2, v_abs, v_max2, v_min2, v_len, v_lenR, v_lenL, v_list, v_listR, v_listL, v_tuple, v_tupleL, v_onIs, v_isL, v_append, v_popAt, v_putL, v_it, v_itR, v_itL, v_noRoT, v_noRoL, v_tgN, v_tgT, v_tgCons, v_tgNil, v_eYes, v_okg, v_okg1, List.length_cons, List.length_nil, List.map_cons, List.map_nil, List.replicate, List.cons_append, List.nil_append, List.getElem?_cons_zero, List.getElem?_cons_succ, Option.some.injEq, exists_eq_left', exists_eq_left, List.set_cons_zero, List.set_cons_succ, D.bl.injEq, D.int.injEq, D.str.injEq, D.tup.injEq, D.loc.injEq, decide_eq_true_eq, Bool.not_eq_true', decide_eq_false_iff_not, true_and, and_true, Ob.lst.injEq, Nat.reduceAdd, Nat.reduceSub, ix_0, ix_1, ix_2, upTo_0, ix30, ix31, ix32, List.set_set, cut_1, look_new, set_new, wipeD, List.drop_succ_cons, List.drop_zero, inFlat, List.all_cons, List.all_nil, Bool.and_self, Bool.and_true, reduceIte, List.mem_cons, List.not_mem_nil, or_false, false_or, or_true, true_or, reduceCtorEq, Int.reduceEq, Int.reduceLE, Int.reduceLT, Int.cast_ofNat_Int, Int.natCast_zero, Int.natCast_one, Int.natCast_add, not_true_eq_false, not_false_eq_true, decide_true, decide_false, Bool.false_eq_true, if_true, if_false, Bool.not_true, Bool.not_false, Int.reduceNeg, Int.reduceSub, Int.reduceAdd]
  refine (hn S).mono fun v S1 ⟨e1, g1⟩ => ?_
  subst e1
  refine (hM S1).mono fun v S2 ⟨e1, e2⟩ => ?_
  subst e1 e2
  simp only [w_fn, w_ok, w_sSeq, w_sIf, w_sRet, w_sPar2, w_sPar4, w_sNil, w_sNever, w_sExpr, w_sSet, w_sPut, w_sAug, w_sAugS, w_sFor, w_e1, w_e2, w_eF, w_eM, w_cons, w_nil, w_var, w_c, w_tup, w_lst, w_d0, w_and, w_or, w_not, w_if, w_ch, w_ch3, w_sl, w_pOf, w_pNo, w_iOf, w_iEnum, w_iRng, w_lc, v_add, v_iadd, v_addS, v_addT, v_addL, v_sub, v_mul, v_mulT, v_div, v_mod, v_pow, v_neg, v_cmp, v_eq, v_eqS, v_eqB, v_ne, v_notIn, v_isN, v_notN, v_inS, v_inI, v_ix, v_ixL, v_sl, v_slL, v_on1, v_on2, v_abs, v_max2, v_min2, v_len, v_lenR, v_lenL, v_list, v_listR, v_listL, v_tuple, v_tupleL, v_onIs, v_isL, v_append, v_popAt, v_putL, v_it, v_itR, v_itL, v_noRoT, v_noRoL, v_tgN, v_tgT, v_tgCons, v_tgNil, v_eYes, v_okg, v_okg1, List.length_cons, List.length_nil, List.map_cons, List.map_nil, List.replicate, List.cons_append, List.nil_append, List.getElem?_cons_zero, List.getElem?_cons_succ, Option.some.injEq, exists_eq_left', exists_eq_left, List.set_cons_zero, List.set_cons_succ, D.bl.injEq, D.int.injEq, D.str.injEq, D.tup.injEq, D.loc.injEq, decide_eq_true_eq, Bool.not_eq_true', decide_eq_false_iff_not, true_and, and_true, Ob.lst.injEq, Nat.reduceAdd, Nat.reduceSub, ix_0, ix_1, ix_2, upTo_0, ix30, ix31, ix32, List.set_set, cut_1, look_new, set_new, wipeD, List.drop_succ_cons, List.drop_zero, inFlat, List.all_cons, List.all_nil, Bool.and_self, Bool.and_true, reduceIte, List.mem_cons, List.not_mem_nil, or_false, false_or, or_true, true_or, reduceCtorEq, Int.reduceEq, Int.reduceLE, Int.reduceLT, Int.cast_ofNat_Int, Int.natCast_zero, Int.natCast_one, Int.natCast_add, not_true_eq_false, not_false_eq_true, decide_true, decide_false, Bool.false_eq_true, if_true, if_false, Bool.not_true, Bool.not_false, Int.reduceNeg, Int.reduceSub, Int.reduceAdd, Wo.enc, nums, nats]
  have hS := g1.len
  refine for_ix (f := fun n : Nat => D.int n) (fun i σ S' => ∃ x4, σ = [some w.enc, some (nats ms), some (nums (mets w.ru w.ps w.ws (ms.take i))), some (.loc S2.length), x4] ∧ S'[S2.length]? = some (.lst ((given w.ru w.ps w.ws (ms.take i)).map told')) ∧ Gr S S') ⟨none, rfl, look_new, g1.more⟩ ?_ ?_
  · rintro i m σ S' hi ⟨x4, rfl, q, g⟩
    have hlt := hm m (List.mem_of_getElem? hi)
    have hil := (List.getElem?_eq_some_iff.mp hi).1
    have hp := pr_ok h hlt
    simp only [w_fn, w_ok, w_sSeq, w_sIf, w_sRet, w_sPar2, w_sPar4, w_sNil, w_sNever, w_sExpr, w_sSet, w_sPut, w_sAug, w_sAugS, w_sFor, w_e1, w_e2, w_eF, w_eM, w_cons, w_nil, w_var, w_c, w_tup, w_lst, w_d0, w_and, w_or, w_not, w_if, w_ch, w_ch3, w_sl, w_pOf, w_pNo, w_iOf, w_iEnum, w_iRng, w_lc, v_add, v_iadd, v_addS, v_addT, v_addL, v_sub, v_mul, v_mulT, v_div, v_mod, v_pow, v_neg, v_cmp, v_eq, v_eqS, v_eqB, v_ne, v_notIn, v_isN, v_notN, v_inS, v_inI, v_ix, v_ixL, v_sl, v_slL, v_on1, v_on2, v_abs, v_max2, v_min2, v_len, v_lenR, v_lenL, v_list, v_listR, v_listL, v_tuple, v_tupleL, v_onIs, v_isL, v_append, v_popAt, v_putL, v_it, v_itR, v_itL, v_noRoT, v_noRoL, v_tgN, v_tgT, v_tgCons, v_tgNil, v_eYes, v_okg, v_okg1, List.length_cons, List.length_nil, List.map_cons, List.map_nil, List.replicate, List.cons_append, List.nil_append, List.getElem?_cons_zero, List.getElem?_cons_succ, Option.some.injEq, exists_eq_left', exists_eq_left, List.set_cons_zero, List.set_cons_succ, D.bl.injEq, D.int.injEq, D.str.injEq, D.tup.injEq, D.loc.injEq, decide_eq_true_eq, Bool.not_eq_true', decide_eq_false_iff_not, true_and, and_true, Ob.lst.injEq, Nat.reduceAdd, Nat.reduceSub, ix_0, ix_1, ix_2, upTo_0, ix30, ix31, ix32, List.set_set, cut_1, look_new, set_new, wipeD, List.drop_succ_cons, List.drop_zero, inFlat, List.all_cons, List.all_nil, Bool.and_self, Bool.and_true, reduceIte, List.mem_cons, List.not_mem_nil, or_false, false_or, or_true, true_or, reduceCtorEq, Int.reduceEq, Int.reduceLE, Int.reduceLT, Int.cast_ofNat_Int, Int.natCast_zero, Int.natCast_one, Int.natCast_add, not_true_eq_false, not_false_eq_true, decide_true, decide_false, Bool.false_eq_true, if_true, if_false, Bool.not_true, Bool.not_false, Int.reduceNeg, Int.reduceSub, Int.reduceAdd, Wo.enc, prs, pr_at hlt]
    refine ⟨⟨_, q⟩, ?_⟩
    refine (ht _ _ _ mets_len hp.1 hp.2).mono fun v S3 ⟨e, e'⟩ => ?_
    subst e e'
    refine ⟨_, q, by simp only [List.length_map, given_len, List.length_take]; omega, ?_⟩
    refine (hb _ _ _ mets_len hp.1 hp.2).mono fun v S4 ⟨e, g4⟩ => ?_
    subst e
    refine ⟨_, by rw [take_snoc hi, mets_snoc], g4.look ?_, (g.set hS).trans g4⟩
    rw [look_set q, take_snoc hi, given_add]
    simp [given]
  · rintro σ S' ⟨x4, rfl, q, g⟩
    simp only [w_fn, w_ok, w_sSeq, w_sIf, w_sRet, w_sPar2, w_sPar4, w_sNil, w_sNever, w_sExpr, w_sSet, w_sPut, w_sAug, w_sAugS, w_sFor, w_e1, w_e2, w_eF, w_eM, w_cons, w_nil, w_var, w_c, w_tup, w_lst, w_d0, w_and, w_or, w_not, w_if, w_ch, w_ch3, w_sl, w_pOf, w_pNo, w_iOf, w_iEnum, w_iRng, w_lc, v_add, v_iadd, v_addS, v_addT, v_addL, v_sub, v_mul, v_mulT, v_div, v_mod, v_pow, v_neg, v_cmp, v_eq, v_eqS, v_eqB, v_ne, v_notIn, v_isN, v_notN, v_inS, v_inI, v_ix, v_ixL, v_sl, v_slL, v_on1, v_on2, v_abs, v_max2, v_min2, v_len, v_lenR, v_lenL, v_list, v_listR, v_listL, v_tuple, v_tupleL, v_onIs, v_isL, v_append, v_popAt, v_putL, v_it, v_itR, v_itL, v_noRoT, v_noRoL, v_tgN, v_tgT, v_tgCons, v_tgNil, v_eYes, v_okg, v_okg1, List.length_cons, List.length_nil, List.map_cons, List.map_nil, List.replicate, List.cons_append, List.nil_append, List.getElem?_cons_zero, List.getElem?_cons_succ, Option.some.injEq, exists_eq_left', exists_eq_left, List.set_cons_zero, List.set_cons_succ, D.bl.injEq, D.int.injEq, D.str.injEq, D.tup.injEq, D.loc.injEq, decide_eq_true_eq, Bool.not_eq_true', decide_eq_false_iff_not, true_and, and_true, Ob.lst.injEq, Nat.reduceAdd, Nat.reduceSub, ix_0, ix_1, ix_2, upTo_0, ix30, ix31, ix32, List.set_set, cut_1, look_new, set_new, wipeD, List.drop_succ_cons, List.drop_zero, inFlat, List.all_cons, List.all_nil, Bool.and_self, Bool.and_true, reduceIte, List.mem_cons, List.not_mem_nil, or_false, false_or, or_true, true_or, reduceCtorEq, Int.reduceEq, Int.reduceLE, Int.reduceLT, Int.cast_ofNat_Int, Int.natCast_zero, Int.natCast_one, Int.natCast_add, not_true_eq_false, not_false_eq_true, decide_true, decide_false, Bool.false_eq_true, if_true, if_false, Bool.not_true, Bool.not_false, Int.reduceNeg, Int.reduceSub, Int.reduceAdd, List.take_length] at q ⊢
    exact ⟨q, hS, g⟩
end Mn
/-! Meetings put together; turns told twice round. -/
namespace Mn
open PySem
def MetOk (f : Fn) (w : Wo) (ms : List Nat) : Prop := ∀ S, Ok (f [w.enc, nats ms] S) fun v S' => v = nums (mets w.ru w.ps w.ws ms) ∧ Gr S S'
def GiftsOk (f : Fn) (w : Wo) (ms : List Nat) : Prop := ∀ S, Ok (f [w.enc, nats ms] S) fun v S' => ∃ l, v = .loc l ∧ S'[l]? = some (.lst ((given w.ru w.ps w.ws ms).map told')) ∧ S.length ≤ l ∧ Gr S S'
theorem go_mets {w : Wo} {ts : List Nat} : ∀ i, i ≤ ts.length → Wn w ts i = mets w.ru w.ps w.ws (ts.take i)
  | 0, _ => rfl
  | i + 1, h => by
    have e : ts[i]? = some (turn ts i) := by
      unfold turn
      rw [Nat.mod_eq_of_lt (by omega), List.getD_eq_getElem?_getD, List.getElem?_eq_getElem (by omega)]; rfl
    rw [take_snoc e, mets_snoc, ← go_mets i (by omega)]
    rfl
theorem Wn_met {w : Wo} {ts : List Nat} : Wn w ts ts.length = mets w.ru w.ps w.ws ts := by
  rw [go_mets _ (Nat.le_refl _), List.take_length]
/-- the world with other weights -/
def Wo.at (w : Wo) (ws : List Int) : Wo := ⟨ws, w.ps, w.ru⟩
theorem Lasso.two {w : Wo} {ts : List Nat} {f L : Nat} (l : Lasso w ts f L) {i j : Nat} (hij : i < j) (e : Xn w ts i = Xn w ts j) : f ≤ i ∧ (j - i) % (L - f) = 0 := by
  have hlt := l.lt
  have hf : f ≤ i := by
    by_cases h : f ≤ i
    · exact h
    · exfalso
      by_cases hj : j < L
      · exact l.dis i j hij hj e
      · have a := l.far (m := j) (by omega)
        have b := Nat.mod_lt (j - f) (show 0 < L - f by omega)
        exact l.dis i _ (by omega) (by omega) (e.trans a.symm)
  refine ⟨hf, ?_⟩
  have a1 := l.far (m := i) hf
  have a2 := l.far (m := j) (by omega)
  have b1 := Nat.mod_lt (i - f) (show 0 < L - f by omega)
  have b2 := Nat.mod_lt (j - f) (show 0 < L - f by omega)
  have e2 := a1.trans (e.trans a2.symm)
  have e3 : (i - f) % (L - f) = (j - f) % (L - f) := by
    rcases Nat.lt_trichotomy ((i - f) % (L - f)) ((j - f) % (L - f)) with z | z | z
    · exact absurd e2 (l.dis _ _ (Nat.add_lt_add_left z f) (by omega))
    · exact z
    · exact absurd e2.symm (l.dis _ _ (Nat.add_lt_add_left z f) (by omega))
  have c1 := Nat.mod_add_div (i - f) (L - f)
  have c2 := Nat.mod_add_div (j - f) (L - f)
  have : j - i = (L - f) * ((j - f) / (L - f)) - (L - f) * ((i - f) / (L - f)) := by omega
  rw [this, ← Nat.mul_sub, Nat.mul_mod_right]
theorem Xn_two {w : Wo} {ts : List Nat} (hp : 0 < ts.length) {i j : Nat} (e : Xn w (ts ++ ts) i = Xn w (ts ++ ts) j) : Xn w ts i = Xn w ts j := by
  simp only [Xn, Prod.mk.injEq, Wn_two hp, List.length_append] at e ⊢
  refine ⟨e.1, ?_⟩
  have h : ∀ n, n % ts.length = n % (ts.length + ts.length) % ts.length := fun n => (Nat.mod_mod_of_dvd n ⟨2, by omega⟩).symm
  rw [h i, h j, e.2]
theorem Lasso.double {w : Wo} {ts : List Nat} (hp : 0 < ts.length) {f L f' L' : Nat} (l : Lasso w ts f L) (l' : Lasso w (ts ++ ts) f' L') : f' = f ∧ (L' - f') % (L - f) = 0 := by
  have hlt := l.lt
  have hlt' := l'.lt
  obtain ⟨h1, h2⟩ := l.two hlt' (Xn_two hp l'.eq.symm)
  refine ⟨?_, h2⟩
  by_cases h : f' = f
  · exact h
  · exfalso
    have e := l'.eq
    simp only [Xn, Prod.mk.injEq] at e
    have hl2 : (ts ++ ts).length = ts.length + ts.length := List.length_append
    refine l'.dis (f' - 1) (L' - 1) (by omega) (by omega) ?_
    simp only [Xn, Prod.mk.injEq]
    constructor
    · rw [Wn_two hp, Wn_two hp]
      have hm : (L' - f') = (L' - f') / (L - f) * (L - f) := by
        have := Nat.mod_add_div (L' - f') (L - f)
        rw [h2, Nat.mul_comm] at this; omega
      have := l.mul (i := f' - 1) (by omega) ((L' - f') / (L - f))
      rw [← hm, show f' - 1 + (L' - f') = L' - 1 by omega] at this
      simp only [Xn, Prod.mk.injEq] at this
      exact this.1.symm
    · have e2 := e.2
      have c1 := Nat.mod_add_div L' (ts ++ ts).length
      have c2 := Nat.mod_add_div f' (ts ++ ts).length
      have hd : L' - 1 = (f' - 1) + (ts ++ ts).length * (L' / (ts ++ ts).length - f' / (ts ++ ts).length) := by
        rw [Nat.mul_sub]; omega
      rw [hd, Nat.add_mul_mod_self_left]
theorem RestD.uniq {w : Wo} {ts : List Nat} {u v : D} (hu : RestD w ts u) (hv : RestD w ts v) : u = v := by
  rcases hu with ⟨rfl, n1⟩ | ⟨j1, rfl, c1, m1⟩ <;> rcases hv with ⟨rfl, n2⟩ | ⟨j2, rfl, c2, m2⟩
  · rfl
  · exact absurd c2 (n1 _)
  · exact absurd c1 (n2 _)
  · have : j1 = j2 := by
      rcases Nat.lt_trichotomy j1 j2 with z | z | z
      · exact absurd c1 (m2 _ z)
      · exact z
      · exact absurd c2 (m1 _ z)
    rw [this]
theorem Con_two {w : Wo} {ts : List Nat} (hp : 0 < ts.length) {k : Nat} : Con w (ts ++ ts) k ↔ Con w ts k := by
  unfold Con
  refine ⟨fun h i hi => ?_, fun h i hi => ?_⟩
  · rw [← Wn_two hp i, ← Wn_two hp k]; exact h i hi
  · rw [Wn_two hp, Wn_two hp]; exact h i hi
theorem RestD.one {w : Wo} {ts : List Nat} (hp : 0 < ts.length) {v : D} (h : RestD w (ts ++ ts) v) : RestD w ts v := by
  rcases h with ⟨rfl, n1⟩ | ⟨j1, rfl, c1, m1⟩
  · exact .inl ⟨rfl, fun k c => n1 k ((Con_two hp).mpr c)⟩
  · exact .inr ⟨j1, by rw [Wn_two hp], (Con_two hp).mp c1, fun j hj c => m1 j hj ((Con_two hp).mpr c)⟩
end Mn
set_option maxHeartbeats 4000000
/-! Law k21. -/
namespace Mn
open PySem
theorem Cls.more {w : Wo} {ts ss : List Nat} (h : Cls w ts) (hs : Tn w ss) (hl : ts.length + ss.length ≤ 18) : Cls w (ts ++ ss) :=
  ⟨h.ok, ⟨by simp [h.tn.ne], fun t z => by rcases List.mem_append.mp z with z | z; exact h.tn.lt t z; exact hs.lt t z⟩, by rw [List.length_append]; omega, h.n5, h.sm⟩
theorem seq_ok {a b : SM} {σ : Env} {S : Store} {N : Env → Store → Prop} {T : D → Store → Prop} (R : Env → Store → Prop) (h1 : OkS (a σ S) R T) (h2 : ∀ σ S, R σ S → OkS (b σ S) N T) : OkS (sSeq a b σ S) N T := by
  rw [w_sSeq]; exact h1.mono h2 fun _ _ z => z
theorem pl_told {xs : List (Option (Nat × Nat × Int))} : (xs.map told').all (pl 7) = true := by
  rw [List.all_map, List.all_eq_true]
  intro x _
  match x with
  | none => rfl
  | some (g, t, m) => simp [told', pl]
theorem RestD.pl {w : Wo} {ts : List Nat} {v : D} (h : RestD w ts v) : pl 8 v = true := by
  rcases h with ⟨rfl, _⟩ | ⟨j, rfl, _⟩ <;> simp [Mn.pl, nums]
theorem law_k21_ok {fa fn fr fm fp fg ft fw fx : Fn} (hn : NextOk fn) (hw : WorldOk fw 5 12) (ht : TurnsOk ft 9) (hx : MixOk fx 79) (ha : ∀ w ts, Cls w ts → AfterOk fa w ts) (hp : ∀ w ts, Cls w ts → PeriodOk fp w ts) (hr : ∀ w ts, Cls w ts → RestsOk fr w ts)
    (hm : ∀ w ts, Cls w ts → MetOk fm w ts) (hg : ∀ w ts, Cls w ts → GiftsOk fg w ts) {ns : List Int} (hns : ns.length ≤ 63) :
    Ok (mkFn 1 12 (p_law_k21 fa fn fr fm fp fg ft fw fx) [.ro (ns.map .int)] []) fun v _ => v = .bl true := by
  have hsz := szl
  rw [p_law_k21, w_fn]
  refine ⟨rfl, ?_⟩
  rw [w_sSeq]
  simp only [w_fn, w_ok, w_sIf, w_sRet, w_sPar2, w_sPar4, w_sNil, w_sNever, w_sExpr, w_sSet, w_sPut, w_sAug, w_sAugS, w_sFor, w_e1, w_e2, w_eF, w_eM, w_cons, w_nil, w_var, w_c, w_tup, w_lst, w_d0, w_and, w_or, w_not, w_if, w_ch, w_ch3, w_sl, w_pOf, w_pNo, w_iOf, w_iEnum, w_iRng, w_lc, v_add, v_iadd, v_addS, v_addT, v_addL, v_sub, v_mul, v_mulT, v_div, v_mod, v_pow, v_neg, v_cmp, v_eq, v_eqS, v_eqB, v_ne, v_notIn, v_isN, v_notN, v_inS, v_inI, v_ix, v_ixL, v_sl, v_slL, v_on1, v_on2, v_abs, v_max2, v_min2, v_len, v_lenR, v_lenL, v_list, v_listR, v_listL, v_tuple, v_tupleL, v_onIs, v_isL, v_append, v_popAt, v_putL, v_it, v_itR, v_itL, v_noRoT, v_noRoL, v_tgN, v_tgT, v_tgCons, v_tgNil, v_eYes, v_okg, v_okg1, List.length_cons, List.length_nil, List.map_cons, List.map_nil, List.replicate, List.cons_append, List.nil_append, List.getElem?_cons_zero, List.getElem?_cons_succ, Option.some.injEq, exists_eq_left', exists_eq_left, List.set_cons_zero, List.set_cons_succ, D.bl.injEq, D.int.injEq, D.str.injEq, D.tup.injEq, D.loc.injEq, decide_eq_true_eq, Bool.not_eq_true', decide_eq_false_iff_not, true_and, and_true, Ob.lst.injEq, Nat.reduceAdd, Nat.reduceSub, ix_0, ix_1, ix_2, upTo_0, ix30, ix31, ix32, List.set_set, cut_1, look_new, set_new, wipeD, List.drop_succ_cons, List.drop_zero, inFlat, List.all_cons, List.all_nil, Bool.and_self, Bool.and_true, reduceIte, List.mem_cons, List.not_mem_nil, or_false, false_or, or_true, true_or, reduceCtorEq, Int.reduceEq, Int.reduceLE, Int.reduceLT, Int.cast_ofNat_Int, Int.natCast_zero, Int.natCast_one, Int.natCast_add, not_true_eq_false, not_false_eq_true, decide_true, decide_false, Bool.false_eq_true, if_true, if_false, Bool.not_true, Bool.not_false, Int.reduceNeg, Int.reduceSub, Int.reduceAdd]
  refine (hx ns [] (by omega)).mono fun v S1 ⟨h, c, e, x1⟩ => ?_
  subst e
  rw [w_sSeq]
  simp only [w_fn, w_ok, w_sIf, w_sRet, w_sPar2, w_sPar4, w_sNil, w_sNever, w_sExpr, w_sSet, w_sPut, w_sAug, w_sAugS, w_sFor, w_e1, w_e2, w_eF, w_eM, w_cons, w_nil, w_var, w_c, w_tup, w_lst, w_d0, w_and, w_or, w_not, w_if, w_ch, w_ch3, w_sl, w_pOf, w_pNo, w_iOf, w_iEnum, w_iRng, w_lc, v_add, v_iadd, v_addS, v_addT, v_addL, v_sub, v_mul, v_mulT, v_div, v_mod, v_pow, v_neg, v_cmp, v_eq, v_eqS, v_eqB, v_ne, v_notIn, v_isN, v_notN, v_inS, v_inI, v_ix, v_ixL, v_sl, v_slL, v_on1, v_on2, v_abs, v_max2, v_min2, v_len, v_lenR, v_lenL, v_list, v_listR, v_listL, v_tuple, v_tupleL, v_onIs, v_isL, v_append, v_popAt, v_putL, v_it, v_itR, v_itL, v_noRoT, v_noRoL, v_tgN, v_tgT, v_tgCons, v_tgNil, v_eYes, v_okg, v_okg1, List.length_cons, List.length_nil, List.map_cons, List.map_nil, List.replicate, List.cons_append, List.nil_append, List.getElem?_cons_zero, List.getElem?_cons_succ, Option.some.injEq, exists_eq_left', exists_eq_left, List.set_cons_zero, List.set_cons_succ, D.bl.injEq, D.int.injEq, D.str.injEq, D.tup.injEq, D.loc.injEq, decide_eq_true_eq, Bool.not_eq_true', decide_eq_false_iff_not, true_and, and_true, Ob.lst.injEq, Nat.reduceAdd, Nat.reduceSub, ix_0, ix_1, ix_2, upTo_0, ix30, ix31, ix32, List.set_set, cut_1, look_new, set_new, wipeD, List.drop_succ_cons, List.drop_zero, inFlat, List.all_cons, List.all_nil, Bool.and_self, Bool.and_true, reduceIte, List.mem_cons, List.not_mem_nil, or_false, false_or, or_true, true_or, reduceCtorEq, Int.reduceEq, Int.reduceLE, Int.reduceLT, Int.cast_ofNat_Int, Int.natCast_zero, Int.natCast_one, Int.natCast_add, not_true_eq_false, not_false_eq_true, decide_true, decide_false, Bool.false_eq_true, if_true, if_false, Bool.not_true, Bool.not_false, Int.reduceNeg, Int.reduceSub, Int.reduceAdd]
  refine ⟨by decide, ?_⟩
  refine for_ix (fun i σ S' => HS h c S' ∧ ∃ y2 y3 y4 y5 y6 y7 y8 y9 y10 y11, σ = [some (.ro (ns.map .int)), some (.loc h), y2, y3, y4, y5, y6, y7, y8, y9, y10, y11]) ⟨x1, _, _, _, _, _, _, _, _, _, _, rfl⟩ ?_ ?_
  · rintro i o σ S2 ho ⟨x2, y2, y3, y4, y5, y6, y7, y8, y9, y10, y11, rfl⟩
    simp only [v_okg, v_tgN, true_and]
    rw [w_sSeq]
    simp only [w_fn, w_ok, w_sIf, w_sRet, w_sPar2, w_sPar4, w_sNil, w_sNever, w_sExpr, w_sSet, w_sPut, w_sAug, w_sAugS, w_sFor, w_e1, w_e2, w_eF, w_eM, w_cons, w_nil, w_var, w_c, w_tup, w_lst, w_d0, w_and, w_or, w_not, w_if, w_ch, w_ch3, w_sl, w_pOf, w_pNo, w_iOf, w_iEnum, w_iRng, w_lc, v_add, v_iadd, v_addS, v_addT, v_addL, v_sub, v_mul, v_mulT, v_div, v_mod, v_pow, v_neg, v_cmp, v_eq, v_eqS, v_eqB, v_ne, v_notIn, v_isN, v_notN, v_inS, v_inI, v_ix, v_ixL, v_sl, v_slL, v_on1, v_on2, v_abs, v_max2, v_min2, v_len, v_lenR, v_lenL, v_list, v_listR, v_listL, v_tuple, v_tupleL, v_onIs, v_isL, v_append, v_popAt, v_putL, v_it, v_itR, v_itL, v_noRoT, v_noRoL, v_tgN, v_tgT, v_tgCons, v_tgNil, v_eYes, v_okg, v_okg1, List.length_cons, List.length_nil, List.map_cons, List.map_nil, List.replicate, List.cons_append, List.nil_append, List.getElem?_cons_zero, List.getElem?_cons_succ, Option.some.injEq, exists_eq_left', exists_eq_left, List.set_cons_zero, List.set_cons_succ, D.bl.injEq, D.int.injEq, D.str.injEq, D.tup.injEq, D.loc.injEq, decide_eq_true_eq, Bool.not_eq_true', decide_eq_false_iff_not, true_and, and_true, Ob.lst.injEq, Nat.reduceAdd, Nat.reduceSub, ix_0, ix_1, ix_2, upTo_0, ix30, ix31, ix32, List.set_set, cut_1, look_new, set_new, wipeD, List.drop_succ_cons, List.drop_zero, inFlat, List.all_cons, List.all_nil, Bool.and_self, Bool.and_true, reduceIte, List.mem_cons, List.not_mem_nil, or_false, false_or, or_true, true_or, reduceCtorEq, Int.reduceEq, Int.reduceLE, Int.reduceLT, Int.cast_ofNat_Int, Int.natCast_zero, Int.natCast_one, Int.natCast_add, not_true_eq_false, not_false_eq_true, decide_true, decide_false, Bool.false_eq_true, if_true, if_false, Bool.not_true, Bool.not_false, Int.reduceNeg, Int.reduceSub, Int.reduceAdd]
    refine (hw h c S2 x2).mono fun v S3 ⟨w, e, wok, wn, wm, x3, u3⟩ => ?_
    subst e
    simp only [w_fn, w_ok, w_sIf, w_sRet, w_sPar2, w_sPar4, w_sNil, w_sNever, w_sExpr, w_sSet, w_sPut, w_sAug, w_sAugS, w_sFor, w_e1, w_e2, w_eF, w_eM, w_cons, w_nil, w_var, w_c, w_tup, w_lst, w_d0, w_and, w_or, w_not, w_if, w_ch, w_ch3, w_sl, w_pOf, w_pNo, w_iOf, w_iEnum, w_iRng, w_lc, v_add, v_iadd, v_addS, v_addT, v_addL, v_sub, v_mul, v_mulT, v_div, v_mod, v_pow, v_neg, v_cmp, v_eq, v_eqS, v_eqB, v_ne, v_notIn, v_isN, v_notN, v_inS, v_inI, v_ix, v_ixL, v_sl, v_slL, v_on1, v_on2, v_abs, v_max2, v_min2, v_len, v_lenR, v_lenL, v_list, v_listR, v_listL, v_tuple, v_tupleL, v_onIs, v_isL, v_append, v_popAt, v_putL, v_it, v_itR, v_itL, v_noRoT, v_noRoL, v_tgN, v_tgT, v_tgCons, v_tgNil, v_eYes, v_okg, v_okg1, List.length_cons, List.length_nil, List.map_cons, List.map_nil, List.replicate, List.cons_append, List.nil_append, List.getElem?_cons_zero, List.getElem?_cons_succ, Option.some.injEq, exists_eq_left', exists_eq_left, List.set_cons_zero, List.set_cons_succ, D.bl.injEq, D.int.injEq, D.str.injEq, D.tup.injEq, D.loc.injEq, decide_eq_true_eq, Bool.not_eq_true', decide_eq_false_iff_not, true_and, and_true, Ob.lst.injEq, Nat.reduceAdd, Nat.reduceSub, ix_0, ix_1, ix_2, upTo_0, ix30, ix31, ix32, List.set_set, cut_1, look_new, set_new, wipeD, List.drop_succ_cons, List.drop_zero, inFlat, List.all_cons, List.all_nil, Bool.and_self, Bool.and_true, reduceIte, List.mem_cons, List.not_mem_nil, or_false, false_or, or_true, true_or, reduceCtorEq, Int.reduceEq, Int.reduceLE, Int.reduceLT, Int.cast_ofNat_Int, Int.natCast_zero, Int.natCast_one, Int.natCast_add, not_true_eq_false, not_false_eq_true, decide_true, decide_false, Bool.false_eq_true, if_true, if_false, Bool.not_true, Bool.not_false, Int.reduceNeg, Int.reduceSub, Int.reduceAdd, Wo.enc, v_eqP pl_prs (show pl 8 (.tup []) = true from rfl), prs_ne]
    by_cases hps : w.ps = []
    · rw [if_neg (by simpa using hps)]
      exact ⟨x3, _, _, _, _, _, _, _, _, _, _, rfl⟩
    rw [if_pos (by simpa using hps)]
    rw [w_sSeq]
    simp only [w_fn, w_ok, w_sIf, w_sRet, w_sPar2, w_sPar4, w_sNil, w_sNever, w_sExpr, w_sSet, w_sPut, w_sAug, w_sAugS, w_sFor, w_e1, w_e2, w_eF, w_eM, w_cons, w_nil, w_var, w_c, w_tup, w_lst, w_d0, w_and, w_or, w_not, w_if, w_ch, w_ch3, w_sl, w_pOf, w_pNo, w_iOf, w_iEnum, w_iRng, w_lc, v_add, v_iadd, v_addS, v_addT, v_addL, v_sub, v_mul, v_mulT, v_div, v_mod, v_pow, v_neg, v_cmp, v_eq, v_eqS, v_eqB, v_ne, v_notIn, v_isN, v_notN, v_inS, v_inI, v_ix, v_ixL, v_sl, v_slL, v_on1, v_on2, v_abs, v_max2, v_min2, v_len, v_lenR, v_lenL, v_list, v_listR, v_listL, v_tuple, v_tupleL, v_onIs, v_isL, v_append, v_popAt, v_putL, v_it, v_itR, v_itL, v_noRoT, v_noRoL, v_tgN, v_tgT, v_tgCons, v_tgNil, v_eYes, v_okg, v_okg1, List.length_cons, List.length_nil, List.map_cons, List.map_nil, List.replicate, List.cons_append, List.nil_append, List.getElem?_cons_zero, List.getElem?_cons_succ, Option.some.injEq, exists_eq_left', exists_eq_left, List.set_cons_zero, List.set_cons_succ, D.bl.injEq, D.int.injEq, D.str.injEq, D.tup.injEq, D.loc.injEq, decide_eq_true_eq, Bool.not_eq_true', decide_eq_false_iff_not, true_and, and_true, Ob.lst.injEq, Nat.reduceAdd, Nat.reduceSub, ix_0, ix_1, ix_2, upTo_0, ix30, ix31, ix32, List.set_set, cut_1, look_new, set_new, wipeD, List.drop_succ_cons, List.drop_zero, inFlat, List.all_cons, List.all_nil, Bool.and_self, Bool.and_true, reduceIte, List.mem_cons, List.not_mem_nil, or_false, false_or, or_true, true_or, reduceCtorEq, Int.reduceEq, Int.reduceLE, Int.reduceLT, Int.cast_ofNat_Int, Int.natCast_zero, Int.natCast_one, Int.natCast_add, not_true_eq_false, not_false_eq_true, decide_true, decide_false, Bool.false_eq_true, if_true, if_false, Bool.not_true, Bool.not_false, Int.reduceNeg, Int.reduceSub, Int.reduceAdd]
    refine (ht w h c S3 wok hps x3).mono fun v S4 ⟨ts, e, tn, tl, x4, u4⟩ => ?_
    subst e
    refine (ht w h c S4 wok hps x4).mono fun v S5 ⟨ss, e, sn, sl, x5, u5⟩ => ?_
    subst e
    have hsm : w.ws.sum ≤ 60 := by
      have := sum_le wm
      omega
    have cls : Cls w ts := ⟨wok, tn, by omega, by omega, hsm⟩
    rw [w_sSeq]
    simp only [w_fn, w_ok, w_sIf, w_sRet, w_sPar2, w_sPar4, w_sNil, w_sNever, w_sExpr, w_sSet, w_sPut, w_sAug, w_sAugS, w_sFor, w_e1, w_e2, w_eF, w_eM, w_cons, w_nil, w_var, w_c, w_tup, w_lst, w_d0, w_and, w_or, w_not, w_if, w_ch, w_ch3, w_sl, w_pOf, w_pNo, w_iOf, w_iEnum, w_iRng, w_lc, v_add, v_iadd, v_addS, v_addT, v_addL, v_sub, v_mul, v_mulT, v_div, v_mod, v_pow, v_neg, v_cmp, v_eq, v_eqS, v_eqB, v_ne, v_notIn, v_isN, v_notN, v_inS, v_inI, v_ix, v_ixL, v_sl, v_slL, v_on1, v_on2, v_abs, v_max2, v_min2, v_len, v_lenR, v_lenL, v_list, v_listR, v_listL, v_tuple, v_tupleL, v_onIs, v_isL, v_append, v_popAt, v_putL, v_it, v_itR, v_itL, v_noRoT, v_noRoL, v_tgN, v_tgT, v_tgCons, v_tgNil, v_eYes, v_okg, v_okg1, List.length_cons, List.length_nil, List.map_cons, List.map_nil, List.replicate, List.cons_append, List.nil_append, List.getElem?_cons_zero, List.getElem?_cons_succ, Option.some.injEq, exists_eq_left', exists_eq_left, List.set_cons_zero, List.set_cons_succ, D.bl.injEq, D.int.injEq, D.str.injEq, D.tup.injEq, D.loc.injEq, decide_eq_true_eq, Bool.not_eq_true', decide_eq_false_iff_not, true_and, and_true, Ob.lst.injEq, Nat.reduceAdd, Nat.reduceSub, ix_0, ix_1, ix_2, upTo_0, ix30, ix31, ix32, List.set_set, cut_1, look_new, set_new, wipeD, List.drop_succ_cons, List.drop_zero, inFlat, List.all_cons, List.all_nil, Bool.and_self, Bool.and_true, reduceIte, List.mem_cons, List.not_mem_nil, or_false, false_or, or_true, true_or, reduceCtorEq, Int.reduceEq, Int.reduceLE, Int.reduceLT, Int.cast_ofNat_Int, Int.natCast_zero, Int.natCast_one, Int.natCast_add, not_true_eq_false, not_false_eq_true, decide_true, decide_false, Bool.false_eq_true, if_true, if_false, Bool.not_true, Bool.not_false, Int.reduceNeg, Int.reduceSub, Int.reduceAdd]
    refine (hm w ts cls S5).mono fun v S6 ⟨e, g6⟩ => ?_
    subst e
    have x6 := x5.gr g6
    have hlen : (mets w.ru w.ps w.ws ts).length = w.ws.length := mets_len
    have hne : mets w.ru w.ps w.ws ts ≠ [] := fun z => by rw [z] at hlen; have := wok.n2; simp at hlen; omega
    have hp0 := tn.pos
    rw [w_sSeq]
    simp only [w_fn, w_ok, w_sIf, w_sRet, w_sPar2, w_sPar4, w_sNil, w_sNever, w_sExpr, w_sSet, w_sPut, w_sAug, w_sAugS, w_sFor, w_e1, w_e2, w_eF, w_eM, w_cons, w_nil, w_var, w_c, w_tup, w_lst, w_d0, w_and, w_or, w_not, w_if, w_ch, w_ch3, w_sl, w_pOf, w_pNo, w_iOf, w_iEnum, w_iRng, w_lc, v_add, v_iadd, v_addS, v_addT, v_addL, v_sub, v_mul, v_mulT, v_div, v_mod, v_pow, v_neg, v_cmp, v_eq, v_eqS, v_eqB, v_ne, v_notIn, v_isN, v_notN, v_inS, v_inI, v_ix, v_ixL, v_sl, v_slL, v_on1, v_on2, v_abs, v_max2, v_min2, v_len, v_lenR, v_lenL, v_list, v_listR, v_listL, v_tuple, v_tupleL, v_onIs, v_isL, v_append, v_popAt, v_putL, v_it, v_itR, v_itL, v_noRoT, v_noRoL, v_tgN, v_tgT, v_tgCons, v_tgNil, v_eYes, v_okg, v_okg1, List.length_cons, List.length_nil, List.map_cons, List.map_nil, List.replicate, List.cons_append, List.nil_append, List.getElem?_cons_zero, List.getElem?_cons_succ, Option.some.injEq, exists_eq_left', exists_eq_left, List.set_cons_zero, List.set_cons_succ, D.bl.injEq, D.int.injEq, D.str.injEq, D.tup.injEq, D.loc.injEq, decide_eq_true_eq, Bool.not_eq_true', decide_eq_false_iff_not, true_and, and_true, Ob.lst.injEq, Nat.reduceAdd, Nat.reduceSub, ix_0, ix_1, ix_2, upTo_0, ix30, ix31, ix32, List.set_set, cut_1, look_new, set_new, wipeD, List.drop_succ_cons, List.drop_zero, inFlat, List.all_cons, List.all_nil, Bool.and_self, Bool.and_true, reduceIte, List.mem_cons, List.not_mem_nil, or_false, false_or, or_true, true_or, reduceCtorEq, Int.reduceEq, Int.reduceLE, Int.reduceLT, Int.cast_ofNat_Int, Int.natCast_zero, Int.natCast_one, Int.natCast_add, not_true_eq_false, not_false_eq_true, decide_true, decide_false, Bool.false_eq_true, if_true, if_false, Bool.not_true, Bool.not_false, Int.reduceNeg, Int.reduceSub, Int.reduceAdd]
    refine ⟨by omega, ?_⟩
    refine seq_ok (fun σ S => HS h c S ∧ σ = [some (.ro (ns.map .int)), some (.loc h), some (.int (o : Nat)), some w.enc, some (nats ts), some (nats ss), some (nums (mets w.ru w.ps w.ws ts)), some (.tup [nums (mets w.ru w.ps w.ws ts), prs w.ps, w.ru.enc]), y8, y9, y10, y11]) ?_ ?_
    · simp only [w_fn, w_ok, w_sIf, w_sRet, w_sPar2, w_sPar4, w_sNil, w_sNever, w_sExpr, w_sSet, w_sPut, w_sAug, w_sAugS, w_sFor, w_e1, w_e2, w_eF, w_eM, w_cons, w_nil, w_var, w_c, w_tup, w_lst, w_d0, w_and, w_or, w_not, w_if, w_ch, w_ch3, w_sl, w_pOf, w_pNo, w_iOf, w_iEnum, w_iRng, w_lc, v_add, v_iadd, v_addS, v_addT, v_addL, v_sub, v_mul, v_mulT, v_div, v_mod, v_pow, v_neg, v_cmp, v_eq, v_eqS, v_eqB, v_ne, v_notIn, v_isN, v_notN, v_inS, v_inI, v_ix, v_ixL, v_sl, v_slL, v_on1, v_on2, v_abs, v_max2, v_min2, v_len, v_lenR, v_lenL, v_list, v_listR, v_listL, v_tuple, v_tupleL, v_onIs, v_isL, v_append, v_popAt, v_putL, v_it, v_itR, v_itL, v_noRoT, v_noRoL, v_tgN, v_tgT, v_tgCons, v_tgNil, v_eYes, v_okg, v_okg1, List.length_cons, List.length_nil, List.map_cons, List.map_nil, List.replicate, List.cons_append, List.nil_append, List.getElem?_cons_zero, List.getElem?_cons_succ, Option.some.injEq, exists_eq_left', exists_eq_left, List.set_cons_zero, List.set_cons_succ, D.bl.injEq, D.int.injEq, D.str.injEq, D.tup.injEq, D.loc.injEq, decide_eq_true_eq, Bool.not_eq_true', decide_eq_false_iff_not, true_and, and_true, Ob.lst.injEq, Nat.reduceAdd, Nat.reduceSub, ix_0, ix_1, ix_2, upTo_0, ix30, ix31, ix32, List.set_set, cut_1, look_new, set_new, wipeD, List.drop_succ_cons, List.drop_zero, inFlat, List.all_cons, List.all_nil, Bool.and_self, Bool.and_true, reduceIte, List.mem_cons, List.not_mem_nil, or_false, false_or, or_true, true_or, reduceCtorEq, Int.reduceEq, Int.reduceLE, Int.reduceLT, Int.cast_ofNat_Int, Int.natCast_zero, Int.natCast_one, Int.natCast_add, not_true_eq_false, not_false_eq_true, decide_true, decide_false, Bool.false_eq_true, if_true, if_false, Bool.not_true, Bool.not_false, Int.reduceNeg, Int.reduceSub, Int.reduceAdd]
      rw [v_max hne]
      simp only [w_fn, w_ok, w_sIf, w_sRet, w_sPar2, w_sPar4, w_sNil, w_sNever, w_sExpr, w_sSet, w_sPut, w_sAug, w_sAugS, w_sFor, w_e1, w_e2, w_eF, w_eM, w_cons, w_nil, w_var, w_c, w_tup, w_lst, w_d0, w_and, w_or, w_not, w_if, w_ch, w_ch3, w_sl, w_pOf, w_pNo, w_iOf, w_iEnum, w_iRng, w_lc, v_add, v_iadd, v_addS, v_addT, v_addL, v_sub, v_mul, v_mulT, v_div, v_mod, v_pow, v_neg, v_cmp, v_eq, v_eqS, v_eqB, v_ne, v_notIn, v_isN, v_notN, v_inS, v_inI, v_ix, v_ixL, v_sl, v_slL, v_on1, v_on2, v_abs, v_max2, v_min2, v_len, v_lenR, v_lenL, v_list, v_listR, v_listL, v_tuple, v_tupleL, v_onIs, v_isL, v_append, v_popAt, v_putL, v_it, v_itR, v_itL, v_noRoT, v_noRoL, v_tgN, v_tgT, v_tgCons, v_tgNil, v_eYes, v_okg, v_okg1, List.length_cons, List.length_nil, List.map_cons, List.map_nil, List.replicate, List.cons_append, List.nil_append, List.getElem?_cons_zero, List.getElem?_cons_succ, Option.some.injEq, exists_eq_left', exists_eq_left, List.set_cons_zero, List.set_cons_succ, D.bl.injEq, D.int.injEq, D.str.injEq, D.tup.injEq, D.loc.injEq, decide_eq_true_eq, Bool.not_eq_true', decide_eq_false_iff_not, true_and, and_true, Ob.lst.injEq, Nat.reduceAdd, Nat.reduceSub, ix_0, ix_1, ix_2, upTo_0, ix30, ix31, ix32, List.set_set, cut_1, look_new, set_new, wipeD, List.drop_succ_cons, List.drop_zero, inFlat, List.all_cons, List.all_nil, Bool.and_self, Bool.and_true, reduceIte, List.mem_cons, List.not_mem_nil, or_false, false_or, or_true, true_or, reduceCtorEq, Int.reduceEq, Int.reduceLE, Int.reduceLT, Int.cast_ofNat_Int, Int.natCast_zero, Int.natCast_one, Int.natCast_add, not_true_eq_false, not_false_eq_true, decide_true, decide_false, Bool.false_eq_true, if_true, if_false, Bool.not_true, Bool.not_false, Int.reduceNeg, Int.reduceSub, Int.reduceAdd]
      by_cases h31 : mx (mets w.ru w.ps w.ws ts) < 31
      · rw [if_pos h31]
        have clsA : Cls w (ts ++ ss) := cls.more sn (by omega)
        have hok : (w.at (mets w.ru w.ps w.ws ts)).ok := by
          have := later_ok wok tn (far := ts.length) fun x hx => by rw [Wn_met] at hx; have := mx_ge x hx; omega
          rw [later, Wn_met] at this
          exact this
        have clsT : Cls (w.at (mets w.ru w.ps w.ws ts)) ss := ⟨hok, ⟨sn.ne, sn.lt⟩, by omega, by show (mets w.ru w.ps w.ws ts).length ≤ 5; omega, by show (mets w.ru w.ps w.ws ts).sum ≤ 60; rw [← Wn_met, (go_ok wok tn _).2]; exact hsm⟩
        rw [w_sSeq]
        simp only [w_fn, w_ok, w_sIf, w_sRet, w_sPar2, w_sPar4, w_sNil, w_sNever, w_sExpr, w_sSet, w_sPut, w_sAug, w_sAugS, w_sFor, w_e1, w_e2, w_eF, w_eM, w_cons, w_nil, w_var, w_c, w_tup, w_lst, w_d0, w_and, w_or, w_not, w_if, w_ch, w_ch3, w_sl, w_pOf, w_pNo, w_iOf, w_iEnum, w_iRng, w_lc, v_add, v_iadd, v_addS, v_addT, v_addL, v_sub, v_mul, v_mulT, v_div, v_mod, v_pow, v_neg, v_cmp, v_eq, v_eqS, v_eqB, v_ne, v_notIn, v_isN, v_notN, v_inS, v_inI, v_ix, v_ixL, v_sl, v_slL, v_on1, v_on2, v_abs, v_max2, v_min2, v_len, v_lenR, v_lenL, v_list, v_listR, v_listL, v_tuple, v_tupleL, v_onIs, v_isL, v_append, v_popAt, v_putL, v_it, v_itR, v_itL, v_noRoT, v_noRoL, v_tgN, v_tgT, v_tgCons, v_tgNil, v_eYes, v_okg, v_okg1, List.length_cons, List.length_nil, List.map_cons, List.map_nil, List.replicate, List.cons_append, List.nil_append, List.getElem?_cons_zero, List.getElem?_cons_succ, Option.some.injEq, exists_eq_left', exists_eq_left, List.set_cons_zero, List.set_cons_succ, D.bl.injEq, D.int.injEq, D.str.injEq, D.tup.injEq, D.loc.injEq, decide_eq_true_eq, Bool.not_eq_true', decide_eq_false_iff_not, true_and, and_true, Ob.lst.injEq, Nat.reduceAdd, Nat.reduceSub, ix_0, ix_1, ix_2, upTo_0, ix30, ix31, ix32, List.set_set, cut_1, look_new, set_new, wipeD, List.drop_succ_cons, List.drop_zero, inFlat, List.all_cons, List.all_nil, Bool.and_self, Bool.and_true, reduceIte, List.mem_cons, List.not_mem_nil, or_false, false_or, or_true, true_or, reduceCtorEq, Int.reduceEq, Int.reduceLE, Int.reduceLT, Int.cast_ofNat_Int, Int.natCast_zero, Int.natCast_one, Int.natCast_add, not_true_eq_false, not_false_eq_true, decide_true, decide_false, Bool.false_eq_true, if_true, if_false, Bool.not_true, Bool.not_false, Int.reduceNeg, Int.reduceSub, Int.reduceAdd]
        rw [nats_add (show ts.length + ss.length ≤ sizeLine by omega)]
        refine (hm w _ clsA S6).mono fun v S7 ⟨e, g7⟩ => ?_
        subst e
        refine (hm _ _ clsT S7).mono fun v S8 ⟨e, g8⟩ => ?_
        subst e
        rw [v_eqN, mets_add]
        refine ⟨true, by simp [Wo.at], ?_⟩
        rw [if_neg (by simp)]
        rw [nats_add (show ts.length + ss.length ≤ sizeLine by omega)]
        refine (hg w _ clsA S8).mono fun v S9 ⟨l1, e, b1, b2, g9⟩ => ?_
        subst e
        refine (hg w _ cls S9).mono fun v S10 ⟨l2, e, c1, c2, g10⟩ => ?_
        subst e
        refine (hg _ _ clsT S10).mono fun v S11 ⟨l3, e, d1, d2, g11⟩ => ?_
        subst e
        simp only [w_fn, w_ok, w_sIf, w_sRet, w_sPar2, w_sPar4, w_sNil, w_sNever, w_sExpr, w_sSet, w_sPut, w_sAug, w_sAugS, w_sFor, w_e1, w_e2, w_eF, w_eM, w_cons, w_nil, w_var, w_c, w_tup, w_lst, w_d0, w_and, w_or, w_not, w_if, w_ch, w_ch3, w_sl, w_pOf, w_pNo, w_iOf, w_iEnum, w_iRng, w_lc, v_add, v_iadd, v_addS, v_addT, v_addL, v_sub, v_mul, v_mulT, v_div, v_mod, v_pow, v_neg, v_cmp, v_eq, v_eqS, v_eqB, v_ne, v_notIn, v_isN, v_notN, v_inS, v_inI, v_ix, v_ixL, v_sl, v_slL, v_on1, v_on2, v_abs, v_max2, v_min2, v_len, v_lenR, v_lenL, v_list, v_listR, v_listL, v_tuple, v_tupleL, v_onIs, v_isL, v_append, v_popAt, v_putL, v_it, v_itR, v_itL, v_noRoT, v_noRoL, v_tgN, v_tgT, v_tgCons, v_tgNil, v_eYes, v_okg, v_okg1, List.length_cons, List.length_nil, List.map_cons, List.map_nil, List.replicate, List.cons_append, List.nil_append, List.getElem?_cons_zero, List.getElem?_cons_succ, Option.some.injEq, exists_eq_left', exists_eq_left, List.set_cons_zero, List.set_cons_succ, D.bl.injEq, D.int.injEq, D.str.injEq, D.tup.injEq, D.loc.injEq, decide_eq_true_eq, Bool.not_eq_true', decide_eq_false_iff_not, true_and, and_true, Ob.lst.injEq, Nat.reduceAdd, Nat.reduceSub, ix_0, ix_1, ix_2, upTo_0, ix30, ix31, ix32, List.set_set, cut_1, look_new, set_new, wipeD, List.drop_succ_cons, List.drop_zero, inFlat, List.all_cons, List.all_nil, Bool.and_self, Bool.and_true, reduceIte, List.mem_cons, List.not_mem_nil, or_false, false_or, or_true, true_or, reduceCtorEq, Int.reduceEq, Int.reduceLE, Int.reduceLT, Int.cast_ofNat_Int, Int.natCast_zero, Int.natCast_one, Int.natCast_add, not_true_eq_false, not_false_eq_true, decide_true, decide_false, Bool.false_eq_true, if_true, if_false, Bool.not_true, Bool.not_false, Int.reduceNeg, Int.reduceSub, Int.reduceAdd, g11.look c1, d1]
        refine ⟨by simp only [List.length_map, given_len]; omega, ?_⟩
        rw [v_eqL (Gr.push.look (g11.look (g10.look b1))) look_new pl_told (by rw [List.all_append, pl_told, pl_told]; rfl)]
        refine ⟨true, by rw [given_add, List.map_append]; simp [Wo.at], ?_⟩
        rw [if_neg (by simp)]
        exact ⟨(((((x6.gr g7).gr g8).gr g9).gr g10).gr g11).push, rfl⟩
      · rw [if_neg h31]
        exact ⟨x6, rfl⟩
    · rintro σ S7 ⟨x7, rfl⟩
      have cls2 : Cls w (ts ++ ts) := cls.more tn (by omega)
      rw [w_sSeq]
      simp only [w_fn, w_ok, w_sIf, w_sRet, w_sPar2, w_sPar4, w_sNil, w_sNever, w_sExpr, w_sSet, w_sPut, w_sAug, w_sAugS, w_sFor, w_e1, w_e2, w_eF, w_eM, w_cons, w_nil, w_var, w_c, w_tup, w_lst, w_d0, w_and, w_or, w_not, w_if, w_ch, w_ch3, w_sl, w_pOf, w_pNo, w_iOf, w_iEnum, w_iRng, w_lc, v_add, v_iadd, v_addS, v_addT, v_addL, v_sub, v_mul, v_mulT, v_div, v_mod, v_pow, v_neg, v_cmp, v_eq, v_eqS, v_eqB, v_ne, v_notIn, v_isN, v_notN, v_inS, v_inI, v_ix, v_ixL, v_sl, v_slL, v_on1, v_on2, v_abs, v_max2, v_min2, v_len, v_lenR, v_lenL, v_list, v_listR, v_listL, v_tuple, v_tupleL, v_onIs, v_isL, v_append, v_popAt, v_putL, v_it, v_itR, v_itL, v_noRoT, v_noRoL, v_tgN, v_tgT, v_tgCons, v_tgNil, v_eYes, v_okg, v_okg1, List.length_cons, List.length_nil, List.map_cons, List.map_nil, List.replicate, List.cons_append, List.nil_append, List.getElem?_cons_zero, List.getElem?_cons_succ, Option.some.injEq, exists_eq_left', exists_eq_left, List.set_cons_zero, List.set_cons_succ, D.bl.injEq, D.int.injEq, D.str.injEq, D.tup.injEq, D.loc.injEq, decide_eq_true_eq, Bool.not_eq_true', decide_eq_false_iff_not, true_and, and_true, Ob.lst.injEq, Nat.reduceAdd, Nat.reduceSub, ix_0, ix_1, ix_2, upTo_0, ix30, ix31, ix32, List.set_set, cut_1, look_new, set_new, wipeD, List.drop_succ_cons, List.drop_zero, inFlat, List.all_cons, List.all_nil, Bool.and_self, Bool.and_true, reduceIte, List.mem_cons, List.not_mem_nil, or_false, false_or, or_true, true_or, reduceCtorEq, Int.reduceEq, Int.reduceLE, Int.reduceLT, Int.cast_ofNat_Int, Int.natCast_zero, Int.natCast_one, Int.natCast_add, not_true_eq_false, not_false_eq_true, decide_true, decide_false, Bool.false_eq_true, if_true, if_false, Bool.not_true, Bool.not_false, Int.reduceNeg, Int.reduceSub, Int.reduceAdd]
      refine (hp w ts cls S7).mono fun v S8 ⟨f, L, la, e, g8⟩ => ?_
      subst e
      have hlt := la.lt
      have x8 := x7.gr g8
      simp only [w_fn, w_ok, w_sIf, w_sRet, w_sPar2, w_sPar4, w_sNil, w_sNever, w_sExpr, w_sSet, w_sPut, w_sAug, w_sAugS, w_sFor, w_e1, w_e2, w_eF, w_eM, w_cons, w_nil, w_var, w_c, w_tup, w_lst, w_d0, w_and, w_or, w_not, w_if, w_ch, w_ch3, w_sl, w_pOf, w_pNo, w_iOf, w_iEnum, w_iRng, w_lc, v_add, v_iadd, v_addS, v_addT, v_addL, v_sub, v_mul, v_mulT, v_div, v_mod, v_pow, v_neg, v_cmp, v_eq, v_eqS, v_eqB, v_ne, v_notIn, v_isN, v_notN, v_inS, v_inI, v_ix, v_ixL, v_sl, v_slL, v_on1, v_on2, v_abs, v_max2, v_min2, v_len, v_lenR, v_lenL, v_list, v_listR, v_listL, v_tuple, v_tupleL, v_onIs, v_isL, v_append, v_popAt, v_putL, v_it, v_itR, v_itL, v_noRoT, v_noRoL, v_tgN, v_tgT, v_tgCons, v_tgNil, v_eYes, v_okg, v_okg1, List.length_cons, List.length_nil, List.map_cons, List.map_nil, List.replicate, List.cons_append, List.nil_append, List.getElem?_cons_zero, List.getElem?_cons_succ, Option.some.injEq, exists_eq_left', exists_eq_left, List.set_cons_zero, List.set_cons_succ, D.bl.injEq, D.int.injEq, D.str.injEq, D.tup.injEq, D.loc.injEq, decide_eq_true_eq, Bool.not_eq_true', decide_eq_false_iff_not, true_and, and_true, Ob.lst.injEq, Nat.reduceAdd, Nat.reduceSub, ix_0, ix_1, ix_2, upTo_0, ix30, ix31, ix32, List.set_set, cut_1, look_new, set_new, wipeD, List.drop_succ_cons, List.drop_zero, inFlat, List.all_cons, List.all_nil, Bool.and_self, Bool.and_true, reduceIte, List.mem_cons, List.not_mem_nil, or_false, false_or, or_true, true_or, reduceCtorEq, Int.reduceEq, Int.reduceLE, Int.reduceLT, Int.cast_ofNat_Int, Int.natCast_zero, Int.natCast_one, Int.natCast_add, not_true_eq_false, not_false_eq_true, decide_true, decide_false, Bool.false_eq_true, if_true, if_false, Bool.not_true, Bool.not_false, Int.reduceNeg, Int.reduceSub, Int.reduceAdd]
      rw [w_sSeq]
      simp only [w_fn, w_ok, w_sIf, w_sRet, w_sPar2, w_sPar4, w_sNil, w_sNever, w_sExpr, w_sSet, w_sPut, w_sAug, w_sAugS, w_sFor, w_e1, w_e2, w_eF, w_eM, w_cons, w_nil, w_var, w_c, w_tup, w_lst, w_d0, w_and, w_or, w_not, w_if, w_ch, w_ch3, w_sl, w_pOf, w_pNo, w_iOf, w_iEnum, w_iRng, w_lc, v_add, v_iadd, v_addS, v_addT, v_addL, v_sub, v_mul, v_mulT, v_div, v_mod, v_pow, v_neg, v_cmp, v_eq, v_eqS, v_eqB, v_ne, v_notIn, v_isN, v_notN, v_inS, v_inI, v_ix, v_ixL, v_sl, v_slL, v_on1, v_on2, v_abs, v_max2, v_min2, v_len, v_lenR, v_lenL, v_list, v_listR, v_listL, v_tuple, v_tupleL, v_onIs, v_isL, v_append, v_popAt, v_putL, v_it, v_itR, v_itL, v_noRoT, v_noRoL, v_tgN, v_tgT, v_tgCons, v_tgNil, v_eYes, v_okg, v_okg1, List.length_cons, List.length_nil, List.map_cons, List.map_nil, List.replicate, List.cons_append, List.nil_append, List.getElem?_cons_zero, List.getElem?_cons_succ, Option.some.injEq, exists_eq_left', exists_eq_left, List.set_cons_zero, List.set_cons_succ, D.bl.injEq, D.int.injEq, D.str.injEq, D.tup.injEq, D.loc.injEq, decide_eq_true_eq, Bool.not_eq_true', decide_eq_false_iff_not, true_and, and_true, Ob.lst.injEq, Nat.reduceAdd, Nat.reduceSub, ix_0, ix_1, ix_2, upTo_0, ix30, ix31, ix32, List.set_set, cut_1, look_new, set_new, wipeD, List.drop_succ_cons, List.drop_zero, inFlat, List.all_cons, List.all_nil, Bool.and_self, Bool.and_true, reduceIte, List.mem_cons, List.not_mem_nil, or_false, false_or, or_true, true_or, reduceCtorEq, Int.reduceEq, Int.reduceLE, Int.reduceLT, Int.cast_ofNat_Int, Int.natCast_zero, Int.natCast_one, Int.natCast_add, not_true_eq_false, not_false_eq_true, decide_true, decide_false, Bool.false_eq_true, if_true, if_false, Bool.not_true, Bool.not_false, Int.reduceNeg, Int.reduceSub, Int.reduceAdd]
      refine (hn h c 50 S8 (by omega) (by omega) x8).mono fun v S9 ⟨q, e, hq, x9, u9⟩ => ?_
      subst e
      obtain ⟨q, rfl⟩ : ∃ n : Nat, q = n := ⟨q.toNat, by omega⟩
      obtain ⟨m, hmq⟩ : ∃ m : Nat, m = f + q := ⟨_, rfl⟩
      obtain ⟨m2, hm2⟩ : ∃ m2 : Nat, m2 = m + (L - f) := ⟨_, rfl⟩
      obtain ⟨sz, hsz2⟩ : ∃ sz : Nat, sz = L - f := ⟨_, rfl⟩
      have eLf : (f : Int) + q = (m : Int) := by omega
      have eLs : (m : Int) + (sz : Int) = (m2 : Int) := by omega
      rw [← hsz2]
      have hL2 : L ≤ 11436768 := by
        have h1 := bound cls.ok cls.tn la.dis
        have h2 : cnt w.ws.length w.ws.sum.toNat ≤ cnt 5 60 := by
          have hs := cls.sm
          exact Nat.le_trans (cnt_n cls.n5) (cnt_s (by omega))
        have h3 := cnt5 60
        have h4 := Nat.mul_le_mul h2 cls.tl
        omega
      simp only [w_fn, w_ok, w_sIf, w_sRet, w_sPar2, w_sPar4, w_sNil, w_sNever, w_sExpr, w_sSet, w_sPut, w_sAug, w_sAugS, w_sFor, w_e1, w_e2, w_eF, w_eM, w_cons, w_nil, w_var, w_c, w_tup, w_lst, w_d0, w_and, w_or, w_not, w_if, w_ch, w_ch3, w_sl, w_pOf, w_pNo, w_iOf, w_iEnum, w_iRng, w_lc, v_add, v_iadd, v_addS, v_addT, v_addL, v_sub, v_mul, v_mulT, v_div, v_mod, v_pow, v_neg, v_cmp, v_eq, v_eqS, v_eqB, v_ne, v_notIn, v_isN, v_notN, v_inS, v_inI, v_ix, v_ixL, v_sl, v_slL, v_on1, v_on2, v_abs, v_max2, v_min2, v_len, v_lenR, v_lenL, v_list, v_listR, v_listL, v_tuple, v_tupleL, v_onIs, v_isL, v_append, v_popAt, v_putL, v_it, v_itR, v_itL, v_noRoT, v_noRoL, v_tgN, v_tgT, v_tgCons, v_tgNil, v_eYes, v_okg, v_okg1, List.length_cons, List.length_nil, List.map_cons, List.map_nil, List.replicate, List.cons_append, List.nil_append, List.getElem?_cons_zero, List.getElem?_cons_succ, Option.some.injEq, exists_eq_left', exists_eq_left, List.set_cons_zero, List.set_cons_succ, D.bl.injEq, D.int.injEq, D.str.injEq, D.tup.injEq, D.loc.injEq, decide_eq_true_eq, Bool.not_eq_true', decide_eq_false_iff_not, true_and, and_true, Ob.lst.injEq, Nat.reduceAdd, Nat.reduceSub, ix_0, ix_1, ix_2, upTo_0, ix30, ix31, ix32, List.set_set, cut_1, look_new, set_new, wipeD, List.drop_succ_cons, List.drop_zero, inFlat, List.all_cons, List.all_nil, Bool.and_self, Bool.and_true, reduceIte, List.mem_cons, List.not_mem_nil, or_false, false_or, or_true, true_or, reduceCtorEq, Int.reduceEq, Int.reduceLE, Int.reduceLT, Int.cast_ofNat_Int, Int.natCast_zero, Int.natCast_one, Int.natCast_add, not_true_eq_false, not_false_eq_true, decide_true, decide_false, Bool.false_eq_true, if_true, if_false, Bool.not_true, Bool.not_false, Int.reduceNeg, Int.reduceSub, Int.reduceAdd, eLf]
      rw [w_sSeq]
      simp only [w_fn, w_ok, w_sIf, w_sRet, w_sPar2, w_sPar4, w_sNil, w_sNever, w_sExpr, w_sSet, w_sPut, w_sAug, w_sAugS, w_sFor, w_e1, w_e2, w_eF, w_eM, w_cons, w_nil, w_var, w_c, w_tup, w_lst, w_d0, w_and, w_or, w_not, w_if, w_ch, w_ch3, w_sl, w_pOf, w_pNo, w_iOf, w_iEnum, w_iRng, w_lc, v_add, v_iadd, v_addS, v_addT, v_addL, v_sub, v_mul, v_mulT, v_div, v_mod, v_pow, v_neg, v_cmp, v_eq, v_eqS, v_eqB, v_ne, v_notIn, v_isN, v_notN, v_inS, v_inI, v_ix, v_ixL, v_sl, v_slL, v_on1, v_on2, v_abs, v_max2, v_min2, v_len, v_lenR, v_lenL, v_list, v_listR, v_listL, v_tuple, v_tupleL, v_onIs, v_isL, v_append, v_popAt, v_putL, v_it, v_itR, v_itL, v_noRoT, v_noRoL, v_tgN, v_tgT, v_tgCons, v_tgNil, v_eYes, v_okg, v_okg1, List.length_cons, List.length_nil, List.map_cons, List.map_nil, List.replicate, List.cons_append, List.nil_append, List.getElem?_cons_zero, List.getElem?_cons_succ, Option.some.injEq, exists_eq_left', exists_eq_left, List.set_cons_zero, List.set_cons_succ, D.bl.injEq, D.int.injEq, D.str.injEq, D.tup.injEq, D.loc.injEq, decide_eq_true_eq, Bool.not_eq_true', decide_eq_false_iff_not, true_and, and_true, Ob.lst.injEq, Nat.reduceAdd, Nat.reduceSub, ix_0, ix_1, ix_2, upTo_0, ix30, ix31, ix32, List.set_set, cut_1, look_new, set_new, wipeD, List.drop_succ_cons, List.drop_zero, inFlat, List.all_cons, List.all_nil, Bool.and_self, Bool.and_true, reduceIte, List.mem_cons, List.not_mem_nil, or_false, false_or, or_true, true_or, reduceCtorEq, Int.reduceEq, Int.reduceLE, Int.reduceLT, Int.cast_ofNat_Int, Int.natCast_zero, Int.natCast_one, Int.natCast_add, not_true_eq_false, not_false_eq_true, decide_true, decide_false, Bool.false_eq_true, if_true, if_false, Bool.not_true, Bool.not_false, Int.reduceNeg, Int.reduceSub, Int.reduceAdd]
      refine (ha w ts cls m S9 (by omega)).mono fun v S10 ⟨e, g10⟩ => ?_
      subst e
      rw [w_sSeq]
      simp only [w_fn, w_ok, w_sIf, w_sRet, w_sPar2, w_sPar4, w_sNil, w_sNever, w_sExpr, w_sSet, w_sPut, w_sAug, w_sAugS, w_sFor, w_e1, w_e2, w_eF, w_eM, w_cons, w_nil, w_var, w_c, w_tup, w_lst, w_d0, w_and, w_or, w_not, w_if, w_ch, w_ch3, w_sl, w_pOf, w_pNo, w_iOf, w_iEnum, w_iRng, w_lc, v_add, v_iadd, v_addS, v_addT, v_addL, v_sub, v_mul, v_mulT, v_div, v_mod, v_pow, v_neg, v_cmp, v_eq, v_eqS, v_eqB, v_ne, v_notIn, v_isN, v_notN, v_inS, v_inI, v_ix, v_ixL, v_sl, v_slL, v_on1, v_on2, v_abs, v_max2, v_min2, v_len, v_lenR, v_lenL, v_list, v_listR, v_listL, v_tuple, v_tupleL, v_onIs, v_isL, v_append, v_popAt, v_putL, v_it, v_itR, v_itL, v_noRoT, v_noRoL, v_tgN, v_tgT, v_tgCons, v_tgNil, v_eYes, v_okg, v_okg1, List.length_cons, List.length_nil, List.map_cons, List.map_nil, List.replicate, List.cons_append, List.nil_append, List.getElem?_cons_zero, List.getElem?_cons_succ, Option.some.injEq, exists_eq_left', exists_eq_left, List.set_cons_zero, List.set_cons_succ, D.bl.injEq, D.int.injEq, D.str.injEq, D.tup.injEq, D.loc.injEq, decide_eq_true_eq, Bool.not_eq_true', decide_eq_false_iff_not, true_and, and_true, Ob.lst.injEq, Nat.reduceAdd, Nat.reduceSub, ix_0, ix_1, ix_2, upTo_0, ix30, ix31, ix32, List.set_set, cut_1, look_new, set_new, wipeD, List.drop_succ_cons, List.drop_zero, inFlat, List.all_cons, List.all_nil, Bool.and_self, Bool.and_true, reduceIte, List.mem_cons, List.not_mem_nil, or_false, false_or, or_true, true_or, reduceCtorEq, Int.reduceEq, Int.reduceLE, Int.reduceLT, Int.cast_ofNat_Int, Int.natCast_zero, Int.natCast_one, Int.natCast_add, not_true_eq_false, not_false_eq_true, decide_true, decide_false, Bool.false_eq_true, if_true, if_false, Bool.not_true, Bool.not_false, Int.reduceNeg, Int.reduceSub, Int.reduceAdd, eLs]
      refine (ha w ts cls m2 S10 (by omega)).mono fun v S11 ⟨e, g11⟩ => ?_
      subst e
      have ea := la.add (i := m) (by omega)
      rw [← hm2] at ea
      simp only [Xn, Prod.mk.injEq] at ea
      rw [v_eqN, ea.1]
      refine ⟨true, by simp, ?_⟩
      rw [if_neg (by simp)]
      rw [nats_add (show ts.length + ts.length ≤ sizeLine by omega)]
      refine (ha w _ cls2 m S11 (by omega)).mono fun v S12 ⟨e, g12⟩ => ?_
      subst e
      rw [v_eqN, Wn_two hp0]
      refine ⟨true, by simp, ?_⟩
      rw [if_neg (by simp)]
      have hsz0 : 0 < sz := by omega
      rw [w_sSeq]
      simp only [w_fn, w_ok, w_sIf, w_sRet, w_sPar2, w_sPar4, w_sNil, w_sNever, w_sExpr, w_sSet, w_sPut, w_sAug, w_sAugS, w_sFor, w_e1, w_e2, w_eF, w_eM, w_cons, w_nil, w_var, w_c, w_tup, w_lst, w_d0, w_and, w_or, w_not, w_if, w_ch, w_ch3, w_sl, w_pOf, w_pNo, w_iOf, w_iEnum, w_iRng, w_lc, v_add, v_iadd, v_addS, v_addT, v_addL, v_sub, v_mul, v_mulT, v_div, v_mod, v_pow, v_neg, v_cmp, v_eq, v_eqS, v_eqB, v_ne, v_notIn, v_isN, v_notN, v_inS, v_inI, v_ix, v_ixL, v_sl, v_slL, v_on1, v_on2, v_abs, v_max2, v_min2, v_len, v_lenR, v_lenL, v_list, v_listR, v_listL, v_tuple, v_tupleL, v_onIs, v_isL, v_append, v_popAt, v_putL, v_it, v_itR, v_itL, v_noRoT, v_noRoL, v_tgN, v_tgT, v_tgCons, v_tgNil, v_eYes, v_okg, v_okg1, List.length_cons, List.length_nil, List.map_cons, List.map_nil, List.replicate, List.cons_append, List.nil_append, List.getElem?_cons_zero, List.getElem?_cons_succ, Option.some.injEq, exists_eq_left', exists_eq_left, List.set_cons_zero, List.set_cons_succ, D.bl.injEq, D.int.injEq, D.str.injEq, D.tup.injEq, D.loc.injEq, decide_eq_true_eq, Bool.not_eq_true', decide_eq_false_iff_not, true_and, and_true, Ob.lst.injEq, Nat.reduceAdd, Nat.reduceSub, ix_0, ix_1, ix_2, upTo_0, ix30, ix31, ix32, List.set_set, cut_1, look_new, set_new, wipeD, List.drop_succ_cons, List.drop_zero, inFlat, List.all_cons, List.all_nil, Bool.and_self, Bool.and_true, reduceIte, List.mem_cons, List.not_mem_nil, or_false, false_or, or_true, true_or, reduceCtorEq, Int.reduceEq, Int.reduceLE, Int.reduceLT, Int.cast_ofNat_Int, Int.natCast_zero, Int.natCast_one, Int.natCast_add, not_true_eq_false, not_false_eq_true, decide_true, decide_false, Bool.false_eq_true, if_true, if_false, Bool.not_true, Bool.not_false, Int.reduceNeg, Int.reduceSub, Int.reduceAdd]
      rw [nats_add (show ts.length + ts.length ≤ sizeLine by omega)]
      refine (hp w _ cls2 S12).mono fun v S13 ⟨f2, L2, la2, e, g13⟩ => ?_
      subst e
      obtain ⟨ef2, _⟩ := la.double hp0 la2
      subst ef2
      simp only [w_fn, w_ok, w_sIf, w_sRet, w_sPar2, w_sPar4, w_sNil, w_sNever, w_sExpr, w_sSet, w_sPut, w_sAug, w_sAugS, w_sFor, w_e1, w_e2, w_eF, w_eM, w_cons, w_nil, w_var, w_c, w_tup, w_lst, w_d0, w_and, w_or, w_not, w_if, w_ch, w_ch3, w_sl, w_pOf, w_pNo, w_iOf, w_iEnum, w_iRng, w_lc, v_add, v_iadd, v_addS, v_addT, v_addL, v_sub, v_mul, v_mulT, v_div, v_mod, v_pow, v_neg, v_cmp, v_eq, v_eqS, v_eqB, v_ne, v_notIn, v_isN, v_notN, v_inS, v_inI, v_ix, v_ixL, v_sl, v_slL, v_on1, v_on2, v_abs, v_max2, v_min2, v_len, v_lenR, v_lenL, v_list, v_listR, v_listL, v_tuple, v_tupleL, v_onIs, v_isL, v_append, v_popAt, v_putL, v_it, v_itR, v_itL, v_noRoT, v_noRoL, v_tgN, v_tgT, v_tgCons, v_tgNil, v_eYes, v_okg, v_okg1, List.length_cons, List.length_nil, List.map_cons, List.map_nil, List.replicate, List.cons_append, List.nil_append, List.getElem?_cons_zero, List.getElem?_cons_succ, Option.some.injEq, exists_eq_left', exists_eq_left, List.set_cons_zero, List.set_cons_succ, D.bl.injEq, D.int.injEq, D.str.injEq, D.tup.injEq, D.loc.injEq, decide_eq_true_eq, Bool.not_eq_true', decide_eq_false_iff_not, true_and, and_true, Ob.lst.injEq, Nat.reduceAdd, Nat.reduceSub, ix_0, ix_1, ix_2, upTo_0, ix30, ix31, ix32, List.set_set, cut_1, look_new, set_new, wipeD, List.drop_succ_cons, List.drop_zero, inFlat, List.all_cons, List.all_nil, Bool.and_self, Bool.and_true, reduceIte, List.mem_cons, List.not_mem_nil, or_false, false_or, or_true, true_or, reduceCtorEq, Int.reduceEq, Int.reduceLE, Int.reduceLT, Int.cast_ofNat_Int, Int.natCast_zero, Int.natCast_one, Int.natCast_add, not_true_eq_false, not_false_eq_true, decide_true, decide_false, Bool.false_eq_true, if_true, if_false, Bool.not_true, Bool.not_false, Int.reduceNeg, Int.reduceSub, Int.reduceAdd]
      rw [nats_add (show ts.length + ts.length ≤ sizeLine by omega)]
      refine (hp w _ cls2 S13).mono fun v S14 ⟨f3, L3, la3, e, g14⟩ => ?_
      subst e
      obtain ⟨_, em3⟩ := la.double hp0 la3
      rw [← hsz2] at em3
      simp only [w_fn, w_ok, w_sIf, w_sRet, w_sPar2, w_sPar4, w_sNil, w_sNever, w_sExpr, w_sSet, w_sPut, w_sAug, w_sAugS, w_sFor, w_e1, w_e2, w_eF, w_eM, w_cons, w_nil, w_var, w_c, w_tup, w_lst, w_d0, w_and, w_or, w_not, w_if, w_ch, w_ch3, w_sl, w_pOf, w_pNo, w_iOf, w_iEnum, w_iRng, w_lc, v_add, v_iadd, v_addS, v_addT, v_addL, v_sub, v_mul, v_mulT, v_div, v_mod, v_pow, v_neg, v_cmp, v_eq, v_eqS, v_eqB, v_ne, v_notIn, v_isN, v_notN, v_inS, v_inI, v_ix, v_ixL, v_sl, v_slL, v_on1, v_on2, v_abs, v_max2, v_min2, v_len, v_lenR, v_lenL, v_list, v_listR, v_listL, v_tuple, v_tupleL, v_onIs, v_isL, v_append, v_popAt, v_putL, v_it, v_itR, v_itL, v_noRoT, v_noRoL, v_tgN, v_tgT, v_tgCons, v_tgNil, v_eYes, v_okg, v_okg1, List.length_cons, List.length_nil, List.map_cons, List.map_nil, List.replicate, List.cons_append, List.nil_append, List.getElem?_cons_zero, List.getElem?_cons_succ, Option.some.injEq, exists_eq_left', exists_eq_left, List.set_cons_zero, List.set_cons_succ, D.bl.injEq, D.int.injEq, D.str.injEq, D.tup.injEq, D.loc.injEq, decide_eq_true_eq, Bool.not_eq_true', decide_eq_false_iff_not, true_and, and_true, Ob.lst.injEq, Nat.reduceAdd, Nat.reduceSub, ix_0, ix_1, ix_2, upTo_0, ix30, ix31, ix32, List.set_set, cut_1, look_new, set_new, wipeD, List.drop_succ_cons, List.drop_zero, inFlat, List.all_cons, List.all_nil, Bool.and_self, Bool.and_true, reduceIte, List.mem_cons, List.not_mem_nil, or_false, false_or, or_true, true_or, reduceCtorEq, Int.reduceEq, Int.reduceLE, Int.reduceLT, Int.cast_ofNat_Int, Int.natCast_zero, Int.natCast_one, Int.natCast_add, not_true_eq_false, not_false_eq_true, decide_true, decide_false, Bool.false_eq_true, if_true, if_false, Bool.not_true, Bool.not_false, Int.reduceNeg, Int.reduceSub, Int.reduceAdd]
      have em4 : ((L3 - f3 : Nat) : Int) % (sz : Int) = 0 := by exact_mod_cast em3
      refine ⟨by omega, ?_⟩
      rw [em4, if_neg (by simp)]
      rw [w_sSeq]
      simp only [w_fn, w_ok, w_sIf, w_sRet, w_sPar2, w_sPar4, w_sNil, w_sNever, w_sExpr, w_sSet, w_sPut, w_sAug, w_sAugS, w_sFor, w_e1, w_e2, w_eF, w_eM, w_cons, w_nil, w_var, w_c, w_tup, w_lst, w_d0, w_and, w_or, w_not, w_if, w_ch, w_ch3, w_sl, w_pOf, w_pNo, w_iOf, w_iEnum, w_iRng, w_lc, v_add, v_iadd, v_addS, v_addT, v_addL, v_sub, v_mul, v_mulT, v_div, v_mod, v_pow, v_neg, v_cmp, v_eq, v_eqS, v_eqB, v_ne, v_notIn, v_isN, v_notN, v_inS, v_inI, v_ix, v_ixL, v_sl, v_slL, v_on1, v_on2, v_abs, v_max2, v_min2, v_len, v_lenR, v_lenL, v_list, v_listR, v_listL, v_tuple, v_tupleL, v_onIs, v_isL, v_append, v_popAt, v_putL, v_it, v_itR, v_itL, v_noRoT, v_noRoL, v_tgN, v_tgT, v_tgCons, v_tgNil, v_eYes, v_okg, v_okg1, List.length_cons, List.length_nil, List.map_cons, List.map_nil, List.replicate, List.cons_append, List.nil_append, List.getElem?_cons_zero, List.getElem?_cons_succ, Option.some.injEq, exists_eq_left', exists_eq_left, List.set_cons_zero, List.set_cons_succ, D.bl.injEq, D.int.injEq, D.str.injEq, D.tup.injEq, D.loc.injEq, decide_eq_true_eq, Bool.not_eq_true', decide_eq_false_iff_not, true_and, and_true, Ob.lst.injEq, Nat.reduceAdd, Nat.reduceSub, ix_0, ix_1, ix_2, upTo_0, ix30, ix31, ix32, List.set_set, cut_1, look_new, set_new, wipeD, List.drop_succ_cons, List.drop_zero, inFlat, List.all_cons, List.all_nil, Bool.and_self, Bool.and_true, reduceIte, List.mem_cons, List.not_mem_nil, or_false, false_or, or_true, true_or, reduceCtorEq, Int.reduceEq, Int.reduceLE, Int.reduceLT, Int.cast_ofNat_Int, Int.natCast_zero, Int.natCast_one, Int.natCast_add, not_true_eq_false, not_false_eq_true, decide_true, decide_false, Bool.false_eq_true, if_true, if_false, Bool.not_true, Bool.not_false, Int.reduceNeg, Int.reduceSub, Int.reduceAdd]
      refine (hr w _ cls S14).mono fun v S15 ⟨r1, g15⟩ => ?_
      rw [nats_add (show ts.length + ts.length ≤ sizeLine by omega)]
      refine (hr w _ cls2 S15).mono fun u S16 ⟨r2, g16⟩ => ?_
      have euv := r1.uniq (r2.one hp0)
      subst euv
      rw [v_eqP r1.pl r1.pl]
      refine ⟨true, by simp, ?_⟩
      rw [if_neg (by simp)]
      rw [nats_len]
      refine (ha w ts cls ts.length S16 (by omega)).mono fun v S17 ⟨e, g17⟩ => ?_
      subst e
      refine (hm w ts cls S17).mono fun v S18 ⟨e, g18⟩ => ?_
      subst e
      rw [v_eqN, Wn_met]
      refine ⟨true, by simp, ?_⟩
      rw [if_neg (by simp)]
      rw [w_sSeq]
      simp only [w_fn, w_ok, w_sIf, w_sRet, w_sPar2, w_sPar4, w_sNil, w_sNever, w_sExpr, w_sSet, w_sPut, w_sAug, w_sAugS, w_sFor, w_e1, w_e2, w_eF, w_eM, w_cons, w_nil, w_var, w_c, w_tup, w_lst, w_d0, w_and, w_or, w_not, w_if, w_ch, w_ch3, w_sl, w_pOf, w_pNo, w_iOf, w_iEnum, w_iRng, w_lc, v_add, v_iadd, v_addS, v_addT, v_addL, v_sub, v_mul, v_mulT, v_div, v_mod, v_pow, v_neg, v_cmp, v_eq, v_eqS, v_eqB, v_ne, v_notIn, v_isN, v_notN, v_inS, v_inI, v_ix, v_ixL, v_sl, v_slL, v_on1, v_on2, v_abs, v_max2, v_min2, v_len, v_lenR, v_lenL, v_list, v_listR, v_listL, v_tuple, v_tupleL, v_onIs, v_isL, v_append, v_popAt, v_putL, v_it, v_itR, v_itL, v_noRoT, v_noRoL, v_tgN, v_tgT, v_tgCons, v_tgNil, v_eYes, v_okg, v_okg1, List.length_cons, List.length_nil, List.map_cons, List.map_nil, List.replicate, List.cons_append, List.nil_append, List.getElem?_cons_zero, List.getElem?_cons_succ, Option.some.injEq, exists_eq_left', exists_eq_left, List.set_cons_zero, List.set_cons_succ, D.bl.injEq, D.int.injEq, D.str.injEq, D.tup.injEq, D.loc.injEq, decide_eq_true_eq, Bool.not_eq_true', decide_eq_false_iff_not, true_and, and_true, Ob.lst.injEq, Nat.reduceAdd, Nat.reduceSub, ix_0, ix_1, ix_2, upTo_0, ix30, ix31, ix32, List.set_set, cut_1, look_new, set_new, wipeD, List.drop_succ_cons, List.drop_zero, inFlat, List.all_cons, List.all_nil, Bool.and_self, Bool.and_true, reduceIte, List.mem_cons, List.not_mem_nil, or_false, false_or, or_true, true_or, reduceCtorEq, Int.reduceEq, Int.reduceLE, Int.reduceLT, Int.cast_ofNat_Int, Int.natCast_zero, Int.natCast_one, Int.natCast_add, not_true_eq_false, not_false_eq_true, decide_true, decide_false, Bool.false_eq_true, if_true, if_false, Bool.not_true, Bool.not_false, Int.reduceNeg, Int.reduceSub, Int.reduceAdd]
      refine (hr w _ cls S18).mono fun v S19 ⟨r3, g19⟩ => ?_
      have x19 : HS h c S19 := ((((((((((x9.gr g10).gr g11).gr g12).gr g13).gr g14).gr g15).gr g16).gr g17).gr g18).gr g19)
      rcases r3 with ⟨rfl, _⟩ | ⟨k, rfl, ck, mk⟩
      · rw [if_neg (by simp)]
        exact ⟨x19, _, _, _, _, _, _, _, _, _, _, rfl⟩
      · rw [if_pos (by simp)]
        rw [w_sSeq]
        simp only [w_fn, w_ok, w_sIf, w_sRet, w_sPar2, w_sPar4, w_sNil, w_sNever, w_sExpr, w_sSet, w_sPut, w_sAug, w_sAugS, w_sFor, w_e1, w_e2, w_eF, w_eM, w_cons, w_nil, w_var, w_c, w_tup, w_lst, w_d0, w_and, w_or, w_not, w_if, w_ch, w_ch3, w_sl, w_pOf, w_pNo, w_iOf, w_iEnum, w_iRng, w_lc, v_add, v_iadd, v_addS, v_addT, v_addL, v_sub, v_mul, v_mulT, v_div, v_mod, v_pow, v_neg, v_cmp, v_eq, v_eqS, v_eqB, v_ne, v_notIn, v_isN, v_notN, v_inS, v_inI, v_ix, v_ixL, v_sl, v_slL, v_on1, v_on2, v_abs, v_max2, v_min2, v_len, v_lenR, v_lenL, v_list, v_listR, v_listL, v_tuple, v_tupleL, v_onIs, v_isL, v_append, v_popAt, v_putL, v_it, v_itR, v_itL, v_noRoT, v_noRoL, v_tgN, v_tgT, v_tgCons, v_tgNil, v_eYes, v_okg, v_okg1, List.length_cons, List.length_nil, List.map_cons, List.map_nil, List.replicate, List.cons_append, List.nil_append, List.getElem?_cons_zero, List.getElem?_cons_succ, Option.some.injEq, exists_eq_left', exists_eq_left, List.set_cons_zero, List.set_cons_succ, D.bl.injEq, D.int.injEq, D.str.injEq, D.tup.injEq, D.loc.injEq, decide_eq_true_eq, Bool.not_eq_true', decide_eq_false_iff_not, true_and, and_true, Ob.lst.injEq, Nat.reduceAdd, Nat.reduceSub, ix_0, ix_1, ix_2, upTo_0, ix30, ix31, ix32, List.set_set, cut_1, look_new, set_new, wipeD, List.drop_succ_cons, List.drop_zero, inFlat, List.all_cons, List.all_nil, Bool.and_self, Bool.and_true, reduceIte, List.mem_cons, List.not_mem_nil, or_false, false_or, or_true, true_or, reduceCtorEq, Int.reduceEq, Int.reduceLE, Int.reduceLT, Int.cast_ofNat_Int, Int.natCast_zero, Int.natCast_one, Int.natCast_add, not_true_eq_false, not_false_eq_true, decide_true, decide_false, Bool.false_eq_true, if_true, if_false, Bool.not_true, Bool.not_false, Int.reduceNeg, Int.reduceSub, Int.reduceAdd]
        refine ⟨by decide, ?_⟩
        rw [p6]
        refine (hn h c 1000000 S19 (by omega) (by omega) x19).mono fun v S20 ⟨r, e, hr20, x20, u20⟩ => ?_
        subst e
        have hkf : k ≤ f2 := by
          refine Nat.le_of_not_lt fun z => mk f2 z ?_
          exact Classical.byContradiction fun hc => la.none hc k ck
        obtain ⟨m3, hm3⟩ : ∃ m3 : Nat, m3 = k + r.toNat := ⟨_, rfl⟩
        rw [v_add, show (k : Int) + r = (m3 : Int) by omega]
        refine (ha w ts cls m3 S20 (by omega)).mono fun v S21 ⟨e, g21⟩ => ?_
        subst e
        rw [v_eqN, ck m3 (by omega)]
        refine ⟨true, by simp, ?_⟩
        rw [if_neg (by simp)]
        by_cases hk0 : 0 < k
        · rw [if_pos (by omega), show (k : Int) - 1 = ((k - 1 : Nat) : Int) by omega]
          refine (ha w ts cls (k - 1) S21 (by omega)).mono fun v S22 ⟨e, g22⟩ => ?_
          subst e
          rw [v_eqN]
          have hne2 : ¬ Wn w ts (k - 1) = Wn w ts k := fun z => mk (k - 1) (by omega) fun i hi => by
            by_cases h : i = k - 1
            · rw [h]
            · rw [z]; exact ck i (by omega)
          refine ⟨false, by simp [hne2], ?_⟩
          rw [if_neg (by simp)]
          exact ⟨(x20.gr g21).gr g22, _, _, _, _, _, _, _, _, _, _, rfl⟩
        · rw [if_neg (by omega)]
          exact ⟨x20.gr g21, _, _, _, _, _, _, _, _, _, _, rfl⟩
  · rintro σ S2 ⟨x2, y2, y3, y4, y5, y6, y7, y8, y9, y10, y11, rfl⟩
    simp only [w_fn, w_ok, w_sSeq, w_sIf, w_sRet, w_sPar2, w_sPar4, w_sNil, w_sNever, w_sExpr, w_sSet, w_sPut, w_sAug, w_sAugS, w_sFor, w_e1, w_e2, w_eF, w_eM, w_cons, w_nil, w_var, w_c, w_tup, w_lst, w_d0, w_and, w_or, w_not, w_if, w_ch, w_ch3, w_sl, w_pOf, w_pNo, w_iOf, w_iEnum, w_iRng, w_lc, v_add, v_iadd, v_addS, v_addT, v_addL, v_sub, v_mul, v_mulT, v_div, v_mod, v_pow, v_neg, v_cmp, v_eq, v_eqS, v_eqB, v_ne, v_notIn, v_isN, v_notN, v_inS, v_inI, v_ix, v_ixL, v_sl, v_slL, v_on1, v_on2, v_abs, v_max2, v_min2, v_len, v_lenR, v_lenL, v_list, v_listR, v_listL, v_tuple, v_tupleL, v_onIs, v_isL, v_append, v_popAt, v_putL, v_it, v_itR, v_itL, v_noRoT, v_noRoL, v_tgN, v_tgT, v_tgCons, v_tgNil, v_eYes, v_okg, v_okg1, List.length_cons, List.length_nil, List.map_cons, List.map_nil, List.replicate, List.cons_append, List.nil_append, List.getElem?_cons_zero, List.getElem?_cons_succ, Option.some.injEq, exists_eq_left', exists_eq_left, List.set_cons_zero, List.set_cons_succ, D.bl.injEq, D.int.injEq, D.str.injEq, D.tup.injEq, D.loc.injEq, decide_eq_true_eq, Bool.not_eq_true', decide_eq_false_iff_not, true_and, and_true, Ob.lst.injEq, Nat.reduceAdd, Nat.reduceSub, ix_0, ix_1, ix_2, upTo_0, ix30, ix31, ix32, List.set_set, cut_1, look_new, set_new, wipeD, List.drop_succ_cons, List.drop_zero, inFlat, List.all_cons, List.all_nil, Bool.and_self, Bool.and_true, reduceIte, List.mem_cons, List.not_mem_nil, or_false, false_or, or_true, true_or, reduceCtorEq, Int.reduceEq, Int.reduceLE, Int.reduceLT, Int.cast_ofNat_Int, Int.natCast_zero, Int.natCast_one, Int.natCast_add, not_true_eq_false, not_false_eq_true, decide_true, decide_false, Bool.false_eq_true, if_true, if_false, Bool.not_true, Bool.not_false, Int.reduceNeg, Int.reduceSub, Int.reduceAdd]
end Mn
namespace Mn.Lk21
open PySem
theorem pure_law : pure_law_stmt := by
  intro ns hns
  have rule : ∀ (k : Nat) (r : Ru), r.ok → ∀ S, Ok (callAt Γ (k + 1) 0 [r.enc] S) fun v S' => v = .bl true ∧ S' = S := fun k r h S => is_rule_ok h
  have needw : ∀ (k : Nat) (w : Wo), w.ok → NeedW (callAt Γ (k + 2) 1) w := fun k w h S => need_world_ok h (fun S => rule k w.ru h.ru S)
  have gift : ∀ (k : Nat) (r : Ru), r.ok → ∀ hv lt S, Ok (callAt Γ (k + 1) 2 [r.enc, .int hv, .int lt] S) fun v S' => v = .int (gift r hv lt) ∧ S' = S := fun k r h hv lt S => gift_of_ok h
  have tol : ∀ (k : Nat) (r : Ru), r.ok → ∀ (ws : List Int) (p : Pr) (S : Store), p.1 < ws.length → p.2 < ws.length → Ok (callAt Γ (k + 2) 3 [r.enc, nums ws, pr p] S) fun v S' => v = told' (told r ws p) ∧ S' = S := fun k r h ws p S h1 h2 => gift_told_ok h (gift k r h) h1 h2
  have beh : ∀ (k : Nat) (w : Wo), w.ok → BehindOk (callAt Γ (k + 3) 4) w.ru w.ws.length := fun k w h ws p S hl h1 h2 => behind_ok (fun S => tol k w.ru h.ru ws p S (by omega) (by omega)) (by omega) (by omega)
  have bnd : ∀ {w : Wo} {ts : List Nat}, Cls w ts → ∀ {L : Nat}, (∀ i j, i < j → j < L → Xn w ts i ≠ Xn w ts j) → L ≤ 11436768 := fun h _ hd => cls_bnd h hd
  have needm : ∀ (k : Nat) (w : Wo) (ts : List Nat), Cls w ts → NeedM (callAt Γ (k + 1) 5) w ts := fun k w ts h S => need_meetings_ok h.tn.lt (by have := h.tl; omega)
  have needt : ∀ (k : Nat) (w : Wo) (ts : List Nat), Cls w ts → NeedT (callAt Γ (k + 2) 8) w ts := fun k w ts h => need_turns_ok h.tn (needm k w ts h)
  have walk : ∀ (k : Nat) (w : Wo) (ts : List Nat), Cls w ts → WalkOk (callAt Γ (k + 4) 9) w ts := fun k w ts h S => walk_ok h.ok h.tn (beh k w h.ok) (B := 11436768) (fun L hd => bnd h hd) (by decide)
  have per : ∀ w ts, Cls w ts → PeriodOk (callAt Γ 11 10) w ts := fun w ts h S => period_ok (walk 6 w ts h) (needt 8 w ts h) (needw 8 w h.ok)
  have aft : ∀ w ts, Cls w ts → AfterOk (callAt Γ 11 11) w ts := fun w ts h m S hm => after_ok (walk 6 w ts h) (needt 8 w ts h) (needw 8 w h.ok) hm
  have res : ∀ w ts, Cls w ts → RestsOk (callAt Γ 11 12) w ts := fun w ts h S => rests_ok (walk 6 w ts h) (needt 8 w ts h) (needw 8 w h.ok) fun k L l => by
    have := bnd h l.dis
    unfold NW; omega
  have met : ∀ w ts, Cls w ts → MetOk (callAt Γ 11 6) w ts := fun w ts h S => met_ok h.ok h.tn.lt (beh 7 w h.ok) (needm 9 w ts h) (needw 8 w h.ok)
  have gif : ∀ w ts, Cls w ts → GiftsOk (callAt Γ 11 7) w ts := fun w ts h S => gifts_ok h.ok h.tn.lt (by have := h.tl; omega) (beh 7 w h.ok) (fun ws p S hl h1 h2 => tol 8 w.ru h.ok.ru ws p S (by omega) (by omega)) (needm 9 w ts h) (needw 8 w h.ok)
  have next : ∀ k : Nat, NextOk (callAt Γ (k + 1) 14) := fun k => law_next_ok
  refine ok_bl (law_k21_ok (next 10) ?_ ?_ ?_ aft per res met gif hns)
  · exact law_world_ok (next 9) (by decide) (by decide) (by decide) (by decide)
  · exact fun w h c S hw hp x => law_turns_ok (next 9) hw hp (by decide) (by decide) x
  · exact fun ns S h => law_mix_ok h
end Mn.Lk21
set_option maxHeartbeats 4000000
/-! The end: what the top has written, and the law's own promise. -/
namespace Mn
open PySem PySem.Spec PyProof.Rows L2
open Sem (wp)
/-- a def of the module, as the top has left it -/
structure HasDef (K : PySem.W.Frag) (mg : Str → Option Value) (x : Str) (st : Stmt) (ps : List Str) : Prop where
  ex : ∃ f fd, mg x = some (.ref f) ∧ Fun K x x st f fd ∧ Binds K fd ps []
section
variable {P : Program} {w : World} {K : PySem.W.Frag} {mg : Str → Option Value} {base : Heap}
theorem HasDef.zero {x : Str} {st : Stmt} {ps : List Str} {n : Nat} {g : Fn} (h : HasDef K mg x st ps) (hl : ps.length = n) (hg : ∀ ds S, g ds S = .bad) : CallOk P w K mg base 0 x n g :=
  let ⟨f, fd, m, F, hb⟩ := h.ex; callOk_zero m F.kp hb hl hg
theorem HasDef.succ {k n : Nat} {x : Str} {st : Stmt} {N ps : List Str} {body : SM} (h : HasDef K mg x st ps) (S : FnScope N ps (defScope st)) (hl : ps.length = n)
    (hb : ∀ f, bodyOk P w K mg base k x st f N body) : CallOk P w K mg base (4 * (k + 1)) x n (mkFn n N.length body) :=
  let ⟨f, fd, m, F, b⟩ := h.ex; callOk_succ m F b S hl (hb f)
theorem hasDef_of {h : Heap} {x : Str} {st : Stmt} {f : Addr} {ps : List Str} {od an : Option Addr} {sl : Array (Option Value)} {oc kV dc pm cd ct : Value} (X : K.In h) (G : h.Ns mainGlobals mg)
    (a : PySem.W.nsIn K mainGlobals x = some (some (.ref f))) (l : K.lookup f = some ⟨oc, od, .func (PySem.W.fnOf x x (defArgs st) (defBody st) (defScope st) .none kV dc pm an cd ct), sl⟩) (c : PySem.W.codeIn K cd x = true) (k : PySem.W.keepIn K (.ref f) = true)
    (hb : ∀ (kV doc pm : Value) (an : Option Addr) (cdv ct : Value) (us : List Value), us.length = ps.length → bindArgs (PySem.W.fnOf x x (defArgs st) (defBody st) (defScope st) .none kV doc pm an cdv ct) ⟨us, []⟩ = pure (ps.zip us)) : HasDef K mg x st ps :=
  ⟨f, _, PySem.W.mg_of X G a, fun_mk l c k, (fun_mk l c k).binds hb⟩
theorem int_of {h : Heap} {x : Str} {i : Int} {t : Tok} (X : K.In h) (G : h.Ns mainGlobals mg) (a : PySem.W.nsIn K mainGlobals x = some (some (.int i t))) : ∃ v u, mg x = some u ∧ RelV v u ∧ ∀ ρ H, RpV K ρ H (.int i) v :=
  ⟨.int i, _, PySem.W.mg_of X G a, ⟨_, rfl⟩, fun _ _ => rfl⟩
theorem str_of {h : Heap} {x y : Str} {t : Tok} (X : K.In h) (G : h.Ns mainGlobals mg) (a : PySem.W.nsIn K mainGlobals x = some (some (.str y t))) : ∃ v u, mg x = some u ∧ RelV v u ∧ ∀ ρ H, RpV K ρ H (.str y) v :=
  ⟨.str y, _, PySem.W.mg_of X G a, ⟨_, rfl⟩, fun _ _ => rfl⟩
end
/-- the law's promise, no names in sight -/
def spLaw (K : PySem.W.Frag) (g : Fn) (m : Nat) : Sp := fun vs H Q _ => ∃ (a : Addr) (ns : List Int), vs = [.ref a] ∧ SqL K H a (ns.map V.int) ∧ Only H ∧ ns.length ≤ m ∧ (∃ S, g [.ro (ns.map .int)] [] = .ok (.bl true) S) ∧ ∀ H', Q (.bl true) H'
theorem law_start {K : PySem.W.Frag} {H : Hp} {a : Addr} {ns : List Int} (hO : Only H) (h : SqL K H a (ns.map V.int)) (hz : ns.length ≤ sizeLine) : RpVs K [] H [.ro (ns.map .int)] [.ref a] := by
  refine ⟨_, [], rfl, ⟨a, ns.map V.int, rfl, ?_, by simpa using hz, RpVs.ints ns⟩, rfl⟩
  rcases h with (h | ⟨o, h⟩) | h
  · rcases hO a with q | ⟨o, xs, q⟩
    · rw [q] at h; cases h
    · rw [q] at h; cases h
  · exact .inl ⟨o, h⟩
  · exact .inr h
theorem law_fn {P : Program} {w : World} {K : PySem.W.Frag} {mg : Str → Option Value} {base : Heap} {k m : Nat} {x : Str} {st : Stmt} {f : Addr} {fd : FuncData} {N ps : List Str} {body : SM} (hm : m ≤ sizeLine) (F : Fun K x x st f fd) (S : FnScope N ps (defScope st)) (hl : ps.length = 1)
    (h : bodyOk P w K mg base k x st f N body) : FnOk P w K mg base (L2.CX P w) (4 * (k + 1)) f fd ps (spLaw K (mkFn 1 N.length body) m) := by
  refine (fnOk_succ F S hl h).imp fun vs H Q E ⟨a, ns, e, hS, hO, hn, ⟨S, eg⟩, q⟩ => ?_
  subst e
  refine ⟨rfl, [], [], [.ro (ns.map .int)], ⟨rfl, List.nodup_nil, fun l a o e => by cases e⟩, law_start hO hS (Nat.le_trans hn hm), ?_⟩
  rw [eg]
  intro ρ' H' b x r hb
  rw [show b = V.bl true from hb]
  exact q H'
theorem no_exc {P : Program} {w : World} {H : Hp} {s s' : Shared} {e : Value} (z : L2.CX P w [] H s (fun _ _ _ => False) e s') : False := by
  obtain ⟨_, _, _, _, _, _, _, _, _, _, _, _, z⟩ := z
  exact z
/-- the end of the walk -/
theorem walk {l : PySem.W.OpenLaw} {q : Program} {loose : List Str} {XP : (Str → Option Value) → Heap → Prop} {YP : World → Heap → Prop} {d : DefRec} {K : Params → PySem.W.Frag} {x : Str} {k m : Nat} {g : Fn} (hn : l.most = some m) (hn2 : m ≤ sizeLine) (hdf : d.params.defaults = []) (hr : Room k callerA)
    (hY : ∀ (w : World) (h : Heap), YP w h → (K w.params).In h) (pure_law : ∀ ns : List Int, ns.length ≤ m → ∃ S, g [.ro (ns.map .int)] [] = .ok (.bl true) S)
    (F : ∀ (w : World) (mg : Str → Option Value) (fa : Addr) (h : Heap), (K w.params).In h → h.Ns mainGlobals mg → mg d.name = some (.ref fa) →
      ∃ fd : FuncData, (∀ (s : Shared) (u : Value), BindsTo s fd ⟨[u], []⟩ [(x, u)]) ∧ ∀ base : Heap, (K w.params).In base → base.Ns mainGlobals mg → FnOk l.prog w (K w.params) mg base (L2.CX l.prog w) k fa fd [x] (spLaw (K w.params) g m)) :
    PySem.W.WalkO q loose XP YP l.row.toRowW d [] (fun f vs => PySem.call f vs) :=
  L2.walk_of (n := m) (k := k) (x := x) (CX := fun w => L2.CX l.prog w) (sp := fun w => spLaw (K w.params) g m) hn hn2 hdf hr hY F (fun _ _ a ns hl hO hS => ⟨a, ns, rfl, hS, hO, hl, pure_law ns hl, fun _ => rfl⟩) fun _ _ _ _ _ z => no_exc z
end Mn
namespace Mn.Lk21
open PySem PySem.Spec PyProof.Rows L2
abbrev top (i : Nat) : Stmt := PySem.Challenge.pw_heavierhall_k21_whole_meetings_put_toget.main.body.getD i (.Pass ⟨0, 0, 0, 0⟩)
abbrev s_0 : Stmt := top 16
abbrev n_0 : List Str := ["rule", "word", "rest"]
abbrev s_1 : Stmt := top 17
abbrev n_1 : List Str := ["world", "weights", "pairs", "rule", "number", "weight", "met", "one", "other"]
abbrev s_2 : Stmt := top 18
abbrev n_2 : List Str := ["rule", "heavy", "light"]
abbrev s_3 : Stmt := top 19
abbrev n_3 : List Str := ["rule", "weights", "pair", "one", "other", "giver", "taker", "many"]
abbrev s_4 : Stmt := top 20
abbrev n_4 : List Str := ["rule", "weights", "pair", "row", "giver", "taker", "many", "found"]
abbrev s_5 : Stmt := top 21
abbrev n_5 : List Str := ["world", "meetings", "most", "number", "place"]
abbrev s_6 : Stmt := top 22
abbrev n_6 : List Str := ["world", "meetings", "weights", "place"]
abbrev s_7 : Stmt := top 23
abbrev n_7 : List Str := ["world", "meetings", "weights", "found", "place"]
abbrev s_8 : Stmt := top 26
abbrev n_8 : List Str := ["world", "turns"]
abbrev s_9 : Stmt := top 27
abbrev n_9 : List Str := ["world", "turns", "weights", "rows", "met_at", "place"]
abbrev s_10 : Stmt := top 28
abbrev n_10 : List Str := ["world", "turns", "rows", "first"]
abbrev s_11 : Stmt := top 29
abbrev n_11 : List Str := ["world", "turns", "many", "rows", "first"]
abbrev s_12 : Stmt := top 30
abbrev n_12 : List Str := ["world", "turns", "rows", "first", "many", "weights"]
abbrev s_13 : Stmt := top 32
abbrev n_13 : List Str := ["_law_script", "_law_seed", "_law_mixed", "_law_cell"]
abbrev s_14 : Stmt := top 33
abbrev n_14 : List Str := ["_law_h", "_law_many", "_law_cell"]
abbrev s_15 : Stmt := top 34
abbrev n_15 : List Str := ["_law_h", "_law_most", "_law_weight", "_law_weights", "_law_left", "_law_pairs", "_law_other", "_law_k", "_law_top", "_law_rules", "_law_one"]
abbrev s_16 : Stmt := top 37
abbrev n_16 : List Str := ["_law_h", "_law_world_here", "_law_most", "_law_k"]
abbrev s_17 : Stmt := top 38
abbrev n_17 : List Str := ["_law_script", "_law_h", "_law_turn", "_law_world_here", "_law_one", "_law_other", "_law_spot", "_law_there", "_law_first", "_law_size", "_law_many", "_law_told"]
/-- the names of the module, and the defs as far as they are known to run -/
structure Md (P : Program) (w : World) (K : PySem.W.Frag) (mg : Str → Option Value) (base : Heap) (C : Orc) (k : Nat) : Prop where
  b_len : mg "len" = none
  b_enumerate : mg "enumerate" = none
  b_min : mg "min" = none
  b_tuple : mg "tuple" = none
  b_list : mg "list" = none
  b_any : mg "any" = none
  b_max : mg "max" = none
  b_range : mg "range" = none
  c_MOST_PART : ∃ v u, mg "MOST_PART" = some u ∧ RelV v u ∧ ∀ ρ H, RpV K ρ H (.int 9) v
  c_PART : ∃ v u, mg "PART" = some u ∧ RelV v u ∧ ∀ ρ H, RpV K ρ H (.str "part") v
  c_SOME : ∃ v u, mg "SOME" = some u ∧ RelV v u ∧ ∀ ρ H, RpV K ρ H (.str "some") v
  c_EVEN : ∃ v u, mg "EVEN" = some u ∧ RelV v u ∧ ∀ ρ H, RpV K ρ H (.str "even") v
  c_HALF : ∃ v u, mg "HALF" = some u ∧ RelV v u ∧ ∀ ρ H, RpV K ρ H (.str "half") v
  c_MOST_PAIRS : ∃ v u, mg "MOST_PAIRS" = some u ∧ RelV v u ∧ ∀ ρ H, RpV K ρ H (.int 15) v
  c_LEAST : ∃ v u, mg "LEAST" = some u ∧ RelV v u ∧ ∀ ρ H, RpV K ρ H (.int 2) v
  c_MOST_WEIGHT : ∃ v u, mg "MOST_WEIGHT" = some u ∧ RelV v u ∧ ∀ ρ H, RpV K ρ H (.int 30) v
  c_MOST : ∃ v u, mg "MOST" = some u ∧ RelV v u ∧ ∀ ρ H, RpV K ρ H (.int 6) v
  c_MOST_MEETINGS : ∃ v u, mg "MOST_MEETINGS" = some u ∧ RelV v u ∧ ∀ ρ H, RpV K ρ H (.int 200) v
  c_MOST_FAR : ∃ v u, mg "MOST_FAR" = some u ∧ RelV v u ∧ ∀ ρ H, RpV K ρ H (.int 1000000000000) v
  f_0 : CallOk P w K mg base (4 * k) "is_rule" 1 (C 0)
  f_1 : CallOk P w K mg base (4 * k) "need_world" 1 (C 1)
  f_2 : CallOk P w K mg base (4 * k) "gift_of" 3 (C 2)
  f_3 : CallOk P w K mg base (4 * k) "gift_told" 3 (C 3)
  f_4 : CallOk P w K mg base (4 * k) "behind" 3 (C 4)
  f_5 : CallOk P w K mg base (4 * k) "need_meetings" 3 (C 5)
  f_6 : CallOk P w K mg base (4 * k) "met" 2 (C 6)
  f_7 : CallOk P w K mg base (4 * k) "gifts" 2 (C 7)
  f_8 : CallOk P w K mg base (4 * k) "need_turns" 2 (C 8)
  f_9 : CallOk P w K mg base (4 * k) "walk" 2 (C 9)
  f_10 : CallOk P w K mg base (4 * k) "period" 2 (C 10)
  f_11 : CallOk P w K mg base (4 * k) "after" 3 (C 11)
  f_12 : CallOk P w K mg base (4 * k) "rests" 2 (C 12)
  f_13 : CallOk P w K mg base (4 * k) "_law_mix" 2 (C 13)
  f_14 : CallOk P w K mg base (4 * k) "_law_next" 2 (C 14)
  f_15 : CallOk P w K mg base (4 * k) "_law_world" 3 (C 15)
  f_16 : CallOk P w K mg base (4 * k) "_law_turns" 3 (C 16)
  f_17 : CallOk P w K mg base (4 * k) "law" 1 (C 17)
section
variable {P : Program} {w : World} {K : PySem.W.Frag} {mg : Str → Option Value} {base : Heap} {C : Orc} {k : Nat}
theorem nd_0 : (n_0 : List Str).Nodup := by decide +kernel
theorem sc_0 : FnScope n_0 ["rule"] (defScope s_0) := ⟨rfl, rfl, rfl, by decide +kernel, rfl, by decide +kernel, by decide +kernel⟩
set_option maxHeartbeats 0 in
theorem d_0 (M : Md P w K mg base C k) (f : Addr) : bodyOk P w K mg base k "is_rule" s_0 f n_0 (p_is_rule) := by
  intro cdv A outer s H E hr
  have nd := nd_0
  refine ms_cons ?_ ?_
  · refine ms_if ?_ ?_ ?_
    · refine mt_cmp (or_eq (units_of (room0 hr))) ?_ ?_
      · refine me_B (n := 1) cr_len rfl M.b_len rfl ?_
        · refine ma_cons ?_ ?_
          · exact me_var (i := 0) rfl (.inl rfl)
          · exact ma_nil
      · exact me_int
    · refine ms_one ?_
      · refine ms_ret ?_
        · exact me_bl
    · exact ms_nil
  · refine ms_cons ?_ ?_
    · refine ms_par (n := 2) (i := 1) (j := 2) rfl nd rfl rfl ?_
      · refine ma_cons ?_ ?_
        · refine me_ix (ir_all (units_of (room0 hr))) ?_ ?_
          · exact me_var (i := 0) rfl (.inl rfl)
          · exact me_int
        · refine ma_cons ?_ ?_
          · refine me_sl ?_ ?_ ?_
            · exact me_var (i := 0) rfl (.inl rfl)
            · refine mp_of ?_
              · exact me_int
            · exact mp_no
          · exact ma_nil
    · refine ms_cons ?_ ?_
      · refine ms_if ?_ ?_ ?_
        · refine mt_cmp (or_in (units1 (room0 hr))) ?_ ?_
          · exact me_var (i := 1) rfl (.inl rfl)
          · refine me_tup (n := 2) ?_
            · refine ma_cons ?_ ?_
              · exact me_gl rfl M.c_HALF
              · refine ma_cons ?_ ?_
                · exact me_gl rfl M.c_EVEN
                · exact ma_nil
        · refine ms_one ?_
          · refine ms_ret ?_
            · refine me_cmp (or_eq (units_of (room0 hr))) ?_ ?_
              · refine me_B (n := 1) cr_len rfl M.b_len rfl ?_
                · refine ma_cons ?_ ?_
                  · exact me_var (i := 2) rfl (.inl rfl)
                  · exact ma_nil
              · exact me_int
        · exact ms_nil
      · refine ms_cons ?_ ?_
        · refine ms_if ?_ ?_ ?_
          · refine mt_cmp (or_eq (units_of (room0 hr))) ?_ ?_
            · exact me_var (i := 1) rfl (.inl rfl)
            · exact me_gl rfl M.c_SOME
          · refine ms_one ?_
            · refine ms_ret ?_
              · refine me_and ?_ ?_
                · refine me_cmp (or_eq (units_of (room0 hr))) ?_ ?_
                  · refine me_B (n := 1) cr_len rfl M.b_len rfl ?_
                    · refine ma_cons ?_ ?_
                      · exact me_var (i := 2) rfl (.inl rfl)
                      · exact ma_nil
                  · exact me_int
                · refine me_one ?_
                  · refine me_ch or_le or_le ?_ ?_ ?_
                    · exact me_int
                    · refine me_ix (ir_all (units_of (room0 hr))) ?_ ?_
                      · exact me_var (i := 2) rfl (.inl rfl)
                      · exact me_int
                    · exact me_gl rfl M.c_MOST_PART
          · exact ms_nil
        · refine ms_one ?_
          · refine ms_ret ?_
            · refine me_and ?_ ?_
              · refine me_cmp (or_eq (units_of (room0 hr))) ?_ ?_
                · exact me_var (i := 1) rfl (.inl rfl)
                · exact me_gl rfl M.c_PART
              · refine me_and ?_ ?_
                · refine me_cmp (or_eq (units_of (room0 hr))) ?_ ?_
                  · refine me_B (n := 1) cr_len rfl M.b_len rfl ?_
                    · refine ma_cons ?_ ?_
                      · exact me_var (i := 2) rfl (.inl rfl)
                      · exact ma_nil
                  · exact me_int
                · refine me_one ?_
                  · refine me_ch3 or_le or_le or_le ?_ ?_ ?_ ?_
                    · exact me_int
                    · refine me_ix (ir_all (units_of (room0 hr))) ?_ ?_
                      · exact me_var (i := 2) rfl (.inl rfl)
                      · exact me_int
                    · refine me_ix (ir_all (units_of (room0 hr))) ?_ ?_
                      · exact me_var (i := 2) rfl (.inl rfl)
                      · exact me_int
                    · exact me_gl rfl M.c_MOST_PART
theorem nd_1 : (n_1 : List Str).Nodup := by decide +kernel
theorem sc_1 : FnScope n_1 ["world"] (defScope s_1) := ⟨rfl, rfl, rfl, by decide +kernel, rfl, by decide +kernel, by decide +kernel⟩
set_option maxHeartbeats 0 in
theorem d_1 (M : Md P w K mg base C k) (f : Addr) : bodyOk P w K mg base k "need_world" s_1 f n_1 (p_need_world (C 0)) := by
  intro cdv A outer s H E hr
  have nd := nd_1
  refine ms_cons ?_ ?_
  · refine ms_asg (own := [1, 2, 3]) ?_ ?_
    · exact me_var (i := 0) rfl (.inl rfl)
    · refine mg_t rfl ?_ (tl_cons (tl_cons (tl_cons (tl_nil))))
      · refine mg_cons ?_ ?_
        · exact mg_n (i := 1) nd rfl (.inl rfl)
        · refine mg_cons ?_ ?_
          · exact mg_n (i := 2) nd rfl (.inl rfl)
          · refine mg_cons ?_ ?_
            · exact mg_n (i := 3) nd rfl (.inl rfl)
            · exact mg_nil
  · refine ms_cons ?_ ?_
    · refine ms_for (own := [4, 5]) owns_cx rfl ?_ ?_ ?_
      · refine mi_enum rfl M.b_enumerate ?_
        · exact me_var (i := 1) rfl (.inl rfl)
      · refine mg_t rfl ?_ (tl_cons (tl_cons (tl_nil)))
        · refine mg_cons ?_ ?_
          · exact mg_n (i := 4) nd rfl (.inl rfl)
          · refine mg_cons ?_ ?_
            · exact mg_n (i := 5) nd rfl (.inl rfl)
            · exact mg_nil
      · refine ms_one ?_
        · refine ms_if ?_ ?_ ?_
          · refine mt_w ?_
            · refine mw_or ?_ ?_
              · refine mt_cmp (or_eq (units_of (room0 hr))) ?_ ?_
                · exact me_var (i := 4) rfl (.inl rfl)
                · exact me_gl rfl M.c_MOST
              · refine mw_or1 ?_
                · refine mt_not ?_
                  · refine mt_ch or_le or_le ?_ ?_ ?_
                    · exact me_int
                    · exact me_var (i := 5) rfl (.inl rfl)
                    · exact me_gl rfl M.c_MOST_WEIGHT
          · refine ms_one ?_
            · exact ms_never
          · exact ms_nil
    · refine ms_cons ?_ ?_
      · refine ms_if ?_ ?_ ?_
        · refine mt_cmp or_lt ?_ ?_
          · refine me_B (n := 1) cr_len rfl M.b_len rfl ?_
            · refine ma_cons ?_ ?_
              · exact me_var (i := 1) rfl (.inl rfl)
              · exact ma_nil
          · exact me_gl rfl M.c_LEAST
        · refine ms_one ?_
          · exact ms_never
        · exact ms_nil
      · refine ms_cons ?_ ?_
        · refine ms_set (i := 6) nd rfl (.inl rfl) ?_
          · exact me_dnew
        · refine ms_cons ?_ ?_
          · refine ms_for (own := [4, 7, 8]) owns_cx rfl ?_ ?_ ?_
            · refine mi_enum rfl M.b_enumerate ?_
              · exact me_var (i := 2) rfl (.inl rfl)
            · refine mg_t rfl ?_ (tl_cons (tl_cons (tl_nil)))
              · refine mg_cons ?_ ?_
                · exact mg_n (i := 4) nd rfl (.inl rfl)
                · refine mg_cons ?_ ?_
                  · refine mg_t rfl ?_ (tl_cons (tl_cons (tl_nil)))
                    · refine mg_cons ?_ ?_
                      · exact mg_n (i := 7) nd rfl (.inl rfl)
                      · refine mg_cons ?_ ?_
                        · exact mg_n (i := 8) nd rfl (.inl rfl)
                        · exact mg_nil
                  · exact mg_nil
            · refine ms_cons ?_ ?_
              · refine ms_if ?_ ?_ ?_
                · refine mt_w ?_
                  · refine mw_or ?_ ?_
                    · refine mt_cmp (or_eq (units_of (room0 hr))) ?_ ?_
                      · exact me_var (i := 4) rfl (.inl rfl)
                      · exact me_gl rfl M.c_MOST_PAIRS
                    · refine mw_or ?_ ?_
                      · refine mt_not ?_
                        · refine mt_ch3 or_le or_lt or_lt ?_ ?_ ?_ ?_
                          · exact me_int
                          · exact me_var (i := 7) rfl (.inl rfl)
                          · exact me_var (i := 8) rfl (.inl rfl)
                          · refine me_B (n := 1) cr_len rfl M.b_len rfl ?_
                            · refine ma_cons ?_ ?_
                              · exact me_var (i := 1) rfl (.inl rfl)
                              · exact ma_nil
                      · refine mw_or1 ?_
                        · refine mt_cmp (or_in (units1 (room0 hr))) ?_ ?_
                          · refine me_tup (n := 2) ?_
                            · refine ma_cons ?_ ?_
                              · exact me_var (i := 7) rfl (.inl rfl)
                              · refine ma_cons ?_ ?_
                                · exact me_var (i := 8) rfl (.inl rfl)
                                · exact ma_nil
                          · exact me_var (i := 6) rfl (.inl rfl)
                · refine ms_one ?_
                  · exact ms_never
                · exact ms_nil
              · refine ms_one ?_
                · refine ms_put (units_of (room0 hr)) ?_ ?_ ?_
                  · exact me_var (i := 6) rfl (.inl rfl)
                  · refine me_tup (n := 2) ?_
                    · refine ma_cons ?_ ?_
                      · exact me_var (i := 7) rfl (.inl rfl)
                      · refine ma_cons ?_ ?_
                        · exact me_var (i := 8) rfl (.inl rfl)
                        · exact ma_nil
                  · exact me_bl
          · refine ms_one ?_
            · refine ms_if ?_ ?_ ?_
              · refine mt_not ?_
                · refine mt_val ?_
                  · refine me_call (m := 1) M.f_0 (room0 hr) takes_cx rfl ?_
                    · refine ma_cons ?_ ?_
                      · exact me_var (i := 3) rfl (.inl rfl)
                      · exact ma_nil
              · refine ms_one ?_
                · exact ms_never
              · exact ms_nil
theorem nd_2 : (n_2 : List Str).Nodup := by decide +kernel
theorem sc_2 : FnScope n_2 ["rule", "heavy", "light"] (defScope s_2) := ⟨rfl, rfl, rfl, by decide +kernel, rfl, by decide +kernel, by decide +kernel⟩
set_option maxHeartbeats 0 in
theorem d_2 (M : Md P w K mg base C k) (f : Addr) : bodyOk P w K mg base k "gift_of" s_2 f n_2 (p_gift_of) := by
  intro cdv A outer s H E hr
  have nd := nd_2
  refine ms_cons ?_ ?_
  · refine ms_if ?_ ?_ ?_
    · refine mt_cmp (or_eq (units_of (room0 hr))) ?_ ?_
      · refine me_ix (ir_all (units_of (room0 hr))) ?_ ?_
        · exact me_var (i := 0) rfl (.inl rfl)
        · exact me_int
      · exact me_gl rfl M.c_SOME
    · refine ms_one ?_
      · refine ms_ret ?_
        · refine me_B (n := 2) (cr_min2 rfl) rfl M.b_min rfl ?_
          · refine ma_cons ?_ ?_
            · refine me_ix (ir_all (units_of (room0 hr))) ?_ ?_
              · exact me_var (i := 0) rfl (.inl rfl)
              · exact me_int
            · refine ma_cons ?_ ?_
              · exact me_var (i := 1) rfl (.inl rfl)
              · exact ma_nil
    · exact ms_nil
  · refine ms_cons ?_ ?_
    · refine ms_if ?_ ?_ ?_
      · refine mt_cmp (or_eq (units_of (room0 hr))) ?_ ?_
        · refine me_ix (ir_all (units_of (room0 hr))) ?_ ?_
          · exact me_var (i := 0) rfl (.inl rfl)
          · exact me_int
        · exact me_gl rfl M.c_HALF
      · refine ms_one ?_
        · refine ms_ret ?_
          · refine me_op or_div ?_ ?_
            · refine me_op or_sub ?_ ?_
              · exact me_var (i := 1) rfl (.inl rfl)
              · exact me_var (i := 2) rfl (.inl rfl)
            · exact me_int
      · exact ms_nil
    · refine ms_cons ?_ ?_
      · refine ms_if ?_ ?_ ?_
        · refine mt_cmp (or_eq (units_of (room0 hr))) ?_ ?_
          · refine me_ix (ir_all (units_of (room0 hr))) ?_ ?_
            · exact me_var (i := 0) rfl (.inl rfl)
            · exact me_int
          · exact me_gl rfl M.c_EVEN
        · refine ms_one ?_
          · refine ms_ret ?_
            · refine me_op or_div ?_ ?_
              · refine me_op or_add ?_ ?_
                · refine me_op or_sub ?_ ?_
                  · exact me_var (i := 1) rfl (.inl rfl)
                  · exact me_var (i := 2) rfl (.inl rfl)
                · exact me_int
              · exact me_int
        · exact ms_nil
      · refine ms_one ?_
        · refine ms_ret ?_
          · refine me_op or_div ?_ ?_
            · refine me_op or_mul ?_ ?_
              · exact me_var (i := 1) rfl (.inl rfl)
              · refine me_ix (ir_all (units_of (room0 hr))) ?_ ?_
                · exact me_var (i := 0) rfl (.inl rfl)
                · exact me_int
            · refine me_ix (ir_all (units_of (room0 hr))) ?_ ?_
              · exact me_var (i := 0) rfl (.inl rfl)
              · exact me_int
theorem nd_3 : (n_3 : List Str).Nodup := by decide +kernel
theorem sc_3 : FnScope n_3 ["rule", "weights", "pair"] (defScope s_3) := ⟨rfl, rfl, rfl, by decide +kernel, rfl, by decide +kernel, by decide +kernel⟩
set_option maxHeartbeats 0 in
theorem d_3 (M : Md P w K mg base C k) (f : Addr) : bodyOk P w K mg base k "gift_told" s_3 f n_3 (p_gift_told (C 2)) := by
  intro cdv A outer s H E hr
  have nd := nd_3
  refine ms_cons ?_ ?_
  · refine ms_asg (own := [3, 4]) ?_ ?_
    · exact me_var (i := 2) rfl (.inl rfl)
    · refine mg_t rfl ?_ (tl_cons (tl_cons (tl_nil)))
      · refine mg_cons ?_ ?_
        · exact mg_n (i := 3) nd rfl (.inl rfl)
        · refine mg_cons ?_ ?_
          · exact mg_n (i := 4) nd rfl (.inl rfl)
          · exact mg_nil
  · refine ms_cons ?_ ?_
    · refine ms_if ?_ ?_ ?_
      · refine mt_cmp (or_eq (units_of (room0 hr))) ?_ ?_
        · refine me_ix (ir_all (units_of (room0 hr))) ?_ ?_
          · exact me_var (i := 1) rfl (.inl rfl)
          · exact me_var (i := 3) rfl (.inl rfl)
        · refine me_ix (ir_all (units_of (room0 hr))) ?_ ?_
          · exact me_var (i := 1) rfl (.inl rfl)
          · exact me_var (i := 4) rfl (.inl rfl)
      · refine ms_one ?_
        · refine ms_ret ?_
          · exact me_non
      · exact ms_nil
    · refine ms_cons ?_ ?_
      · refine ms_asg (own := [5, 6]) ?_ ?_
        · refine me_if ?_ ?_ ?_
          · refine mt_cmp or_gt ?_ ?_
            · refine me_ix (ir_all (units_of (room0 hr))) ?_ ?_
              · exact me_var (i := 1) rfl (.inl rfl)
              · exact me_var (i := 3) rfl (.inl rfl)
            · refine me_ix (ir_all (units_of (room0 hr))) ?_ ?_
              · exact me_var (i := 1) rfl (.inl rfl)
              · exact me_var (i := 4) rfl (.inl rfl)
          · refine me_tup (n := 2) ?_
            · refine ma_cons ?_ ?_
              · exact me_var (i := 3) rfl (.inl rfl)
              · refine ma_cons ?_ ?_
                · exact me_var (i := 4) rfl (.inl rfl)
                · exact ma_nil
          · refine me_tup (n := 2) ?_
            · refine ma_cons ?_ ?_
              · exact me_var (i := 4) rfl (.inl rfl)
              · refine ma_cons ?_ ?_
                · exact me_var (i := 3) rfl (.inl rfl)
                · exact ma_nil
        · refine mg_t rfl ?_ (tl_cons (tl_cons (tl_nil)))
          · refine mg_cons ?_ ?_
            · exact mg_n (i := 5) nd rfl (.inl rfl)
            · refine mg_cons ?_ ?_
              · exact mg_n (i := 6) nd rfl (.inl rfl)
              · exact mg_nil
      · refine ms_cons ?_ ?_
        · refine ms_set (i := 7) nd rfl (.inl rfl) ?_
          · refine me_call (m := 3) M.f_2 (room0 hr) takes_cx rfl ?_
            · refine ma_cons ?_ ?_
              · exact me_var (i := 0) rfl (.inl rfl)
              · refine ma_cons ?_ ?_
                · refine me_ix (ir_all (units_of (room0 hr))) ?_ ?_
                  · exact me_var (i := 1) rfl (.inl rfl)
                  · exact me_var (i := 5) rfl (.inl rfl)
                · refine ma_cons ?_ ?_
                  · refine me_ix (ir_all (units_of (room0 hr))) ?_ ?_
                    · exact me_var (i := 1) rfl (.inl rfl)
                    · exact me_var (i := 6) rfl (.inl rfl)
                  · exact ma_nil
        · refine ms_one ?_
          · refine ms_ret ?_
            · refine me_if ?_ ?_ ?_
              · refine mt_cmp or_gt ?_ ?_
                · exact me_var (i := 7) rfl (.inl rfl)
                · exact me_int
              · refine me_tup (n := 3) ?_
                · refine ma_cons ?_ ?_
                  · exact me_var (i := 5) rfl (.inl rfl)
                  · refine ma_cons ?_ ?_
                    · exact me_var (i := 6) rfl (.inl rfl)
                    · refine ma_cons ?_ ?_
                      · exact me_var (i := 7) rfl (.inl rfl)
                      · exact ma_nil
              · exact me_non
theorem nd_4 : (n_4 : List Str).Nodup := by decide +kernel
theorem sc_4 : FnScope n_4 ["rule", "weights", "pair"] (defScope s_4) := ⟨rfl, rfl, rfl, by decide +kernel, rfl, by decide +kernel, by decide +kernel⟩
set_option maxHeartbeats 0 in
theorem d_4 (M : Md P w K mg base C k) (f : Addr) : bodyOk P w K mg base k "behind" s_4 f n_4 (p_behind (C 3)) := by
  intro cdv A outer s H E hr
  have nd := nd_4
  refine ms_cons ?_ ?_
  · refine ms_set (i := 3) nd rfl (.inl rfl) ?_
    · refine me_call (m := 3) M.f_3 (room0 hr) takes_cx rfl ?_
      · refine ma_cons ?_ ?_
        · exact me_var (i := 0) rfl (.inl rfl)
        · refine ma_cons ?_ ?_
          · exact me_var (i := 1) rfl (.inl rfl)
          · refine ma_cons ?_ ?_
            · exact me_var (i := 2) rfl (.inl rfl)
            · exact ma_nil
  · refine ms_cons ?_ ?_
    · refine ms_if ?_ ?_ ?_
      · refine mt_isN ?_
        · exact me_var (i := 3) rfl (.inl rfl)
      · refine ms_one ?_
        · refine ms_ret ?_
          · exact me_var (i := 1) rfl (.inl rfl)
      · exact ms_nil
    · refine ms_cons ?_ ?_
      · refine ms_asg (own := [4, 5, 6]) ?_ ?_
        · exact me_var (i := 3) rfl (.inl rfl)
        · refine mg_t rfl ?_ (tl_cons (tl_cons (tl_cons (tl_nil))))
          · refine mg_cons ?_ ?_
            · exact mg_n (i := 4) nd rfl (.inl rfl)
            · refine mg_cons ?_ ?_
              · exact mg_n (i := 5) nd rfl (.inl rfl)
              · refine mg_cons ?_ ?_
                · exact mg_n (i := 6) nd rfl (.inl rfl)
                · exact mg_nil
      · refine ms_cons ?_ ?_
        · refine ms_set (i := 7) nd rfl (.inl rfl) ?_
          · refine me_Ty (n := 1) cr_list rfl M.b_list rfl ?_
            · refine ma_cons ?_ ?_
              · exact me_var (i := 1) rfl (.inl rfl)
              · exact ma_nil
        · refine ms_cons ?_ ?_
          · refine ms_augS (units_of (room0 hr)) ?_ ?_ ?_ ip_sub'
            · exact me_var (i := 7) rfl (.inl rfl)
            · exact me_var (i := 4) rfl (.inl rfl)
            · exact me_var (i := 6) rfl (.inl rfl)
          · refine ms_cons ?_ ?_
            · refine ms_augS (units_of (room0 hr)) ?_ ?_ ?_ ip_add'
              · exact me_var (i := 7) rfl (.inl rfl)
              · exact me_var (i := 5) rfl (.inl rfl)
              · exact me_var (i := 6) rfl (.inl rfl)
            · refine ms_one ?_
              · refine ms_ret ?_
                · refine me_Ty (n := 1) cr_tuple rfl M.b_tuple rfl ?_
                  · refine ma_cons ?_ ?_
                    · exact me_var (i := 7) rfl (.inl rfl)
                    · exact ma_nil
theorem nd_5 : (n_5 : List Str).Nodup := by decide +kernel
theorem sc_5 : FnScope n_5 ["world", "meetings", "most"] (defScope s_5) := ⟨rfl, rfl, rfl, by decide +kernel, rfl, by decide +kernel, by decide +kernel⟩
set_option maxHeartbeats 0 in
theorem d_5 (M : Md P w K mg base C k) (f : Addr) : bodyOk P w K mg base k "need_meetings" s_5 f n_5 (p_need_meetings) := by
  intro cdv A outer s H E hr
  have nd := nd_5
  refine ms_one ?_
  · refine ms_for (own := [3, 4]) owns_cx rfl ?_ ?_ ?_
    · refine mi_enum rfl M.b_enumerate ?_
      · exact me_var (i := 1) rfl (.inl rfl)
    · refine mg_t rfl ?_ (tl_cons (tl_cons (tl_nil)))
      · refine mg_cons ?_ ?_
        · exact mg_n (i := 3) nd rfl (.inl rfl)
        · refine mg_cons ?_ ?_
          · exact mg_n (i := 4) nd rfl (.inl rfl)
          · exact mg_nil
    · refine ms_one ?_
      · refine ms_if ?_ ?_ ?_
        · refine mt_w ?_
          · refine mw_or ?_ ?_
            · refine mt_cmp (or_eq (units_of (room0 hr))) ?_ ?_
              · exact me_var (i := 3) rfl (.inl rfl)
              · exact me_var (i := 2) rfl (.inl rfl)
            · refine mw_or1 ?_
              · refine mt_not ?_
                · refine mt_ch or_le or_lt ?_ ?_ ?_
                  · exact me_int
                  · exact me_var (i := 4) rfl (.inl rfl)
                  · refine me_B (n := 1) cr_len rfl M.b_len rfl ?_
                    · refine ma_cons ?_ ?_
                      · refine me_ix (ir_all (units_of (room0 hr))) ?_ ?_
                        · exact me_var (i := 0) rfl (.inl rfl)
                        · exact me_int
                      · exact ma_nil
        · refine ms_one ?_
          · exact ms_never
        · exact ms_nil
theorem nd_6 : (n_6 : List Str).Nodup := by decide +kernel
theorem sc_6 : FnScope n_6 ["world", "meetings"] (defScope s_6) := ⟨rfl, rfl, rfl, by decide +kernel, rfl, by decide +kernel, by decide +kernel⟩
set_option maxHeartbeats 0 in
theorem d_6 (M : Md P w K mg base C k) (f : Addr) : bodyOk P w K mg base k "met" s_6 f n_6 (p_met (C 4) (C 5) (C 1)) := by
  intro cdv A outer s H E hr
  have nd := nd_6
  refine ms_cons ?_ ?_
  · refine ms_expr ?_
    · refine me_call (m := 1) M.f_1 (room0 hr) takes_cx rfl ?_
      · refine ma_cons ?_ ?_
        · exact me_var (i := 0) rfl (.inl rfl)
        · exact ma_nil
  · refine ms_cons ?_ ?_
    · refine ms_expr ?_
      · refine me_call (m := 3) M.f_5 (room0 hr) takes_cx rfl ?_
        · refine ma_cons ?_ ?_
          · exact me_var (i := 0) rfl (.inl rfl)
          · refine ma_cons ?_ ?_
            · exact me_var (i := 1) rfl (.inl rfl)
            · refine ma_cons ?_ ?_
              · exact me_gl rfl M.c_MOST_MEETINGS
              · exact ma_nil
    · refine ms_cons ?_ ?_
      · refine ms_set (i := 2) nd rfl (.inl rfl) ?_
        · refine me_Ty (n := 1) cr_tuple rfl M.b_tuple rfl ?_
          · refine ma_cons ?_ ?_
            · refine me_ix (ir_all (units_of (room0 hr))) ?_ ?_
              · exact me_var (i := 0) rfl (.inl rfl)
              · exact me_int
            · exact ma_nil
      · refine ms_cons ?_ ?_
        · refine ms_for (own := [3]) owns_cx rfl ?_ ?_ ?_
          · refine mi_of ?_
            · exact me_var (i := 1) rfl (.inl rfl)
          · exact mg_n (i := 3) nd rfl (.inl rfl)
          · refine ms_one ?_
            · refine ms_set (i := 2) nd rfl (.inl rfl) ?_
              · refine me_call (m := 3) M.f_4 (room0 hr) takes_cx rfl ?_
                · refine ma_cons ?_ ?_
                  · refine me_ix (ir_all (units_of (room0 hr))) ?_ ?_
                    · exact me_var (i := 0) rfl (.inl rfl)
                    · exact me_int
                  · refine ma_cons ?_ ?_
                    · exact me_var (i := 2) rfl (.inl rfl)
                    · refine ma_cons ?_ ?_
                      · refine me_ix (ir_all (units_of (room0 hr))) ?_ ?_
                        · refine me_ix (ir_all (units_of (room0 hr))) ?_ ?_
                          · exact me_var (i := 0) rfl (.inl rfl)
                          · exact me_int
                        · exact me_var (i := 3) rfl (.inl rfl)
                      · exact ma_nil
        · refine ms_one ?_
          · refine ms_ret ?_
            · exact me_var (i := 2) rfl (.inl rfl)
theorem nd_7 : (n_7 : List Str).Nodup := by decide +kernel
theorem sc_7 : FnScope n_7 ["world", "meetings"] (defScope s_7) := ⟨rfl, rfl, rfl, by decide +kernel, rfl, by decide +kernel, by decide +kernel⟩
set_option maxHeartbeats 0 in
theorem d_7 (M : Md P w K mg base C k) (f : Addr) : bodyOk P w K mg base k "gifts" s_7 f n_7 (p_gifts (C 4) (C 3) (C 5) (C 1)) := by
  intro cdv A outer s H E hr
  have nd := nd_7
  refine ms_cons ?_ ?_
  · refine ms_expr ?_
    · refine me_call (m := 1) M.f_1 (room0 hr) takes_cx rfl ?_
      · refine ma_cons ?_ ?_
        · exact me_var (i := 0) rfl (.inl rfl)
        · exact ma_nil
  · refine ms_cons ?_ ?_
    · refine ms_expr ?_
      · refine me_call (m := 3) M.f_5 (room0 hr) takes_cx rfl ?_
        · refine ma_cons ?_ ?_
          · exact me_var (i := 0) rfl (.inl rfl)
          · refine ma_cons ?_ ?_
            · exact me_var (i := 1) rfl (.inl rfl)
            · refine ma_cons ?_ ?_
              · exact me_gl rfl M.c_MOST_MEETINGS
              · exact ma_nil
    · refine ms_cons ?_ ?_
      · refine ms_set (i := 2) nd rfl (.inl rfl) ?_
        · refine me_Ty (n := 1) cr_tuple rfl M.b_tuple rfl ?_
          · refine ma_cons ?_ ?_
            · refine me_ix (ir_all (units_of (room0 hr))) ?_ ?_
              · exact me_var (i := 0) rfl (.inl rfl)
              · exact me_int
            · exact ma_nil
      · refine ms_cons ?_ ?_
        · refine ms_set (i := 3) nd rfl (.inl rfl) ?_
          · refine me_lst (n := 0) ?_
            · exact ma_nil
        · refine ms_cons ?_ ?_
          · refine ms_for (own := [4]) owns_cx rfl ?_ ?_ ?_
            · refine mi_of ?_
              · exact me_var (i := 1) rfl (.inl rfl)
            · exact mg_n (i := 4) nd rfl (.inl rfl)
            · refine ms_cons ?_ ?_
              · refine ms_expr ?_
                · refine me_M (n := 1) PySem.F.plainAttrs_list PySem.F.slot_list_append PySem.F.type_list_append mr_append chk_l ?_ ?_
                  · exact me_var (i := 3) rfl (.inl rfl)
                  · refine ma_cons ?_ ?_
                    · refine me_call (m := 3) M.f_3 (room0 hr) takes_cx rfl ?_
                      · refine ma_cons ?_ ?_
                        · refine me_ix (ir_all (units_of (room0 hr))) ?_ ?_
                          · exact me_var (i := 0) rfl (.inl rfl)
                          · exact me_int
                        · refine ma_cons ?_ ?_
                          · exact me_var (i := 2) rfl (.inl rfl)
                          · refine ma_cons ?_ ?_
                            · refine me_ix (ir_all (units_of (room0 hr))) ?_ ?_
                              · refine me_ix (ir_all (units_of (room0 hr))) ?_ ?_
                                · exact me_var (i := 0) rfl (.inl rfl)
                                · exact me_int
                              · exact me_var (i := 4) rfl (.inl rfl)
                            · exact ma_nil
                    · exact ma_nil
              · refine ms_one ?_
                · refine ms_set (i := 2) nd rfl (.inl rfl) ?_
                  · refine me_call (m := 3) M.f_4 (room0 hr) takes_cx rfl ?_
                    · refine ma_cons ?_ ?_
                      · refine me_ix (ir_all (units_of (room0 hr))) ?_ ?_
                        · exact me_var (i := 0) rfl (.inl rfl)
                        · exact me_int
                      · refine ma_cons ?_ ?_
                        · exact me_var (i := 2) rfl (.inl rfl)
                        · refine ma_cons ?_ ?_
                          · refine me_ix (ir_all (units_of (room0 hr))) ?_ ?_
                            · refine me_ix (ir_all (units_of (room0 hr))) ?_ ?_
                              · exact me_var (i := 0) rfl (.inl rfl)
                              · exact me_int
                            · exact me_var (i := 4) rfl (.inl rfl)
                          · exact ma_nil
          · refine ms_one ?_
            · refine ms_ret ?_
              · exact me_var (i := 3) rfl (.inl rfl)
theorem nd_8 : (n_8 : List Str).Nodup := by decide +kernel
theorem sc_8 : FnScope n_8 ["world", "turns"] (defScope s_8) := ⟨rfl, rfl, rfl, by decide +kernel, rfl, by decide +kernel, by decide +kernel⟩
set_option maxHeartbeats 0 in
theorem d_8 (M : Md P w K mg base C k) (f : Addr) : bodyOk P w K mg base k "need_turns" s_8 f n_8 (p_need_turns (C 5)) := by
  intro cdv A outer s H E hr
  have nd := nd_8
  refine ms_cons ?_ ?_
  · refine ms_expr ?_
    · refine me_call (m := 3) M.f_5 (room0 hr) takes_cx rfl ?_
      · refine ma_cons ?_ ?_
        · exact me_var (i := 0) rfl (.inl rfl)
        · refine ma_cons ?_ ?_
          · exact me_var (i := 1) rfl (.inl rfl)
          · refine ma_cons ?_ ?_
            · exact me_gl rfl M.c_MOST_MEETINGS
            · exact ma_nil
  · refine ms_one ?_
    · refine ms_if ?_ ?_ ?_
      · refine mt_cmp (or_eq (units_of (room0 hr))) ?_ ?_
        · refine me_B (n := 1) cr_len rfl M.b_len rfl ?_
          · refine ma_cons ?_ ?_
            · exact me_var (i := 1) rfl (.inl rfl)
            · exact ma_nil
        · exact me_int
      · refine ms_one ?_
        · exact ms_never
      · exact ms_nil
theorem nd_9 : (n_9 : List Str).Nodup := by decide +kernel
theorem sc_9 : FnScope n_9 ["world", "turns"] (defScope s_9) := ⟨rfl, rfl, rfl, by decide +kernel, rfl, by decide +kernel, by decide +kernel⟩
set_option maxHeartbeats 0 in
theorem d_9 (M : Md P w K mg base C k) (f : Addr) : bodyOk P w K mg base k "walk" s_9 f n_9 (p_walk (C 4)) := by
  intro cdv A outer s H E hr
  have nd := nd_9
  refine ms_cons ?_ ?_
  · refine ms_set (i := 2) nd rfl (.inl rfl) ?_
    · refine me_Ty (n := 1) cr_tuple rfl M.b_tuple rfl ?_
      · refine ma_cons ?_ ?_
        · refine me_ix (ir_all (units_of (room0 hr))) ?_ ?_
          · exact me_var (i := 0) rfl (.inl rfl)
          · exact me_int
        · exact ma_nil
  · refine ms_cons ?_ ?_
    · refine ms_par (n := 2) (i := 3) (j := 4) rfl nd rfl rfl ?_
      · refine ma_cons ?_ ?_
        · refine me_lst (n := 0) ?_
          · exact ma_nil
        · refine ma_cons ?_ ?_
          · exact me_dnew
          · exact ma_nil
    · refine ms_cons ?_ ?_
      · refine ms_while owns_cx ?_ ?_
        · refine mt_cmp (or_notIn (units1 (room0 hr))) ?_ ?_
          · refine me_tup (n := 2) ?_
            · refine ma_cons ?_ ?_
              · exact me_var (i := 2) rfl (.inl rfl)
              · refine ma_cons ?_ ?_
                · refine me_op or_mod ?_ ?_
                  · refine me_B (n := 1) cr_len rfl M.b_len rfl ?_
                    · refine ma_cons ?_ ?_
                      · exact me_var (i := 3) rfl (.inl rfl)
                      · exact ma_nil
                  · refine me_B (n := 1) cr_len rfl M.b_len rfl ?_
                    · refine ma_cons ?_ ?_
                      · exact me_var (i := 1) rfl (.inl rfl)
                      · exact ma_nil
                · exact ma_nil
          · exact me_var (i := 4) rfl (.inl rfl)
        · refine ms_cons ?_ ?_
          · refine ms_set (i := 5) nd rfl (.inl rfl) ?_
            · refine me_op or_mod ?_ ?_
              · refine me_B (n := 1) cr_len rfl M.b_len rfl ?_
                · refine ma_cons ?_ ?_
                  · exact me_var (i := 3) rfl (.inl rfl)
                  · exact ma_nil
              · refine me_B (n := 1) cr_len rfl M.b_len rfl ?_
                · refine ma_cons ?_ ?_
                  · exact me_var (i := 1) rfl (.inl rfl)
                  · exact ma_nil
          · refine ms_cons ?_ ?_
            · refine ms_put (units_of (room0 hr)) ?_ ?_ ?_
              · exact me_var (i := 4) rfl (.inl rfl)
              · refine me_tup (n := 2) ?_
                · refine ma_cons ?_ ?_
                  · exact me_var (i := 2) rfl (.inl rfl)
                  · refine ma_cons ?_ ?_
                    · exact me_var (i := 5) rfl (.inl rfl)
                    · exact ma_nil
              · refine me_B (n := 1) cr_len rfl M.b_len rfl ?_
                · refine ma_cons ?_ ?_
                  · exact me_var (i := 3) rfl (.inl rfl)
                  · exact ma_nil
            · refine ms_cons ?_ ?_
              · refine ms_expr ?_
                · refine me_M (n := 1) PySem.F.plainAttrs_list PySem.F.slot_list_append PySem.F.type_list_append mr_append chk_l ?_ ?_
                  · exact me_var (i := 3) rfl (.inl rfl)
                  · refine ma_cons ?_ ?_
                    · exact me_var (i := 2) rfl (.inl rfl)
                    · exact ma_nil
              · refine ms_one ?_
                · refine ms_set (i := 2) nd rfl (.inl rfl) ?_
                  · refine me_call (m := 3) M.f_4 (room0 hr) takes_cx rfl ?_
                    · refine ma_cons ?_ ?_
                      · refine me_ix (ir_all (units_of (room0 hr))) ?_ ?_
                        · exact me_var (i := 0) rfl (.inl rfl)
                        · exact me_int
                      · refine ma_cons ?_ ?_
                        · exact me_var (i := 2) rfl (.inl rfl)
                        · refine ma_cons ?_ ?_
                          · refine me_ix (ir_all (units_of (room0 hr))) ?_ ?_
                            · refine me_ix (ir_all (units_of (room0 hr))) ?_ ?_
                              · exact me_var (i := 0) rfl (.inl rfl)
                              · exact me_int
                            · refine me_ix (ir_all (units_of (room0 hr))) ?_ ?_
                              · exact me_var (i := 1) rfl (.inl rfl)
                              · exact me_var (i := 5) rfl (.inl rfl)
                          · exact ma_nil
      · refine ms_one ?_
        · refine ms_ret ?_
          · refine me_tup (n := 2) ?_
            · refine ma_cons ?_ ?_
              · exact me_var (i := 3) rfl (.inl rfl)
              · refine ma_cons ?_ ?_
                · refine me_ix (ir_all (units_of (room0 hr))) ?_ ?_
                  · exact me_var (i := 4) rfl (.inl rfl)
                  · refine me_tup (n := 2) ?_
                    · refine ma_cons ?_ ?_
                      · exact me_var (i := 2) rfl (.inl rfl)
                      · refine ma_cons ?_ ?_
                        · refine me_op or_mod ?_ ?_
                          · refine me_B (n := 1) cr_len rfl M.b_len rfl ?_
                            · refine ma_cons ?_ ?_
                              · exact me_var (i := 3) rfl (.inl rfl)
                              · exact ma_nil
                          · refine me_B (n := 1) cr_len rfl M.b_len rfl ?_
                            · refine ma_cons ?_ ?_
                              · exact me_var (i := 1) rfl (.inl rfl)
                              · exact ma_nil
                        · exact ma_nil
                · exact ma_nil
theorem nd_10 : (n_10 : List Str).Nodup := by decide +kernel
theorem sc_10 : FnScope n_10 ["world", "turns"] (defScope s_10) := ⟨rfl, rfl, rfl, by decide +kernel, rfl, by decide +kernel, by decide +kernel⟩
set_option maxHeartbeats 0 in
theorem d_10 (M : Md P w K mg base C k) (f : Addr) : bodyOk P w K mg base k "period" s_10 f n_10 (p_period (C 9) (C 8) (C 1)) := by
  intro cdv A outer s H E hr
  have nd := nd_10
  refine ms_cons ?_ ?_
  · refine ms_expr ?_
    · refine me_call (m := 1) M.f_1 (room0 hr) takes_cx rfl ?_
      · refine ma_cons ?_ ?_
        · exact me_var (i := 0) rfl (.inl rfl)
        · exact ma_nil
  · refine ms_cons ?_ ?_
    · refine ms_expr ?_
      · refine me_call (m := 2) M.f_8 (room0 hr) takes_cx rfl ?_
        · refine ma_cons ?_ ?_
          · exact me_var (i := 0) rfl (.inl rfl)
          · refine ma_cons ?_ ?_
            · exact me_var (i := 1) rfl (.inl rfl)
            · exact ma_nil
    · refine ms_cons ?_ ?_
      · refine ms_asg (own := [2, 3]) ?_ ?_
        · refine me_call (m := 2) M.f_9 (room0 hr) takes_cx rfl ?_
          · refine ma_cons ?_ ?_
            · exact me_var (i := 0) rfl (.inl rfl)
            · refine ma_cons ?_ ?_
              · exact me_var (i := 1) rfl (.inl rfl)
              · exact ma_nil
        · refine mg_t rfl ?_ (tl_cons (tl_cons (tl_nil)))
          · refine mg_cons ?_ ?_
            · exact mg_n (i := 2) nd rfl (.inl rfl)
            · refine mg_cons ?_ ?_
              · exact mg_n (i := 3) nd rfl (.inl rfl)
              · exact mg_nil
      · refine ms_one ?_
        · refine ms_ret ?_
          · refine me_tup (n := 2) ?_
            · refine ma_cons ?_ ?_
              · exact me_var (i := 3) rfl (.inl rfl)
              · refine ma_cons ?_ ?_
                · refine me_op or_sub ?_ ?_
                  · refine me_B (n := 1) cr_len rfl M.b_len rfl ?_
                    · refine ma_cons ?_ ?_
                      · exact me_var (i := 2) rfl (.inl rfl)
                      · exact ma_nil
                  · exact me_var (i := 3) rfl (.inl rfl)
                · exact ma_nil
theorem nd_11 : (n_11 : List Str).Nodup := by decide +kernel
theorem sc_11 : FnScope n_11 ["world", "turns", "many"] (defScope s_11) := ⟨rfl, rfl, rfl, by decide +kernel, rfl, by decide +kernel, by decide +kernel⟩
set_option maxHeartbeats 0 in
theorem d_11 (M : Md P w K mg base C k) (f : Addr) : bodyOk P w K mg base k "after" s_11 f n_11 (p_after (C 9) (C 8) (C 1)) := by
  intro cdv A outer s H E hr
  have nd := nd_11
  refine ms_cons ?_ ?_
  · refine ms_expr ?_
    · refine me_call (m := 1) M.f_1 (room0 hr) takes_cx rfl ?_
      · refine ma_cons ?_ ?_
        · exact me_var (i := 0) rfl (.inl rfl)
        · exact ma_nil
  · refine ms_cons ?_ ?_
    · refine ms_expr ?_
      · refine me_call (m := 2) M.f_8 (room0 hr) takes_cx rfl ?_
        · refine ma_cons ?_ ?_
          · exact me_var (i := 0) rfl (.inl rfl)
          · refine ma_cons ?_ ?_
            · exact me_var (i := 1) rfl (.inl rfl)
            · exact ma_nil
    · refine ms_cons ?_ ?_
      · refine ms_if ?_ ?_ ?_
        · refine mt_not ?_
          · refine mt_ch or_le or_le ?_ ?_ ?_
            · exact me_int
            · exact me_var (i := 2) rfl (.inl rfl)
            · exact me_gl rfl M.c_MOST_FAR
        · refine ms_one ?_
          · exact ms_never
        · exact ms_nil
      · refine ms_cons ?_ ?_
        · refine ms_asg (own := [3, 4]) ?_ ?_
          · refine me_call (m := 2) M.f_9 (room0 hr) takes_cx rfl ?_
            · refine ma_cons ?_ ?_
              · exact me_var (i := 0) rfl (.inl rfl)
              · refine ma_cons ?_ ?_
                · exact me_var (i := 1) rfl (.inl rfl)
                · exact ma_nil
          · refine mg_t rfl ?_ (tl_cons (tl_cons (tl_nil)))
            · refine mg_cons ?_ ?_
              · exact mg_n (i := 3) nd rfl (.inl rfl)
              · refine mg_cons ?_ ?_
                · exact mg_n (i := 4) nd rfl (.inl rfl)
                · exact mg_nil
        · refine ms_one ?_
          · refine ms_ret ?_
            · refine me_if ?_ ?_ ?_
              · refine mt_cmp or_lt ?_ ?_
                · exact me_var (i := 2) rfl (.inl rfl)
                · refine me_B (n := 1) cr_len rfl M.b_len rfl ?_
                  · refine ma_cons ?_ ?_
                    · exact me_var (i := 3) rfl (.inl rfl)
                    · exact ma_nil
              · refine me_ix (ir_all (units_of (room0 hr))) ?_ ?_
                · exact me_var (i := 3) rfl (.inl rfl)
                · exact me_var (i := 2) rfl (.inl rfl)
              · refine me_ix (ir_all (units_of (room0 hr))) ?_ ?_
                · exact me_var (i := 3) rfl (.inl rfl)
                · refine me_op or_add ?_ ?_
                  · exact me_var (i := 4) rfl (.inl rfl)
                  · refine me_op or_mod ?_ ?_
                    · refine me_op or_sub ?_ ?_
                      · exact me_var (i := 2) rfl (.inl rfl)
                      · exact me_var (i := 4) rfl (.inl rfl)
                    · refine me_op or_sub ?_ ?_
                      · refine me_B (n := 1) cr_len rfl M.b_len rfl ?_
                        · refine ma_cons ?_ ?_
                          · exact me_var (i := 3) rfl (.inl rfl)
                          · exact ma_nil
                      · exact me_var (i := 4) rfl (.inl rfl)
theorem nd_12 : (n_12 : List Str).Nodup := by decide +kernel
theorem sc_12 : FnScope n_12 ["world", "turns"] (defScope s_12) := ⟨rfl, rfl, rfl, by decide +kernel, rfl, by decide +kernel, by decide +kernel⟩
set_option maxHeartbeats 0 in
theorem d_12 (M : Md P w K mg base C k) (f : Addr) : bodyOk P w K mg base k "rests" s_12 f n_12 (p_rests (C 9) (C 8) (C 1)) := by
  intro cdv A outer s H E hr
  have nd := nd_12
  refine ms_cons ?_ ?_
  · refine ms_expr ?_
    · refine me_call (m := 1) M.f_1 (room0 hr) takes_cx rfl ?_
      · refine ma_cons ?_ ?_
        · exact me_var (i := 0) rfl (.inl rfl)
        · exact ma_nil
  · refine ms_cons ?_ ?_
    · refine ms_expr ?_
      · refine me_call (m := 2) M.f_8 (room0 hr) takes_cx rfl ?_
        · refine ma_cons ?_ ?_
          · exact me_var (i := 0) rfl (.inl rfl)
          · refine ma_cons ?_ ?_
            · exact me_var (i := 1) rfl (.inl rfl)
            · exact ma_nil
    · refine ms_cons ?_ ?_
      · refine ms_asg (own := [2, 3]) ?_ ?_
        · refine me_call (m := 2) M.f_9 (room0 hr) takes_cx rfl ?_
          · refine ma_cons ?_ ?_
            · exact me_var (i := 0) rfl (.inl rfl)
            · refine ma_cons ?_ ?_
              · exact me_var (i := 1) rfl (.inl rfl)
              · exact ma_nil
        · refine mg_t rfl ?_ (tl_cons (tl_cons (tl_nil)))
          · refine mg_cons ?_ ?_
            · exact mg_n (i := 2) nd rfl (.inr rfl)
            · refine mg_cons ?_ ?_
              · exact mg_n (i := 3) nd rfl (.inr rfl)
              · exact mg_nil
      · refine ms_cons ?_ ?_
        · refine ms_if ?_ ?_ ?_
          · refine mt_val ?_
            · refine me_B (n := 1) (cr_any' rfl) rfl M.b_any rfl ?_
              · refine ma_cons ?_ ?_
                · refine me_lc (own := [("weights", 5)]) rfl nd ?_ (blkOk_by (N := n_12) (sc := defScope s_12) (own := [("weights", 5)]) (by decide +kernel)) ?_ ?_ ?_
                  · refine mi_of ?_
                    · refine me_sl ?_ ?_ ?_
                      · exact me_var (i := 2) rfl (.inr (.inl rfl))
                      · refine mp_of ?_
                        · exact me_var (i := 3) rfl (.inr (.inl rfl))
                      · exact mp_no
                  · intro _ _ _ _ _
                    exact mg_n (i := 5) nd rfl (.inl rfl)
                  · intro _ _ _ _ _
                    exact mts_nil
                  · intro _ _ _ _ _
                    refine me_cmp (or_ne (units_of (room0 hr))) ?_ ?_
                    · exact me_var (i := 5) rfl (.inl rfl)
                    · refine me_ix (ir_all (units_of (room0 hr))) ?_ ?_
                      · exact me_var (i := 2) rfl (.inr (.inl rfl))
                      · exact me_var (i := 3) rfl (.inr (.inl rfl))
                · exact ma_nil
          · refine ms_one ?_
            · refine ms_ret ?_
              · exact me_non
          · exact ms_nil
        · refine ms_cons ?_ ?_
          · refine ms_set (i := 4) nd rfl (.inl rfl) ?_
            · exact me_var (i := 3) rfl (.inr (.inl rfl))
          · refine ms_cons ?_ ?_
            · refine ms_while owns_cx ?_ ?_
              · refine mt_w ?_
                · refine mw_and ?_ ?_
                  · refine mt_cmp or_gt ?_ ?_
                    · exact me_var (i := 4) rfl (.inl rfl)
                    · exact me_int
                  · refine mw_and1 ?_
                    · refine mt_cmp (or_eq (units_of (room0 hr))) ?_ ?_
                      · refine me_ix (ir_all (units_of (room0 hr))) ?_ ?_
                        · exact me_var (i := 2) rfl (.inr (.inl rfl))
                        · refine me_op or_sub ?_ ?_
                          · exact me_var (i := 4) rfl (.inl rfl)
                          · exact me_int
                      · refine me_ix (ir_all (units_of (room0 hr))) ?_ ?_
                        · exact me_var (i := 2) rfl (.inr (.inl rfl))
                        · exact me_var (i := 3) rfl (.inr (.inl rfl))
              · refine ms_one ?_
                · refine ms_aug (i := 4) nd rfl (.inl rfl) ?_ ip_sub'
                  · exact me_int
            · refine ms_one ?_
              · refine ms_ret ?_
                · refine me_tup (n := 2) ?_
                  · refine ma_cons ?_ ?_
                    · exact me_var (i := 4) rfl (.inl rfl)
                    · refine ma_cons ?_ ?_
                      · refine me_ix (ir_all (units_of (room0 hr))) ?_ ?_
                        · exact me_var (i := 2) rfl (.inr (.inl rfl))
                        · exact me_var (i := 3) rfl (.inr (.inl rfl))
                      · exact ma_nil
theorem nd_13 : (n_13 : List Str).Nodup := by decide +kernel
theorem sc_13 : FnScope n_13 ["_law_script", "_law_seed"] (defScope s_13) := ⟨rfl, rfl, rfl, by decide +kernel, rfl, by decide +kernel, by decide +kernel⟩
set_option maxHeartbeats 0 in
theorem d_13 (M : Md P w K mg base C k) (f : Addr) : bodyOk P w K mg base k "_law_mix" s_13 f n_13 (p_law_mix) := by
  intro cdv A outer s H E hr
  have nd := nd_13
  refine ms_cons ?_ ?_
  · refine ms_set (i := 2) nd rfl (.inl rfl) ?_
    · exact me_var (i := 1) rfl (.inl rfl)
  · refine ms_cons ?_ ?_
    · refine ms_for (own := [3]) owns_cx rfl ?_ ?_ ?_
      · refine mi_of ?_
        · exact me_var (i := 0) rfl (.inl rfl)
      · exact mg_n (i := 3) nd rfl (.inl rfl)
      · refine ms_one ?_
        · refine ms_set (i := 2) nd rfl (.inl rfl) ?_
          · refine me_op or_mod ?_ ?_
            · refine me_op or_add ?_ ?_
              · refine me_op or_add ?_ ?_
                · refine me_op or_mul ?_ ?_
                  · exact me_var (i := 2) rfl (.inl rfl)
                  · exact me_int
                · refine me_op or_mod ?_ ?_
                  · exact me_var (i := 3) rfl (.inl rfl)
                  · exact me_int
              · exact me_int
            · exact me_int
    · refine ms_one ?_
      · refine ms_ret ?_
        · refine me_lst (n := 3) ?_
          · refine ma_cons ?_ ?_
            · exact me_var (i := 2) rfl (.inl rfl)
            · refine ma_cons ?_ ?_
              · refine me_Ty (n := 1) cr_list rfl M.b_list rfl ?_
                · refine ma_cons ?_ ?_
                  · exact me_var (i := 0) rfl (.inl rfl)
                  · exact ma_nil
              · refine ma_cons ?_ ?_
                · exact me_int
                · exact ma_nil
theorem nd_14 : (n_14 : List Str).Nodup := by decide +kernel
theorem sc_14 : FnScope n_14 ["_law_h", "_law_many"] (defScope s_14) := ⟨rfl, rfl, rfl, by decide +kernel, rfl, by decide +kernel, by decide +kernel⟩
set_option maxHeartbeats 0 in
theorem d_14 (M : Md P w K mg base C k) (f : Addr) : bodyOk P w K mg base k "_law_next" s_14 f n_14 (p_law_next) := by
  intro cdv A outer s H E hr
  have nd := nd_14
  refine ms_cons ?_ ?_
  · refine ms_set (i := 2) nd rfl (.inl rfl) ?_
    · refine me_ix (ir_all (units_of (room0 hr))) ?_ ?_
      · refine me_op or_add ?_ ?_
        · refine me_ix (ir_all (units_of (room0 hr))) ?_ ?_
          · exact me_var (i := 0) rfl (.inl rfl)
          · exact me_int
        · refine me_lst (n := 1) ?_
          · refine ma_cons ?_ ?_
            · exact me_int
            · exact ma_nil
      · refine me_op or_mod ?_ ?_
        · refine me_ix (ir_all (units_of (room0 hr))) ?_ ?_
          · exact me_var (i := 0) rfl (.inl rfl)
          · exact me_int
        · refine me_B (n := 2) (cr_max2 rfl) rfl M.b_max rfl ?_
          · refine ma_cons ?_ ?_
            · exact me_int
            · refine ma_cons ?_ ?_
              · refine me_B (n := 1) cr_len rfl M.b_len rfl ?_
                · refine ma_cons ?_ ?_
                  · refine me_ix (ir_all (units_of (room0 hr))) ?_ ?_
                    · exact me_var (i := 0) rfl (.inl rfl)
                    · exact me_int
                  · exact ma_nil
              · exact ma_nil
  · refine ms_cons ?_ ?_
    · refine ms_if ?_ ?_ ?_
      · refine mt_cmp or_ge ?_ ?_
        · exact me_var (i := 2) rfl (.inl rfl)
        · refine me_op or_pow ?_ ?_
          · exact me_int
          · exact me_int
      · refine ms_cons ?_ ?_
        · refine ms_put (units_of (room0 hr)) ?_ ?_ ?_
          · refine me_ix (ir_all (units_of (room0 hr))) ?_ ?_
            · exact me_var (i := 0) rfl (.inl rfl)
            · exact me_int
          · refine me_op or_mod ?_ ?_
            · refine me_ix (ir_all (units_of (room0 hr))) ?_ ?_
              · exact me_var (i := 0) rfl (.inl rfl)
              · exact me_int
            · refine me_B (n := 1) cr_len rfl M.b_len rfl ?_
              · refine ma_cons ?_ ?_
                · refine me_ix (ir_all (units_of (room0 hr))) ?_ ?_
                  · exact me_var (i := 0) rfl (.inl rfl)
                  · exact me_int
                · exact ma_nil
          · refine me_op or_div ?_ ?_
            · exact me_var (i := 2) rfl (.inl rfl)
            · exact me_var (i := 1) rfl (.inl rfl)
        · refine ms_one ?_
          · refine ms_ret ?_
            · refine me_op or_mod ?_ ?_
              · exact me_var (i := 2) rfl (.inl rfl)
              · exact me_var (i := 1) rfl (.inl rfl)
      · exact ms_nil
    · refine ms_cons ?_ ?_
      · refine ms_put (units_of (room0 hr)) ?_ ?_ ?_
        · exact me_var (i := 0) rfl (.inl rfl)
        · exact me_int
        · refine me_op or_mod ?_ ?_
          · refine me_op or_add ?_ ?_
            · refine me_op or_add ?_ ?_
              · refine me_op or_mul ?_ ?_
                · refine me_ix (ir_all (units_of (room0 hr))) ?_ ?_
                  · exact me_var (i := 0) rfl (.inl rfl)
                  · exact me_int
                · exact me_int
              · refine me_op or_mul ?_ ?_
                · exact me_var (i := 2) rfl (.inl rfl)
                · exact me_int
            · exact me_int
          · exact me_int
      · refine ms_cons ?_ ?_
        · refine ms_put (units_of (room0 hr)) ?_ ?_ ?_
          · exact me_var (i := 0) rfl (.inl rfl)
          · exact me_int
          · refine me_op or_add ?_ ?_
            · refine me_ix (ir_all (units_of (room0 hr))) ?_ ?_
              · exact me_var (i := 0) rfl (.inl rfl)
              · exact me_int
            · exact me_int
        · refine ms_one ?_
          · refine ms_ret ?_
            · refine me_op or_mod ?_ ?_
              · refine me_op or_div ?_ ?_
                · refine me_ix (ir_all (units_of (room0 hr))) ?_ ?_
                  · exact me_var (i := 0) rfl (.inl rfl)
                  · exact me_int
                · exact me_int
              · exact me_var (i := 1) rfl (.inl rfl)
theorem nd_15 : (n_15 : List Str).Nodup := by decide +kernel
theorem sc_15 : FnScope n_15 ["_law_h", "_law_most", "_law_weight"] (defScope s_15) := ⟨rfl, rfl, rfl, by decide +kernel, rfl, by decide +kernel, by decide +kernel⟩
set_option maxHeartbeats 0 in
theorem d_15 (M : Md P w K mg base C k) (f : Addr) : bodyOk P w K mg base k "_law_world" s_15 f n_15 (p_law_world (C 14)) := by
  intro cdv A outer s H E hr
  have nd := nd_15
  refine ms_cons ?_ ?_
  · refine ms_set (i := 3) nd rfl (.inl rfl) ?_
    · refine me_Ty (n := 1) cr_tuple rfl M.b_tuple rfl ?_
      · refine ma_cons ?_ ?_
        · refine me_lc (own := [("_law_k", 7)]) rfl nd ?_ (blkOk_by (N := n_15) (sc := defScope s_15) (own := [("_law_k", 7)]) (by decide +kernel)) ?_ ?_ ?_
          · refine mi_rng rfl M.b_range ?_
            · refine me_op or_add ?_ ?_
              · exact me_int
              · refine me_call (m := 2) M.f_14 (room0 hr) takes_cx rfl ?_
                · refine ma_cons ?_ ?_
                  · exact me_var (i := 0) rfl (.inr (.inl rfl))
                  · refine ma_cons ?_ ?_
                    · refine me_op or_sub ?_ ?_
                      · exact me_var (i := 1) rfl (.inl rfl)
                      · exact me_int
                    · exact ma_nil
          · intro _ _ _ _ _
            exact mg_n (i := 7) nd rfl (.inl rfl)
          · intro _ _ _ _ _
            exact mts_nil
          · intro _ _ _ _ _
            refine me_call (m := 2) M.f_14 (room0 hr) takes_no rfl ?_
            · refine ma_cons ?_ ?_
              · exact me_var (i := 0) rfl (.inr (.inl rfl))
              · refine ma_cons ?_ ?_
                · refine me_op or_add ?_ ?_
                  · exact me_var (i := 2) rfl (.inr (.inl rfl))
                  · exact me_int
                · exact ma_nil
        · exact ma_nil
  · refine ms_cons ?_ ?_
    · refine ms_par (n := 2) (i := 4) (j := 5) rfl nd rfl rfl ?_
      · refine ma_cons ?_ ?_
        · refine me_lst (n := 0) ?_
          · exact ma_nil
        · refine ma_cons ?_ ?_
          · refine me_lst (n := 0) ?_
            · exact ma_nil
          · exact ma_nil
    · refine ms_cons ?_ ?_
      · refine ms_for (own := [6]) owns_cx rfl ?_ ?_ ?_
        · refine mi_rng rfl M.b_range ?_
          · refine me_B (n := 1) cr_len rfl M.b_len rfl ?_
            · refine ma_cons ?_ ?_
              · exact me_var (i := 3) rfl (.inl rfl)
              · exact ma_nil
        · exact mg_n (i := 6) nd rfl (.inr rfl)
        · refine ms_one ?_
          · refine ms_set (i := 4) nd rfl (.inl rfl) ?_
            · refine me_op or_add ?_ ?_
              · exact me_var (i := 4) rfl (.inl rfl)
              · refine me_lc (own := [("_law_one", 10)]) rfl nd ?_ (blkOk_by (N := n_15) (sc := defScope s_15) (own := [("_law_one", 10)]) (by decide +kernel)) ?_ ?_ ?_
                · refine mi_rng rfl M.b_range ?_
                  · exact me_var (i := 6) rfl (.inr (.inl rfl))
                · intro _ _ _ _ _
                  exact mg_n (i := 10) nd rfl (.inl rfl)
                · intro _ _ _ _ _
                  exact mts_nil
                · intro _ _ _ _ _
                  refine me_tup (n := 2) ?_
                  · refine ma_cons ?_ ?_
                    · exact me_var (i := 10) rfl (.inl rfl)
                    · refine ma_cons ?_ ?_
                      · exact me_var (i := 6) rfl (.inr (.inl rfl))
                      · exact ma_nil
      · refine ms_cons ?_ ?_
        · refine ms_for (own := [7]) owns_cx rfl ?_ ?_ ?_
          · refine mi_rng rfl M.b_range ?_
            · refine me_call (m := 2) M.f_14 (room0 hr) takes_cx rfl ?_
              · refine ma_cons ?_ ?_
                · exact me_var (i := 0) rfl (.inr (.inl rfl))
                · refine ma_cons ?_ ?_
                  · refine me_op or_add ?_ ?_
                    · refine me_B (n := 2) (cr_min2 rfl) rfl M.b_min rfl ?_
                      · refine ma_cons ?_ ?_
                        · exact me_int
                        · refine ma_cons ?_ ?_
                          · refine me_B (n := 1) cr_len rfl M.b_len rfl ?_
                            · refine ma_cons ?_ ?_
                              · exact me_var (i := 4) rfl (.inl rfl)
                              · exact ma_nil
                          · exact ma_nil
                    · exact me_int
                  · exact ma_nil
          · exact mg_n (i := 7) nd rfl (.inl rfl)
          · refine ms_one ?_
            · refine ms_expr ?_
              · refine me_M (n := 1) PySem.F.plainAttrs_list PySem.F.slot_list_append PySem.F.type_list_append mr_append chk_l ?_ ?_
                · exact me_var (i := 5) rfl (.inl rfl)
                · refine ma_cons ?_ ?_
                  · refine me_M (n := 1) PySem.F.plainAttrs_list PySem.F.slot_list_pop PySem.F.type_list_pop mr_popAt chk_l ?_ ?_
                    · exact me_var (i := 4) rfl (.inl rfl)
                    · refine ma_cons ?_ ?_
                      · refine me_call (m := 2) M.f_14 (room0 hr) takes_cx rfl ?_
                        · refine ma_cons ?_ ?_
                          · exact me_var (i := 0) rfl (.inr (.inl rfl))
                          · refine ma_cons ?_ ?_
                            · refine me_B (n := 1) cr_len rfl M.b_len rfl ?_
                              · refine ma_cons ?_ ?_
                                · exact me_var (i := 4) rfl (.inl rfl)
                                · exact ma_nil
                            · exact ma_nil
                      · exact ma_nil
                  · exact ma_nil
        · refine ms_cons ?_ ?_
          · refine ms_set (i := 8) nd rfl (.inl rfl) ?_
            · refine me_op or_add ?_ ?_
              · exact me_int
              · refine me_call (m := 2) M.f_14 (room0 hr) takes_cx rfl ?_
                · refine ma_cons ?_ ?_
                  · exact me_var (i := 0) rfl (.inr (.inl rfl))
                  · refine ma_cons ?_ ?_
                    · exact me_int
                    · exact ma_nil
          · refine ms_cons ?_ ?_
            · refine ms_set (i := 9) nd rfl (.inl rfl) ?_
              · refine me_lst (n := 3) ?_
                · refine ma_cons ?_ ?_
                  · refine me_tup (n := 2) ?_
                    · refine ma_cons ?_ ?_
                      · exact me_str
                      · refine ma_cons ?_ ?_
                        · refine me_op or_add ?_ ?_
                          · exact me_int
                          · refine me_call (m := 2) M.f_14 (room0 hr) takes_cx rfl ?_
                            · refine ma_cons ?_ ?_
                              · exact me_var (i := 0) rfl (.inr (.inl rfl))
                              · refine ma_cons ?_ ?_
                                · refine me_ix (ir_all (units_of (room0 hr))) ?_ ?_
                                  · refine me_lst (n := 2) ?_
                                    · refine ma_cons ?_ ?_
                                      · exact me_int
                                      · refine ma_cons ?_ ?_
                                        · exact me_int
                                        · exact ma_nil
                                  · refine me_call (m := 2) M.f_14 (room0 hr) takes_cx rfl ?_
                                    · refine ma_cons ?_ ?_
                                      · exact me_var (i := 0) rfl (.inr (.inl rfl))
                                      · refine ma_cons ?_ ?_
                                        · exact me_int
                                        · exact ma_nil
                                · exact ma_nil
                        · exact ma_nil
                  · refine ma_cons ?_ ?_
                    · refine me_tup (n := 1) ?_
                      · refine ma_cons ?_ ?_
                        · exact me_str
                        · exact ma_nil
                    · refine ma_cons ?_ ?_
                      · refine me_tup (n := 1) ?_
                        · refine ma_cons ?_ ?_
                          · exact me_str
                          · exact ma_nil
                      · exact ma_nil
            · refine ms_cons ?_ ?_
              · refine ms_expr ?_
                · refine me_M (n := 1) PySem.F.plainAttrs_list PySem.F.slot_list_append PySem.F.type_list_append mr_append chk_l ?_ ?_
                  · exact me_var (i := 9) rfl (.inl rfl)
                  · refine ma_cons ?_ ?_
                    · refine me_tup (n := 3) ?_
                      · refine ma_cons ?_ ?_
                        · exact me_str
                        · refine ma_cons ?_ ?_
                          · exact me_var (i := 8) rfl (.inl rfl)
                          · refine ma_cons ?_ ?_
                            · refine me_op or_add ?_ ?_
                              · exact me_var (i := 8) rfl (.inl rfl)
                              · refine me_call (m := 2) M.f_14 (room0 hr) takes_cx rfl ?_
                                · refine ma_cons ?_ ?_
                                  · exact me_var (i := 0) rfl (.inr (.inl rfl))
                                  · refine ma_cons ?_ ?_
                                    · exact me_int
                                    · exact ma_nil
                            · exact ma_nil
                    · exact ma_nil
              · refine ms_one ?_
                · refine ms_ret ?_
                  · refine me_tup (n := 3) ?_
                    · refine ma_cons ?_ ?_
                      · exact me_var (i := 3) rfl (.inl rfl)
                      · refine ma_cons ?_ ?_
                        · refine me_Ty (n := 1) cr_tuple rfl M.b_tuple rfl ?_
                          · refine ma_cons ?_ ?_
                            · exact me_var (i := 5) rfl (.inl rfl)
                            · exact ma_nil
                        · refine ma_cons ?_ ?_
                          · refine me_ix (ir_all (units_of (room0 hr))) ?_ ?_
                            · exact me_var (i := 9) rfl (.inl rfl)
                            · refine me_call (m := 2) M.f_14 (room0 hr) takes_cx rfl ?_
                              · refine ma_cons ?_ ?_
                                · exact me_var (i := 0) rfl (.inr (.inl rfl))
                                · refine ma_cons ?_ ?_
                                  · exact me_int
                                  · exact ma_nil
                          · exact ma_nil
theorem nd_16 : (n_16 : List Str).Nodup := by decide +kernel
theorem sc_16 : FnScope n_16 ["_law_h", "_law_world_here", "_law_most"] (defScope s_16) := ⟨rfl, rfl, rfl, by decide +kernel, rfl, by decide +kernel, by decide +kernel⟩
set_option maxHeartbeats 0 in
theorem d_16 (M : Md P w K mg base C k) (f : Addr) : bodyOk P w K mg base k "_law_turns" s_16 f n_16 (p_law_turns (C 14)) := by
  intro cdv A outer s H E hr
  have nd := nd_16
  refine ms_one ?_
  · refine ms_ret ?_
    · refine me_Ty (n := 1) cr_tuple rfl M.b_tuple rfl ?_
      · refine ma_cons ?_ ?_
        · refine me_lc (own := [("_law_k", 3)]) rfl nd ?_ (blkOk_by (N := n_16) (sc := defScope s_16) (own := [("_law_k", 3)]) (by decide +kernel)) ?_ ?_ ?_
          · refine mi_rng rfl M.b_range ?_
            · refine me_op or_add ?_ ?_
              · exact me_int
              · refine me_call (m := 2) M.f_14 (room0 hr) takes_cx rfl ?_
                · refine ma_cons ?_ ?_
                  · exact me_var (i := 0) rfl (.inr (.inl rfl))
                  · refine ma_cons ?_ ?_
                    · exact me_var (i := 2) rfl (.inl rfl)
                    · exact ma_nil
          · intro _ _ _ _ _
            exact mg_n (i := 3) nd rfl (.inl rfl)
          · intro _ _ _ _ _
            exact mts_nil
          · intro _ _ _ _ _
            refine me_call (m := 2) M.f_14 (room0 hr) takes_no rfl ?_
            · refine ma_cons ?_ ?_
              · exact me_var (i := 0) rfl (.inr (.inl rfl))
              · refine ma_cons ?_ ?_
                · refine me_B (n := 1) cr_len rfl M.b_len rfl ?_
                  · refine ma_cons ?_ ?_
                    · refine me_ix (ir_all (units_of (room0 hr))) ?_ ?_
                      · exact me_var (i := 1) rfl (.inr (.inl rfl))
                      · exact me_int
                    · exact ma_nil
                · exact ma_nil
        · exact ma_nil
theorem nd_17 : (n_17 : List Str).Nodup := by decide +kernel
theorem sc_17 : FnScope n_17 ["_law_script"] (defScope s_17) := ⟨rfl, rfl, rfl, by decide +kernel, rfl, by decide +kernel, by decide +kernel⟩
set_option maxHeartbeats 0 in
theorem d_17 (M : Md P w K mg base C k) (f : Addr) : bodyOk P w K mg base k "law" s_17 f n_17 (p_law_k21 (C 11) (C 14) (C 12) (C 6) (C 10) (C 7) (C 16) (C 15) (C 13)) := by
  intro cdv A outer s H E hr
  have nd := nd_17
  refine ms_cons ?_ ?_
  · refine ms_set (i := 1) nd rfl (.inl rfl) ?_
    · refine me_call (m := 2) M.f_13 (room0 hr) takes_cx rfl ?_
      · refine ma_cons ?_ ?_
        · exact me_var (i := 0) rfl (.inl rfl)
        · refine ma_cons ?_ ?_
          · exact me_int
          · exact ma_nil
  · refine ms_cons ?_ ?_
    · refine ms_for (own := [2]) owns_cx rfl ?_ ?_ ?_
      · refine mi_rng rfl M.b_range ?_
        · exact me_int
      · exact mg_n (i := 2) nd rfl (.inl rfl)
      · refine ms_cons ?_ ?_
        · refine ms_set (i := 3) nd rfl (.inl rfl) ?_
          · refine me_call (m := 3) M.f_15 (room0 hr) takes_cx rfl ?_
            · refine ma_cons ?_ ?_
              · exact me_var (i := 1) rfl (.inl rfl)
              · refine ma_cons ?_ ?_
                · exact me_int
                · refine ma_cons ?_ ?_
                  · exact me_int
                  · exact ma_nil
        · refine ms_one ?_
          · refine ms_if ?_ ?_ ?_
            · refine mt_cmp (or_ne (units_of (room0 hr))) ?_ ?_
              · refine me_ix (ir_all (units_of (room0 hr))) ?_ ?_
                · exact me_var (i := 3) rfl (.inl rfl)
                · exact me_int
              · exact me_tup (n := 0) ma_nil
            · refine ms_cons ?_ ?_
              · refine ms_par (n := 2) (i := 4) (j := 5) rfl nd rfl rfl ?_
                · refine ma_cons ?_ ?_
                  · refine me_call (m := 3) M.f_16 (room0 hr) takes_cx rfl ?_
                    · refine ma_cons ?_ ?_
                      · exact me_var (i := 1) rfl (.inl rfl)
                      · refine ma_cons ?_ ?_
                        · exact me_var (i := 3) rfl (.inl rfl)
                        · refine ma_cons ?_ ?_
                          · exact me_int
                          · exact ma_nil
                  · refine ma_cons ?_ ?_
                    · refine me_call (m := 3) M.f_16 (room0 hr) takes_cx rfl ?_
                      · refine ma_cons ?_ ?_
                        · exact me_var (i := 1) rfl (.inl rfl)
                        · refine ma_cons ?_ ?_
                          · exact me_var (i := 3) rfl (.inl rfl)
                          · refine ma_cons ?_ ?_
                            · exact me_int
                            · exact ma_nil
                    · exact ma_nil
              · refine ms_cons ?_ ?_
                · refine ms_set (i := 6) nd rfl (.inl rfl) ?_
                  · refine me_call (m := 2) M.f_6 (room0 hr) takes_cx rfl ?_
                    · refine ma_cons ?_ ?_
                      · exact me_var (i := 3) rfl (.inl rfl)
                      · refine ma_cons ?_ ?_
                        · exact me_var (i := 4) rfl (.inl rfl)
                        · exact ma_nil
                · refine ms_cons ?_ ?_
                  · refine ms_set (i := 7) nd rfl (.inl rfl) ?_
                    · refine me_op or_add ?_ ?_
                      · refine me_tup (n := 1) ?_
                        · refine ma_cons ?_ ?_
                          · exact me_var (i := 6) rfl (.inl rfl)
                          · exact ma_nil
                      · refine me_sl ?_ ?_ ?_
                        · exact me_var (i := 3) rfl (.inl rfl)
                        · refine mp_of ?_
                          · exact me_int
                        · exact mp_no
                  · refine ms_cons ?_ ?_
                    · refine ms_if ?_ ?_ ?_
                      · refine mt_cmp or_lt ?_ ?_
                        · refine me_B (n := 1) (cr_max' rfl (units_of (room0 hr))) rfl M.b_max rfl ?_
                          · refine ma_cons ?_ ?_
                            · exact me_var (i := 6) rfl (.inl rfl)
                            · exact ma_nil
                        · exact me_int
                      · refine ms_cons ?_ ?_
                        · refine ms_if ?_ ?_ ?_
                          · refine mt_cmp (or_ne (units_of (room0 hr))) ?_ ?_
                            · refine me_call (m := 2) M.f_6 (room0 hr) takes_cx rfl ?_
                              · refine ma_cons ?_ ?_
                                · exact me_var (i := 3) rfl (.inl rfl)
                                · refine ma_cons ?_ ?_
                                  · refine me_op or_add ?_ ?_
                                    · exact me_var (i := 4) rfl (.inl rfl)
                                    · exact me_var (i := 5) rfl (.inl rfl)
                                  · exact ma_nil
                            · refine me_call (m := 2) M.f_6 (room0 hr) takes_cx rfl ?_
                              · refine ma_cons ?_ ?_
                                · exact me_var (i := 7) rfl (.inl rfl)
                                · refine ma_cons ?_ ?_
                                  · exact me_var (i := 5) rfl (.inl rfl)
                                  · exact ma_nil
                          · refine ms_one ?_
                            · refine ms_ret ?_
                              · exact me_bl
                          · exact ms_nil
                        · refine ms_one ?_
                          · refine ms_if ?_ ?_ ?_
                            · refine mt_cmp (or_ne (units_of (room0 hr))) ?_ ?_
                              · refine me_call (m := 2) M.f_7 (room0 hr) takes_cx rfl ?_
                                · refine ma_cons ?_ ?_
                                  · exact me_var (i := 3) rfl (.inl rfl)
                                  · refine ma_cons ?_ ?_
                                    · refine me_op or_add ?_ ?_
                                      · exact me_var (i := 4) rfl (.inl rfl)
                                      · exact me_var (i := 5) rfl (.inl rfl)
                                    · exact ma_nil
                              · refine me_op or_add ?_ ?_
                                · refine me_call (m := 2) M.f_7 (room0 hr) takes_cx rfl ?_
                                  · refine ma_cons ?_ ?_
                                    · exact me_var (i := 3) rfl (.inl rfl)
                                    · refine ma_cons ?_ ?_
                                      · exact me_var (i := 4) rfl (.inl rfl)
                                      · exact ma_nil
                                · refine me_call (m := 2) M.f_7 (room0 hr) takes_cx rfl ?_
                                  · refine ma_cons ?_ ?_
                                    · exact me_var (i := 7) rfl (.inl rfl)
                                    · refine ma_cons ?_ ?_
                                      · exact me_var (i := 5) rfl (.inl rfl)
                                      · exact ma_nil
                            · refine ms_one ?_
                              · refine ms_ret ?_
                                · exact me_bl
                            · exact ms_nil
                      · exact ms_nil
                    · refine ms_cons ?_ ?_
                      · refine ms_asg (own := [8, 9]) ?_ ?_
                        · refine me_call (m := 2) M.f_10 (room0 hr) takes_cx rfl ?_
                          · refine ma_cons ?_ ?_
                            · exact me_var (i := 3) rfl (.inl rfl)
                            · refine ma_cons ?_ ?_
                              · exact me_var (i := 4) rfl (.inl rfl)
                              · exact ma_nil
                        · refine mg_t rfl ?_ (tl_cons (tl_cons (tl_nil)))
                          · refine mg_cons ?_ ?_
                            · exact mg_n (i := 8) nd rfl (.inl rfl)
                            · refine mg_cons ?_ ?_
                              · exact mg_n (i := 9) nd rfl (.inl rfl)
                              · exact mg_nil
                      · refine ms_cons ?_ ?_
                        · refine ms_set (i := 10) nd rfl (.inl rfl) ?_
                          · refine me_op or_add ?_ ?_
                            · exact me_var (i := 8) rfl (.inl rfl)
                            · refine me_call (m := 2) M.f_14 (room0 hr) takes_cx rfl ?_
                              · refine ma_cons ?_ ?_
                                · exact me_var (i := 1) rfl (.inl rfl)
                                · refine ma_cons ?_ ?_
                                  · exact me_int
                                  · exact ma_nil
                        · refine ms_cons ?_ ?_
                          · refine ms_set (i := 6) nd rfl (.inl rfl) ?_
                            · refine me_call (m := 3) M.f_11 (room0 hr) takes_cx rfl ?_
                              · refine ma_cons ?_ ?_
                                · exact me_var (i := 3) rfl (.inl rfl)
                                · refine ma_cons ?_ ?_
                                  · exact me_var (i := 4) rfl (.inl rfl)
                                  · refine ma_cons ?_ ?_
                                    · exact me_var (i := 10) rfl (.inl rfl)
                                    · exact ma_nil
                          · refine ms_cons ?_ ?_
                            · refine ms_if ?_ ?_ ?_
                              · refine mt_w ?_
                                · refine mw_or ?_ ?_
                                  · refine mt_cmp (or_ne (units_of (room0 hr))) ?_ ?_
                                    · refine me_call (m := 3) M.f_11 (room0 hr) takes_cx rfl ?_
                                      · refine ma_cons ?_ ?_
                                        · exact me_var (i := 3) rfl (.inl rfl)
                                        · refine ma_cons ?_ ?_
                                          · exact me_var (i := 4) rfl (.inl rfl)
                                          · refine ma_cons ?_ ?_
                                            · refine me_op or_add ?_ ?_
                                              · exact me_var (i := 10) rfl (.inl rfl)
                                              · exact me_var (i := 9) rfl (.inl rfl)
                                            · exact ma_nil
                                    · exact me_var (i := 6) rfl (.inl rfl)
                                  · refine mw_or1 ?_
                                    · refine mt_cmp (or_ne (units_of (room0 hr))) ?_ ?_
                                      · refine me_call (m := 3) M.f_11 (room0 hr) takes_cx rfl ?_
                                        · refine ma_cons ?_ ?_
                                          · exact me_var (i := 3) rfl (.inl rfl)
                                          · refine ma_cons ?_ ?_
                                            · refine me_op or_add ?_ ?_
                                              · exact me_var (i := 4) rfl (.inl rfl)
                                              · exact me_var (i := 4) rfl (.inl rfl)
                                            · refine ma_cons ?_ ?_
                                              · exact me_var (i := 10) rfl (.inl rfl)
                                              · exact ma_nil
                                      · exact me_var (i := 6) rfl (.inl rfl)
                              · refine ms_one ?_
                                · refine ms_ret ?_
                                  · exact me_bl
                              · exact ms_nil
                            · refine ms_cons ?_ ?_
                              · refine ms_if ?_ ?_ ?_
                                · refine mt_w ?_
                                  · refine mw_or ?_ ?_
                                    · refine mt_cmp (or_ne (units_of (room0 hr))) ?_ ?_
                                      · refine me_ix (ir_all (units_of (room0 hr))) ?_ ?_
                                        · refine me_call (m := 2) M.f_10 (room0 hr) takes_cx rfl ?_
                                          · refine ma_cons ?_ ?_
                                            · exact me_var (i := 3) rfl (.inl rfl)
                                            · refine ma_cons ?_ ?_
                                              · refine me_op or_add ?_ ?_
                                                · exact me_var (i := 4) rfl (.inl rfl)
                                                · exact me_var (i := 4) rfl (.inl rfl)
                                              · exact ma_nil
                                        · exact me_int
                                      · exact me_var (i := 8) rfl (.inl rfl)
                                    · refine mw_or1 ?_
                                      · refine mt_cmp (or_ne (units_of (room0 hr))) ?_ ?_
                                        · refine me_op or_mod ?_ ?_
                                          · refine me_ix (ir_all (units_of (room0 hr))) ?_ ?_
                                            · refine me_call (m := 2) M.f_10 (room0 hr) takes_cx rfl ?_
                                              · refine ma_cons ?_ ?_
                                                · exact me_var (i := 3) rfl (.inl rfl)
                                                · refine ma_cons ?_ ?_
                                                  · refine me_op or_add ?_ ?_
                                                    · exact me_var (i := 4) rfl (.inl rfl)
                                                    · exact me_var (i := 4) rfl (.inl rfl)
                                                  · exact ma_nil
                                            · exact me_int
                                          · exact me_var (i := 9) rfl (.inl rfl)
                                        · exact me_int
                                · refine ms_one ?_
                                  · refine ms_ret ?_
                                    · exact me_bl
                                · exact ms_nil
                              · refine ms_cons ?_ ?_
                                · refine ms_if ?_ ?_ ?_
                                  · refine mt_w ?_
                                    · refine mw_or ?_ ?_
                                      · refine mt_cmp (or_ne (units_of (room0 hr))) ?_ ?_
                                        · refine me_call (m := 2) M.f_12 (room0 hr) takes_cx rfl ?_
                                          · refine ma_cons ?_ ?_
                                            · exact me_var (i := 3) rfl (.inl rfl)
                                            · refine ma_cons ?_ ?_
                                              · exact me_var (i := 4) rfl (.inl rfl)
                                              · exact ma_nil
                                        · refine me_call (m := 2) M.f_12 (room0 hr) takes_cx rfl ?_
                                          · refine ma_cons ?_ ?_
                                            · exact me_var (i := 3) rfl (.inl rfl)
                                            · refine ma_cons ?_ ?_
                                              · refine me_op or_add ?_ ?_
                                                · exact me_var (i := 4) rfl (.inl rfl)
                                                · exact me_var (i := 4) rfl (.inl rfl)
                                              · exact ma_nil
                                      · refine mw_or1 ?_
                                        · refine mt_cmp (or_ne (units_of (room0 hr))) ?_ ?_
                                          · refine me_call (m := 3) M.f_11 (room0 hr) takes_cx rfl ?_
                                            · refine ma_cons ?_ ?_
                                              · exact me_var (i := 3) rfl (.inl rfl)
                                              · refine ma_cons ?_ ?_
                                                · exact me_var (i := 4) rfl (.inl rfl)
                                                · refine ma_cons ?_ ?_
                                                  · refine me_B (n := 1) cr_len rfl M.b_len rfl ?_
                                                    · refine ma_cons ?_ ?_
                                                      · exact me_var (i := 4) rfl (.inl rfl)
                                                      · exact ma_nil
                                                  · exact ma_nil
                                          · refine me_call (m := 2) M.f_6 (room0 hr) takes_cx rfl ?_
                                            · refine ma_cons ?_ ?_
                                              · exact me_var (i := 3) rfl (.inl rfl)
                                              · refine ma_cons ?_ ?_
                                                · exact me_var (i := 4) rfl (.inl rfl)
                                                · exact ma_nil
                                  · refine ms_one ?_
                                    · refine ms_ret ?_
                                      · exact me_bl
                                  · exact ms_nil
                                · refine ms_cons ?_ ?_
                                  · refine ms_set (i := 11) nd rfl (.inl rfl) ?_
                                    · refine me_call (m := 2) M.f_12 (room0 hr) takes_cx rfl ?_
                                      · refine ma_cons ?_ ?_
                                        · exact me_var (i := 3) rfl (.inl rfl)
                                        · refine ma_cons ?_ ?_
                                          · exact me_var (i := 4) rfl (.inl rfl)
                                          · exact ma_nil
                                  · refine ms_one ?_
                                    · refine ms_if ?_ ?_ ?_
                                      · refine mt_notN ?_
                                        · exact me_var (i := 11) rfl (.inl rfl)
                                      · refine ms_cons ?_ ?_
                                        · refine ms_if ?_ ?_ ?_
                                          · refine mt_cmp (or_ne (units_of (room0 hr))) ?_ ?_
                                            · refine me_call (m := 3) M.f_11 (room0 hr) takes_cx rfl ?_
                                              · refine ma_cons ?_ ?_
                                                · exact me_var (i := 3) rfl (.inl rfl)
                                                · refine ma_cons ?_ ?_
                                                  · exact me_var (i := 4) rfl (.inl rfl)
                                                  · refine ma_cons ?_ ?_
                                                    · refine me_op or_add ?_ ?_
                                                      · refine me_ix (ir_all (units_of (room0 hr))) ?_ ?_
                                                        · exact me_var (i := 11) rfl (.inl rfl)
                                                        · exact me_int
                                                      · refine me_call (m := 2) M.f_14 (room0 hr) takes_cx rfl ?_
                                                        · refine ma_cons ?_ ?_
                                                          · exact me_var (i := 1) rfl (.inl rfl)
                                                          · refine ma_cons ?_ ?_
                                                            · refine me_op or_pow ?_ ?_
                                                              · exact me_int
                                                              · exact me_int
                                                            · exact ma_nil
                                                    · exact ma_nil
                                            · refine me_ix (ir_all (units_of (room0 hr))) ?_ ?_
                                              · exact me_var (i := 11) rfl (.inl rfl)
                                              · exact me_int
                                          · refine ms_one ?_
                                            · refine ms_ret ?_
                                              · exact me_bl
                                          · exact ms_nil
                                        · refine ms_one ?_
                                          · refine ms_if ?_ ?_ ?_
                                            · refine mt_w ?_
                                              · refine mw_and ?_ ?_
                                                · refine mt_cmp or_gt ?_ ?_
                                                  · refine me_ix (ir_all (units_of (room0 hr))) ?_ ?_
                                                    · exact me_var (i := 11) rfl (.inl rfl)
                                                    · exact me_int
                                                  · exact me_int
                                                · refine mw_and1 ?_
                                                  · refine mt_cmp (or_eq (units_of (room0 hr))) ?_ ?_
                                                    · refine me_call (m := 3) M.f_11 (room0 hr) takes_cx rfl ?_
                                                      · refine ma_cons ?_ ?_
                                                        · exact me_var (i := 3) rfl (.inl rfl)
                                                        · refine ma_cons ?_ ?_
                                                          · exact me_var (i := 4) rfl (.inl rfl)
                                                          · refine ma_cons ?_ ?_
                                                            · refine me_op or_sub ?_ ?_
                                                              · refine me_ix (ir_all (units_of (room0 hr))) ?_ ?_
                                                                · exact me_var (i := 11) rfl (.inl rfl)
                                                                · exact me_int
                                                              · exact me_int
                                                            · exact ma_nil
                                                    · refine me_ix (ir_all (units_of (room0 hr))) ?_ ?_
                                                      · exact me_var (i := 11) rfl (.inl rfl)
                                                      · exact me_int
                                            · refine ms_one ?_
                                              · refine ms_ret ?_
                                                · exact me_bl
                                            · exact ms_nil
                                      · exact ms_nil
            · exact ms_nil
    · refine ms_one ?_
      · refine ms_ret ?_
        · exact me_bl
end
structure Fx (K : PySem.W.Frag) (mg : Str → Option Value) : Prop where
  b_len : mg "len" = none
  b_enumerate : mg "enumerate" = none
  b_min : mg "min" = none
  b_tuple : mg "tuple" = none
  b_list : mg "list" = none
  b_any : mg "any" = none
  b_max : mg "max" = none
  b_range : mg "range" = none
  c_MOST_PART : ∃ v u, mg "MOST_PART" = some u ∧ RelV v u ∧ ∀ ρ H, RpV K ρ H (.int 9) v
  c_PART : ∃ v u, mg "PART" = some u ∧ RelV v u ∧ ∀ ρ H, RpV K ρ H (.str "part") v
  c_SOME : ∃ v u, mg "SOME" = some u ∧ RelV v u ∧ ∀ ρ H, RpV K ρ H (.str "some") v
  c_EVEN : ∃ v u, mg "EVEN" = some u ∧ RelV v u ∧ ∀ ρ H, RpV K ρ H (.str "even") v
  c_HALF : ∃ v u, mg "HALF" = some u ∧ RelV v u ∧ ∀ ρ H, RpV K ρ H (.str "half") v
  c_MOST_PAIRS : ∃ v u, mg "MOST_PAIRS" = some u ∧ RelV v u ∧ ∀ ρ H, RpV K ρ H (.int 15) v
  c_LEAST : ∃ v u, mg "LEAST" = some u ∧ RelV v u ∧ ∀ ρ H, RpV K ρ H (.int 2) v
  c_MOST_WEIGHT : ∃ v u, mg "MOST_WEIGHT" = some u ∧ RelV v u ∧ ∀ ρ H, RpV K ρ H (.int 30) v
  c_MOST : ∃ v u, mg "MOST" = some u ∧ RelV v u ∧ ∀ ρ H, RpV K ρ H (.int 6) v
  c_MOST_MEETINGS : ∃ v u, mg "MOST_MEETINGS" = some u ∧ RelV v u ∧ ∀ ρ H, RpV K ρ H (.int 200) v
  c_MOST_FAR : ∃ v u, mg "MOST_FAR" = some u ∧ RelV v u ∧ ∀ ρ H, RpV K ρ H (.int 1000000000000) v
  h_0 : HasDef K mg "is_rule" s_0 ["rule"]
  h_1 : HasDef K mg "need_world" s_1 ["world"]
  h_2 : HasDef K mg "gift_of" s_2 ["rule", "heavy", "light"]
  h_3 : HasDef K mg "gift_told" s_3 ["rule", "weights", "pair"]
  h_4 : HasDef K mg "behind" s_4 ["rule", "weights", "pair"]
  h_5 : HasDef K mg "need_meetings" s_5 ["world", "meetings", "most"]
  h_6 : HasDef K mg "met" s_6 ["world", "meetings"]
  h_7 : HasDef K mg "gifts" s_7 ["world", "meetings"]
  h_8 : HasDef K mg "need_turns" s_8 ["world", "turns"]
  h_9 : HasDef K mg "walk" s_9 ["world", "turns"]
  h_10 : HasDef K mg "period" s_10 ["world", "turns"]
  h_11 : HasDef K mg "after" s_11 ["world", "turns", "many"]
  h_12 : HasDef K mg "rests" s_12 ["world", "turns"]
  h_13 : HasDef K mg "_law_mix" s_13 ["_law_script", "_law_seed"]
  h_14 : HasDef K mg "_law_next" s_14 ["_law_h", "_law_many"]
  h_15 : HasDef K mg "_law_world" s_15 ["_law_h", "_law_most", "_law_weight"]
  h_16 : HasDef K mg "_law_turns" s_16 ["_law_h", "_law_world_here", "_law_most"]
  h_17 : HasDef K mg "law" s_17 ["_law_script"]
theorem md_all {P : Program} {w : World} {K : PySem.W.Frag} {mg : Str → Option Value} {base : Heap} (X : Fx K mg) : ∀ k, Md P w K mg base (callAt Γ k) k
  | 0 => ⟨X.b_len, X.b_enumerate, X.b_min, X.b_tuple, X.b_list, X.b_any, X.b_max, X.b_range, X.c_MOST_PART, X.c_PART, X.c_SOME, X.c_EVEN, X.c_HALF, X.c_MOST_PAIRS, X.c_LEAST, X.c_MOST_WEIGHT, X.c_MOST, X.c_MOST_MEETINGS, X.c_MOST_FAR, X.h_0.zero rfl fun _ _ => rfl, X.h_1.zero rfl fun _ _ => rfl, X.h_2.zero rfl fun _ _ => rfl, X.h_3.zero rfl fun _ _ => rfl, X.h_4.zero rfl fun _ _ => rfl, X.h_5.zero rfl fun _ _ => rfl, X.h_6.zero rfl fun _ _ => rfl, X.h_7.zero rfl fun _ _ => rfl, X.h_8.zero rfl fun _ _ => rfl, X.h_9.zero rfl fun _ _ => rfl, X.h_10.zero rfl fun _ _ => rfl, X.h_11.zero rfl fun _ _ => rfl, X.h_12.zero rfl fun _ _ => rfl, X.h_13.zero rfl fun _ _ => rfl, X.h_14.zero rfl fun _ _ => rfl, X.h_15.zero rfl fun _ _ => rfl, X.h_16.zero rfl fun _ _ => rfl, X.h_17.zero rfl fun _ _ => rfl⟩
  | k + 1 => ⟨X.b_len, X.b_enumerate, X.b_min, X.b_tuple, X.b_list, X.b_any, X.b_max, X.b_range, X.c_MOST_PART, X.c_PART, X.c_SOME, X.c_EVEN, X.c_HALF, X.c_MOST_PAIRS, X.c_LEAST, X.c_MOST_WEIGHT, X.c_MOST, X.c_MOST_MEETINGS, X.c_MOST_FAR, X.h_0.succ sc_0 rfl (d_0 (md_all X k)), X.h_1.succ sc_1 rfl (d_1 (md_all X k)), X.h_2.succ sc_2 rfl (d_2 (md_all X k)), X.h_3.succ sc_3 rfl (d_3 (md_all X k)), X.h_4.succ sc_4 rfl (d_4 (md_all X k)), X.h_5.succ sc_5 rfl (d_5 (md_all X k)), X.h_6.succ sc_6 rfl (d_6 (md_all X k)), X.h_7.succ sc_7 rfl (d_7 (md_all X k)), X.h_8.succ sc_8 rfl (d_8 (md_all X k)), X.h_9.succ sc_9 rfl (d_9 (md_all X k)), X.h_10.succ sc_10 rfl (d_10 (md_all X k)), X.h_11.succ sc_11 rfl (d_11 (md_all X k)), X.h_12.succ sc_12 rfl (d_12 (md_all X k)), X.h_13.succ sc_13 rfl (d_13 (md_all X k)), X.h_14.succ sc_14 rfl (d_14 (md_all X k)), X.h_15.succ sc_15 rfl (d_15 (md_all X k)), X.h_16.succ sc_16 rfl (d_16 (md_all X k)), X.h_17.succ sc_17 rfl (d_17 (md_all X k))⟩
set_option maxHeartbeats 0 in
theorem all_mk {l : PySem.W.OpenLaw} {w : World} {K : PySem.W.Frag} {h : Heap} {mg : Str → Option Value} {fa : Addr} {m : Nat} (hm : m ≤ sizeLine) (X : K.In h) (G : h.Ns mainGlobals mg) (hfa : mg "law" = some (.ref fa))
    {f0 f1 f2 f3 f4 f5 f6 f7 f8 f9 f10 f11 f12 f13 f14 f15 f16 f17 : Addr} {od0 an0 od1 an1 od2 an2 od3 an3 od4 an4 od5 an5 od6 an6 od7 an7 od8 an8 od9 an9 od10 an10 od11 an11 od12 an12 od13 an13 od14 an14 od15 an15 od16 an16 od17 an17 : Option Addr} {sl0 sl1 sl2 sl3 sl4 sl5 sl6 sl7 sl8 sl9 sl10 sl11 sl12 sl13 sl14 sl15 sl16 sl17 : Array (Option Value)} {oc0 kV0 dc0 pm0 cd0 ct0 oc1 kV1 dc1 pm1 cd1 ct1 oc2 kV2 dc2 pm2 cd2 ct2 oc3 kV3 dc3 pm3 cd3 ct3 oc4 kV4 dc4 pm4 cd4 ct4 oc5 kV5 dc5 pm5 cd5 ct5 oc6 kV6 dc6 pm6 cd6 ct6 oc7 kV7 dc7 pm7 cd7 ct7 oc8 kV8 dc8 pm8 cd8 ct8 oc9 kV9 dc9 pm9 cd9 ct9 oc10 kV10 dc10 pm10 cd10 ct10 oc11 kV11 dc11 pm11 cd11 ct11 oc12 kV12 dc12 pm12 cd12 ct12 oc13 kV13 dc13 pm13 cd13 ct13 oc14 kV14 dc14 pm14 cd14 ct14 oc15 kV15 dc15 pm15 cd15 ct15 oc16 kV16 dc16 pm16 cd16 ct16 oc17 kV17 dc17 pm17 cd17 ct17 : Value} {t_MOST_PART t_PART t_SOME t_EVEN t_HALF t_MOST_PAIRS t_LEAST t_MOST_WEIGHT t_MOST t_MOST_MEETINGS t_MOST_FAR : Tok}
    (z_len : PySem.W.nsIn K mainGlobals "len" = some none)
    (z_enumerate : PySem.W.nsIn K mainGlobals "enumerate" = some none)
    (z_min : PySem.W.nsIn K mainGlobals "min" = some none)
    (z_tuple : PySem.W.nsIn K mainGlobals "tuple" = some none)
    (z_list : PySem.W.nsIn K mainGlobals "list" = some none)
    (z_any : PySem.W.nsIn K mainGlobals "any" = some none)
    (z_max : PySem.W.nsIn K mainGlobals "max" = some none)
    (z_range : PySem.W.nsIn K mainGlobals "range" = some none)
    (y_MOST_PART : PySem.W.nsIn K mainGlobals "MOST_PART" = some (some (.int 9 t_MOST_PART)))
    (y_PART : PySem.W.nsIn K mainGlobals "PART" = some (some (.str "part" t_PART)))
    (y_SOME : PySem.W.nsIn K mainGlobals "SOME" = some (some (.str "some" t_SOME)))
    (y_EVEN : PySem.W.nsIn K mainGlobals "EVEN" = some (some (.str "even" t_EVEN)))
    (y_HALF : PySem.W.nsIn K mainGlobals "HALF" = some (some (.str "half" t_HALF)))
    (y_MOST_PAIRS : PySem.W.nsIn K mainGlobals "MOST_PAIRS" = some (some (.int 15 t_MOST_PAIRS)))
    (y_LEAST : PySem.W.nsIn K mainGlobals "LEAST" = some (some (.int 2 t_LEAST)))
    (y_MOST_WEIGHT : PySem.W.nsIn K mainGlobals "MOST_WEIGHT" = some (some (.int 30 t_MOST_WEIGHT)))
    (y_MOST : PySem.W.nsIn K mainGlobals "MOST" = some (some (.int 6 t_MOST)))
    (y_MOST_MEETINGS : PySem.W.nsIn K mainGlobals "MOST_MEETINGS" = some (some (.int 200 t_MOST_MEETINGS)))
    (y_MOST_FAR : PySem.W.nsIn K mainGlobals "MOST_FAR" = some (some (.int 1000000000000 t_MOST_FAR)))
    (a0 : PySem.W.nsIn K mainGlobals "is_rule" = some (some (.ref f0))) (l0 : K.lookup f0 = some ⟨oc0, od0, .func (PySem.W.fnOf "is_rule" "is_rule" (defArgs s_0) (defBody s_0) (defScope s_0) .none kV0 dc0 pm0 an0 cd0 ct0), sl0⟩) (c0 : PySem.W.codeIn K cd0 "is_rule" = true) (k0 : PySem.W.keepIn K (.ref f0) = true)
    (a1 : PySem.W.nsIn K mainGlobals "need_world" = some (some (.ref f1))) (l1 : K.lookup f1 = some ⟨oc1, od1, .func (PySem.W.fnOf "need_world" "need_world" (defArgs s_1) (defBody s_1) (defScope s_1) .none kV1 dc1 pm1 an1 cd1 ct1), sl1⟩) (c1 : PySem.W.codeIn K cd1 "need_world" = true) (k1 : PySem.W.keepIn K (.ref f1) = true)
    (a2 : PySem.W.nsIn K mainGlobals "gift_of" = some (some (.ref f2))) (l2 : K.lookup f2 = some ⟨oc2, od2, .func (PySem.W.fnOf "gift_of" "gift_of" (defArgs s_2) (defBody s_2) (defScope s_2) .none kV2 dc2 pm2 an2 cd2 ct2), sl2⟩) (c2 : PySem.W.codeIn K cd2 "gift_of" = true) (k2 : PySem.W.keepIn K (.ref f2) = true)
    (a3 : PySem.W.nsIn K mainGlobals "gift_told" = some (some (.ref f3))) (l3 : K.lookup f3 = some ⟨oc3, od3, .func (PySem.W.fnOf "gift_told" "gift_told" (defArgs s_3) (defBody s_3) (defScope s_3) .none kV3 dc3 pm3 an3 cd3 ct3), sl3⟩) (c3 : PySem.W.codeIn K cd3 "gift_told" = true) (k3 : PySem.W.keepIn K (.ref f3) = true)
    (a4 : PySem.W.nsIn K mainGlobals "behind" = some (some (.ref f4))) (l4 : K.lookup f4 = some ⟨oc4, od4, .func (PySem.W.fnOf "behind" "behind" (defArgs s_4) (defBody s_4) (defScope s_4) .none kV4 dc4 pm4 an4 cd4 ct4), sl4⟩) (c4 : PySem.W.codeIn K cd4 "behind" = true) (k4 : PySem.W.keepIn K (.ref f4) = true)
    (a5 : PySem.W.nsIn K mainGlobals "need_meetings" = some (some (.ref f5))) (l5 : K.lookup f5 = some ⟨oc5, od5, .func (PySem.W.fnOf "need_meetings" "need_meetings" (defArgs s_5) (defBody s_5) (defScope s_5) .none kV5 dc5 pm5 an5 cd5 ct5), sl5⟩) (c5 : PySem.W.codeIn K cd5 "need_meetings" = true) (k5 : PySem.W.keepIn K (.ref f5) = true)
    (a6 : PySem.W.nsIn K mainGlobals "met" = some (some (.ref f6))) (l6 : K.lookup f6 = some ⟨oc6, od6, .func (PySem.W.fnOf "met" "met" (defArgs s_6) (defBody s_6) (defScope s_6) .none kV6 dc6 pm6 an6 cd6 ct6), sl6⟩) (c6 : PySem.W.codeIn K cd6 "met" = true) (k6 : PySem.W.keepIn K (.ref f6) = true)
    (a7 : PySem.W.nsIn K mainGlobals "gifts" = some (some (.ref f7))) (l7 : K.lookup f7 = some ⟨oc7, od7, .func (PySem.W.fnOf "gifts" "gifts" (defArgs s_7) (defBody s_7) (defScope s_7) .none kV7 dc7 pm7 an7 cd7 ct7), sl7⟩) (c7 : PySem.W.codeIn K cd7 "gifts" = true) (k7 : PySem.W.keepIn K (.ref f7) = true)
    (a8 : PySem.W.nsIn K mainGlobals "need_turns" = some (some (.ref f8))) (l8 : K.lookup f8 = some ⟨oc8, od8, .func (PySem.W.fnOf "need_turns" "need_turns" (defArgs s_8) (defBody s_8) (defScope s_8) .none kV8 dc8 pm8 an8 cd8 ct8), sl8⟩) (c8 : PySem.W.codeIn K cd8 "need_turns" = true) (k8 : PySem.W.keepIn K (.ref f8) = true)
    (a9 : PySem.W.nsIn K mainGlobals "walk" = some (some (.ref f9))) (l9 : K.lookup f9 = some ⟨oc9, od9, .func (PySem.W.fnOf "walk" "walk" (defArgs s_9) (defBody s_9) (defScope s_9) .none kV9 dc9 pm9 an9 cd9 ct9), sl9⟩) (c9 : PySem.W.codeIn K cd9 "walk" = true) (k9 : PySem.W.keepIn K (.ref f9) = true)
    (a10 : PySem.W.nsIn K mainGlobals "period" = some (some (.ref f10))) (l10 : K.lookup f10 = some ⟨oc10, od10, .func (PySem.W.fnOf "period" "period" (defArgs s_10) (defBody s_10) (defScope s_10) .none kV10 dc10 pm10 an10 cd10 ct10), sl10⟩) (c10 : PySem.W.codeIn K cd10 "period" = true) (k10 : PySem.W.keepIn K (.ref f10) = true)
    (a11 : PySem.W.nsIn K mainGlobals "after" = some (some (.ref f11))) (l11 : K.lookup f11 = some ⟨oc11, od11, .func (PySem.W.fnOf "after" "after" (defArgs s_11) (defBody s_11) (defScope s_11) .none kV11 dc11 pm11 an11 cd11 ct11), sl11⟩) (c11 : PySem.W.codeIn K cd11 "after" = true) (k11 : PySem.W.keepIn K (.ref f11) = true)
    (a12 : PySem.W.nsIn K mainGlobals "rests" = some (some (.ref f12))) (l12 : K.lookup f12 = some ⟨oc12, od12, .func (PySem.W.fnOf "rests" "rests" (defArgs s_12) (defBody s_12) (defScope s_12) .none kV12 dc12 pm12 an12 cd12 ct12), sl12⟩) (c12 : PySem.W.codeIn K cd12 "rests" = true) (k12 : PySem.W.keepIn K (.ref f12) = true)
    (a13 : PySem.W.nsIn K mainGlobals "_law_mix" = some (some (.ref f13))) (l13 : K.lookup f13 = some ⟨oc13, od13, .func (PySem.W.fnOf "_law_mix" "_law_mix" (defArgs s_13) (defBody s_13) (defScope s_13) .none kV13 dc13 pm13 an13 cd13 ct13), sl13⟩) (c13 : PySem.W.codeIn K cd13 "_law_mix" = true) (k13 : PySem.W.keepIn K (.ref f13) = true)
    (a14 : PySem.W.nsIn K mainGlobals "_law_next" = some (some (.ref f14))) (l14 : K.lookup f14 = some ⟨oc14, od14, .func (PySem.W.fnOf "_law_next" "_law_next" (defArgs s_14) (defBody s_14) (defScope s_14) .none kV14 dc14 pm14 an14 cd14 ct14), sl14⟩) (c14 : PySem.W.codeIn K cd14 "_law_next" = true) (k14 : PySem.W.keepIn K (.ref f14) = true)
    (a15 : PySem.W.nsIn K mainGlobals "_law_world" = some (some (.ref f15))) (l15 : K.lookup f15 = some ⟨oc15, od15, .func (PySem.W.fnOf "_law_world" "_law_world" (defArgs s_15) (defBody s_15) (defScope s_15) .none kV15 dc15 pm15 an15 cd15 ct15), sl15⟩) (c15 : PySem.W.codeIn K cd15 "_law_world" = true) (k15 : PySem.W.keepIn K (.ref f15) = true)
    (a16 : PySem.W.nsIn K mainGlobals "_law_turns" = some (some (.ref f16))) (l16 : K.lookup f16 = some ⟨oc16, od16, .func (PySem.W.fnOf "_law_turns" "_law_turns" (defArgs s_16) (defBody s_16) (defScope s_16) .none kV16 dc16 pm16 an16 cd16 ct16), sl16⟩) (c16 : PySem.W.codeIn K cd16 "_law_turns" = true) (k16 : PySem.W.keepIn K (.ref f16) = true)
    (a17 : PySem.W.nsIn K mainGlobals "law" = some (some (.ref f17))) (l17 : K.lookup f17 = some ⟨oc17, od17, .func (PySem.W.fnOf "law" "law" (defArgs s_17) (defBody s_17) (defScope s_17) .none kV17 dc17 pm17 an17 cd17 ct17), sl17⟩) (c17 : PySem.W.codeIn K cd17 "law" = true) (k17 : PySem.W.keepIn K (.ref f17) = true) :
    ∃ fd : FuncData, (∀ (s : Shared) (v : Value), BindsTo s fd ⟨[v], []⟩ [("_law_script", v)]) ∧ ∀ base : Heap, K.In base → base.Ns mainGlobals mg → FnOk l.prog w K mg base (L2.CX l.prog w) 48 fa fd ["_law_script"] (spLaw K (callAt Γ 12 17) m) := by
  have F : Fx K mg := ⟨PySem.W.mg_none_of X G z_len, PySem.W.mg_none_of X G z_enumerate, PySem.W.mg_none_of X G z_min, PySem.W.mg_none_of X G z_tuple, PySem.W.mg_none_of X G z_list, PySem.W.mg_none_of X G z_any, PySem.W.mg_none_of X G z_max, PySem.W.mg_none_of X G z_range, int_of X G y_MOST_PART, str_of X G y_PART, str_of X G y_SOME, str_of X G y_EVEN, str_of X G y_HALF, int_of X G y_MOST_PAIRS, int_of X G y_LEAST, int_of X G y_MOST_WEIGHT, int_of X G y_MOST, int_of X G y_MOST_MEETINGS, int_of X G y_MOST_FAR, hasDef_of X G a0 l0 c0 k0 (fun _ _ _ _ _ _ us hl => match us, hl with | [_], _ => rfl), hasDef_of X G a1 l1 c1 k1 (fun _ _ _ _ _ _ us hl => match us, hl with | [_], _ => rfl), hasDef_of X G a2 l2 c2 k2 (fun _ _ _ _ _ _ us hl => match us, hl with | [_, _, _], _ => rfl), hasDef_of X G a3 l3 c3 k3 (fun _ _ _ _ _ _ us hl => match us, hl with | [_, _, _], _ => rfl), hasDef_of X G a4 l4 c4 k4 (fun _ _ _ _ _ _ us hl => match us, hl with | [_, _, _], _ => rfl), hasDef_of X G a5 l5 c5 k5 (fun _ _ _ _ _ _ us hl => match us, hl with | [_, _, _], _ => rfl), hasDef_of X G a6 l6 c6 k6 (fun _ _ _ _ _ _ us hl => match us, hl with | [_, _], _ => rfl), hasDef_of X G a7 l7 c7 k7 (fun _ _ _ _ _ _ us hl => match us, hl with | [_, _], _ => rfl), hasDef_of X G a8 l8 c8 k8 (fun _ _ _ _ _ _ us hl => match us, hl with | [_, _], _ => rfl), hasDef_of X G a9 l9 c9 k9 (fun _ _ _ _ _ _ us hl => match us, hl with | [_, _], _ => rfl), hasDef_of X G a10 l10 c10 k10 (fun _ _ _ _ _ _ us hl => match us, hl with | [_, _], _ => rfl), hasDef_of X G a11 l11 c11 k11 (fun _ _ _ _ _ _ us hl => match us, hl with | [_, _, _], _ => rfl), hasDef_of X G a12 l12 c12 k12 (fun _ _ _ _ _ _ us hl => match us, hl with | [_, _], _ => rfl), hasDef_of X G a13 l13 c13 k13 (fun _ _ _ _ _ _ us hl => match us, hl with | [_, _], _ => rfl), hasDef_of X G a14 l14 c14 k14 (fun _ _ _ _ _ _ us hl => match us, hl with | [_, _], _ => rfl), hasDef_of X G a15 l15 c15 k15 (fun _ _ _ _ _ _ us hl => match us, hl with | [_, _, _], _ => rfl), hasDef_of X G a16 l16 c16 k16 (fun _ _ _ _ _ _ us hl => match us, hl with | [_, _, _], _ => rfl), hasDef_of X G a17 l17 c17 k17 (fun _ _ _ _ _ _ us hl => match us, hl with | [_], _ => rfl)⟩
  have e := hfa.symm.trans (PySem.W.mg_of X G a17)
  cases e
  exact ⟨_, fun s v => .of_eq rfl, fun base _ _ => law_fn (P := l.prog) (mg := mg) (base := base) (k := 11) (N := n_17) (body := (p_law_k21 (callAt Γ 11 11) (callAt Γ 11 14) (callAt Γ 11 12) (callAt Γ 11 6) (callAt Γ 11 10) (callAt Γ 11 7) (callAt Γ 11 16) (callAt Γ 11 15) (callAt Γ 11 13))) hm (fun_mk (st := s_17) l17 c17 k17) sc_17 rfl (d_17 (md_all F 11) fa)⟩
end Mn.Lk21
open PySem PySem.W PyProof.Rows
set_option maxRecDepth 100000 in
set_option maxHeartbeats 0 in
theorem PySem.Challenge.cw_heavierhall_k21_whole_meetings_put_toget_holds : PySem.Challenge.rw_heavierhall_k21_whole_meetings_put_toget.Holds := by
  w_on; o_law; k_head; (case hw => w_witness2)
  k_fill
  refine Mn.walk (l := PySem.Challenge.rw_heavierhall_k21_whole_meetings_put_toget) (x := "_law_script") (k := 48) (m := 63) (g := Mn.callAt Mn.Lk21.Γ 12 17) rfl (by decide) rfl ⟨rfl, by decide, by decide⟩ (fun w h Y => PySem.W.kIn_of Y) Mn.Lk21.pure_law ?F
  case F =>
    intro w mg fa h KX G hmg
    refine' Mn.Lk21.all_mk (by decide) KX G hmg ?z_len ?z_enumerate ?z_min ?z_tuple ?z_list ?z_any ?z_max ?z_range ?y_MOST_PART ?y_PART ?y_SOME ?y_EVEN ?y_HALF ?y_MOST_PAIRS ?y_LEAST ?y_MOST_WEIGHT ?y_MOST ?y_MOST_MEETINGS ?y_MOST_FAR ?a0 ?l0 ?c0 ?k0 ?a1 ?l1 ?c1 ?k1 ?a2 ?l2 ?c2 ?k2 ?a3 ?l3 ?c3 ?k3 ?a4 ?l4 ?c4 ?k4 ?a5 ?l5 ?c5 ?k5 ?a6 ?l6 ?c6 ?k6 ?a7 ?l7 ?c7 ?k7 ?a8 ?l8 ?c8 ?k8 ?a9 ?l9 ?c9 ?k9 ?a10 ?l10 ?c10 ?k10 ?a11 ?l11 ?c11 ?k11 ?a12 ?l12 ?c12 ?k12 ?a13 ?l13 ?c13 ?k13 ?a14 ?l14 ?c14 ?k14 ?a15 ?l15 ?c15 ?k15 ?a16 ?l16 ?c16 ?k16 ?a17 ?l17 ?c17 ?k17
    (case z_len => k_is); (case z_enumerate => k_is); (case z_min => k_is); (case z_tuple => k_is); (case z_list => k_is); (case z_any => k_is); (case z_max => k_is); (case z_range => k_is)
    (case y_MOST_PART => k_is); (case y_PART => k_is); (case y_SOME => k_is); (case y_EVEN => k_is); (case y_HALF => k_is); (case y_MOST_PAIRS => k_is); (case y_LEAST => k_is); (case y_MOST_WEIGHT => k_is)
    (case y_MOST => k_is); (case y_MOST_MEETINGS => k_is); (case y_MOST_FAR => k_is); (case a0 => k_is); (case l0 => k_is); (case c0 => k_is); (case k0 => k_is); (case a1 => k_is)
    (case l1 => k_is); (case c1 => k_is); (case k1 => k_is); (case a2 => k_is); (case l2 => k_is); (case c2 => k_is); (case k2 => k_is); (case a3 => k_is)
    (case l3 => k_is); (case c3 => k_is); (case k3 => k_is); (case a4 => k_is); (case l4 => k_is); (case c4 => k_is); (case k4 => k_is); (case a5 => k_is)
    (case l5 => k_is); (case c5 => k_is); (case k5 => k_is); (case a6 => k_is); (case l6 => k_is); (case c6 => k_is); (case k6 => k_is); (case a7 => k_is)
    (case l7 => k_is); (case c7 => k_is); (case k7 => k_is); (case a8 => k_is); (case l8 => k_is); (case c8 => k_is); (case k8 => k_is); (case a9 => k_is)
    (case l9 => k_is); (case c9 => k_is); (case k9 => k_is); (case a10 => k_is); (case l10 => k_is); (case c10 => k_is); (case k10 => k_is); (case a11 => k_is)
    (case l11 => k_is); (case c11 => k_is); (case k11 => k_is); (case a12 => k_is); (case l12 => k_is); (case c12 => k_is); (case k12 => k_is); (case a13 => k_is)
    (case l13 => k_is); (case c13 => k_is); (case k13 => k_is); (case a14 => k_is); (case l14 => k_is); (case c14 => k_is); (case k14 => k_is); (case a15 => k_is)
    (case l15 => k_is); (case c15 => k_is); (case k15 => k_is); (case a16 => k_is); (case l16 => k_is); (case c16 => k_is); (case k16 => k_is); (case a17 => k_is)
    (case l17 => k_is); (case c17 => k_is); (case k17 => k_is)
